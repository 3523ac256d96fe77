import PyProof.Rows.All
import Wide.All
import OpenK.AllK
import Wide.FinOn
import HandS.ForMost
import HandS.Exc
import HandS.Defaults
import KE.SortData
import KE.SortKeyHeap
import HandS.IsInst
import HandS.More
import HandS.Wide
import HandS.Head0
import HandS.Head1
import HandS.Head2
import HandS.HeadEnd
import HandS.HeadHook1
import HandS.HeadHook2
import PySem.Challenge.RW_foreverdays_k30_whole_kept_clocks
set_option Elab.async false
set_option linter.all false
set_option maxRecDepth 100000
set_option maxHeartbeats 2000000
/-! DL1: plain data upon the abstract heap; what an expression, a statement does to them. -/
namespace DL
open PySem L2

abbrev Fg := PySem.W.Frag
abbrev Pos' := PySem.Pos
def Ex (H H' : Hp) : Prop := ∀ a o, H a = some o → H' a = some o
theorem Ex.refl (H : Hp) : Ex H H := fun _ _ h => h
theorem Ex.trans {H H1 H2 : Hp} (a : Ex H H1) (b : Ex H1 H2) : Ex H H2 := fun x o h => b x o (a x o h)
theorem Ex.nn {H H' : Hp} (e : Ex H H') {p : Addr} (h : H p ≠ none) : H' p ≠ none := by
  cases q : H p with
  | none => exact absurd q h
  | some o => rw [e p o q]; exact fun z => nomatch z
theorem Ex.back {H H' : Hp} (e : Ex H H') {p : Addr} (h : H' p = none) : H p = none := by
  cases q : H p with
  | none => rfl
  | some o => rw [e p o q] at h; cases h
theorem Ex.nw {H : Hp} {p : Addr} {o : HO} (h : H p = none) : Ex H (upd H p o) := fun a u e => by
  rw [upd_ne (ne_of_none e h)]; exact e
theorem Ex.rd {H H' : Hp} (e : Ex H H') {a : Addr} {u : HO} (h : Rd H a u) : Rd H' a u := by
  rcases h with h | ⟨o, h⟩
  · exact .inl (e a _ h)
  · exact .inr ⟨o, e a _ h⟩
theorem Ex.sl {K : Fg} {H H' : Hp} (e : Ex H H') {a : Addr} {xs : List V} (h : SqL K H a xs) : SqL K H' a xs := h.imp e.rd id
theorem Ex.st {K : Fg} {H H' : Hp} (e : Ex H H') {a : Addr} {xs : List V} (h : SqT K H a xs) : SqT K H' a xs := h.imp e.rd id

/-- a kind of plain data: how a value stands for it -/
class Enc (α : Type) where
  rep : Fg → Hp → V → α → Prop
  mono : ∀ {K : Fg} {M M' : Hp} {v : V} {a : α}, Ex M M' → rep K M v a → rep K M' v a
/-- kinds whose values do not lean on the heap -/
class Flat (α : Type) extends Enc α where
  val : α → V
  iff : ∀ {K : Fg} {M : Hp} {v : V} {a : α}, rep K M v a ↔ v = val a

instance : Flat Int where
  rep _ _ v i := v = .int i
  mono _ h := h
  val i := .int i
  iff := Iff.rfl
instance : Flat Bool where
  rep _ _ v i := v = .bl i
  mono _ h := h
  val i := .bl i
  iff := Iff.rfl
instance : Flat PySem.Str where
  rep _ _ v i := v = .str i
  mono _ h := h
  val i := .str i
  iff := Iff.rfl
instance : Flat Unit where
  rep _ _ v _ := v = .non
  mono _ h := h
  val _ := .non
  iff := Iff.rfl

theorem Paired.imp {α β : Type} {β' : Type 1} {F G : α → β → Prop} {l : List α} {m : List β} (h : Paired F l m) (f : ∀ a b, F a b → G a b) : Paired G l m := by
  induction h with
  | nil => exact .nil
  | cons a _ ih => exact .cons (f _ _ a) ih
/-- pairs by place, over any universe -/
inductive Pr {α : Type u} {β : Type v} (F : α → β → Prop) : List α → List β → Prop
  | nil : Pr F [] []
  | cons {a b l m} : F a b → Pr F l m → Pr F (a :: l) (b :: m)
namespace Pr
variable {α : Type u} {β : Type v} {F G : α → β → Prop} {l l' : List α} {m m' : List β}
theorem imp (h : Pr F l m) (f : ∀ a b, F a b → G a b) : Pr G l m := by
  induction h with
  | nil => exact .nil
  | cons a _ ih => exact .cons (f _ _ a) ih
theorem len (h : Pr F l m) : l.length = m.length := by
  induction h with
  | nil => rfl
  | cons _ _ ih => exact congrArg (· + 1) ih
theorem app (h : Pr F l m) (h' : Pr F l' m') : Pr F (l ++ l') (m ++ m') := by
  induction h with
  | nil => exact h'
  | cons a _ ih => exact .cons a ih
theorem snoc (h : Pr F l m) {a : α} {b : β} (h' : F a b) : Pr F (l ++ [a]) (m ++ [b]) := h.app (.cons h' .nil)
theorem get (h : Pr F l m) : ∀ {i : Nat} {b : β}, m[i]? = some b → ∃ a, l[i]? = some a ∧ F a b := by
  induction h with
  | nil => intro i b e; simp at e
  | @cons a b' l m q _ ih =>
    intro i b e
    cases i with
    | zero => simp at e; subst e; exact ⟨a, rfl, q⟩
    | succ i => simpa using ih (i := i) (b := b) (by simpa using e)
theorem getL (h : Pr F l m) : ∀ {i : Nat} {a : α}, l[i]? = some a → ∃ b, m[i]? = some b ∧ F a b := by
  induction h with
  | nil => intro i b e; simp at e
  | @cons a b' l m q _ ih =>
    intro i b e
    cases i with
    | zero => simp at e; subst e; exact ⟨b', rfl, q⟩
    | succ i => simpa using ih (i := i) (a := b) (by simpa using e)
theorem set (h : Pr F l m) : ∀ {i : Nat} {a : α} {b : β}, F a b → Pr F (l.set i a) (m.set i b) := by
  induction h with
  | nil => intro i a b _; exact .nil
  | @cons a b' l m q t ih =>
    intro i x y e
    cases i with
    | zero => exact .cons e t
    | succ i => exact .cons q (ih e)
theorem take (h : Pr F l m) : ∀ n : Nat, Pr F (l.take n) (m.take n) := by
  induction h with
  | nil => intro n; simp; exact .nil
  | @cons a b l m q t ih =>
    intro n
    cases n with
    | zero => exact .nil
    | succ n => exact .cons q (ih n)
theorem drop (h : Pr F l m) : ∀ n : Nat, Pr F (l.drop n) (m.drop n) := by
  induction h with
  | nil => intro n; simp; exact .nil
  | @cons a b l m q t ih =>
    intro n
    cases n with
    | zero => exact .cons q t
    | succ n => exact ih n
theorem rev (h : Pr F l m) : Pr F l.reverse m.reverse := by
  induction h with
  | nil => exact .nil
  | @cons a b l m q t ih =>
    rw [List.reverse_cons, List.reverse_cons]
    exact ih.snoc q
theorem erase (h : Pr F l m) : ∀ n : Nat, Pr F (l.eraseIdx n) (m.eraseIdx n) := by
  induction h with
  | nil => intro n; simp; exact .nil
  | @cons a b l m q t ih =>
    intro n
    cases n with
    | zero => exact t
    | succ n => exact .cons q (ih n)
theorem map_eq {γ : Type w} (f : β → γ) {F : γ → β → Prop} (hF : ∀ c b, F c b → c = f b) {l : List γ} {m : List β} (h : Pr F l m) : l = m.map f := by
  induction h with
  | nil => rfl
  | cons q _ ih => rw [List.map_cons, ← ih, hF _ _ q]
theorem of_map {γ : Type w} {f : β → γ} {F : γ → β → Prop} (hF : ∀ b, F (f b) b) : ∀ m : List β, Pr F (m.map f) m
  | [] => .nil
  | b :: m => .cons (hF b) (of_map hF m)
end Pr

section
variable {α β γ : Type}
/-- a list -/
instance encList [Enc α] : Enc (List α) where
  rep K M v xs := ∃ p vs, v = .ref p ∧ SqL K M p vs ∧ Pr (Enc.rep K M) vs xs
  mono e := fun ⟨p, vs, h1, h2, h3⟩ => ⟨p, vs, h1, e.sl h2, h3.imp fun _ _ => Enc.mono e⟩
/-- a tuple of any length whose items are of one kind -/
structure Tup (α : Type) where
  l : List α
  deriving DecidableEq, Inhabited
instance encTup [Enc α] : Enc (Tup α) where
  rep K M v xs := ∃ p vs, v = .ref p ∧ SqT K M p vs ∧ Pr (Enc.rep K M) vs xs.l
  mono e := fun ⟨p, vs, h1, h2, h3⟩ => ⟨p, vs, h1, e.st h2, h3.imp fun _ _ => Enc.mono e⟩
instance encProd [Enc α] [Enc β] : Enc (α × β) where
  rep K M v x := ∃ p a b, v = .ref p ∧ SqT K M p [a, b] ∧ Enc.rep K M a x.1 ∧ Enc.rep K M b x.2
  mono e := fun ⟨p, a, b, h1, h2, h3, h4⟩ => ⟨p, a, b, h1, e.st h2, Enc.mono e h3, Enc.mono e h4⟩
/-- a tuple of three -/
structure T3 (α β γ : Type) where
  a : α
  b : β
  c : γ
  deriving DecidableEq, Inhabited
instance encT3 [Enc α] [Enc β] [Enc γ] : Enc (T3 α β γ) where
  rep K M v x := ∃ p a b c, v = .ref p ∧ SqT K M p [a, b, c] ∧ Enc.rep K M a x.a ∧ Enc.rep K M b x.b ∧ Enc.rep K M c x.c
  mono e := fun ⟨p, a, b, c, h1, h2, h3, h4, h5⟩ => ⟨p, a, b, c, h1, e.st h2, Enc.mono e h3, Enc.mono e h4, Enc.mono e h5⟩
/-- None, or a thing -/
instance encOpt [Enc α] : Enc (Option α) where
  rep K M v x := match x with
    | none => v = .non
    | some a => v ≠ .non ∧ Enc.rep K M v a
  mono {K M M' v a} e h := by
    cases a with
    | none => exact h
    | some a => exact ⟨h.1, Enc.mono e h.2⟩
end

/-! ### slots, cells -/
/-- what a name holds: nothing known, plain data, an object of one's own (by its number), a value -/
inductive Slot : Type 1
  | no
  | d (α : Type) (i : Enc α) (a : α)
  | c (j : Nat)
  | v (x : V)
@[reducible] def Slot.of {α : Type} [i : Enc α] (a : α) : Slot := .d α i a
/-- an object of one's own -/
inductive Cell : Type 1
  /-- a list of data of one kind -/
  | tl (α : Type) (i : Enc α) (xs : List α)
  /-- a list -/
  | lst (xs : List Slot)
  /-- a dict whose keys are ints and texts -/
  | dk (kvs : List (Key × Slot))
  /-- a dict whose keys are tuples -/
  | dt (kvs : List (List Key × Slot))
  /-- an instance of the class at C -/
  | ins (C : Addr) (fs : List (PySem.Str × Slot))
  /-- no more one's own -/
  | dead
@[reducible] def Cell.of {α : Type} [i : Enc α] (xs : List α) : Cell := .tl α i xs

def SlotOk (K : Fg) (M : Hp) (ps : List Addr) : Slot → V → Prop
  | .no, _ => True
  | .d _ i a, v => i.rep K M v a
  | .c j, v => ∃ p, ps[j]? = some p ∧ v = .ref p
  | .v x, v => v = x
def CellOk (K : Fg) (M : Hp) (ps : List Addr) : Cell → HO → Prop
  | .tl _ i xs, o => ∃ vs, o = .lst vs ∧ Pr (i.rep K M) vs xs
  | .lst xs, o => ∃ vs, o = .lst vs ∧ Pr (fun v s => SlotOk K M ps s v) vs xs
  | .dk kvs, o => ∃ ws, o = .dK ws ∧ Pr (fun (w : Key × V) (s : Key × Slot) => w.1 = s.1 ∧ SlotOk K M ps s.2 w.2) ws kvs
  | .dt kvs, o => ∃ ws, o = .dT ws ∧ Pr (fun (w : List Key × V) (s : List Key × Slot) => w.1 = s.1 ∧ SlotOk K M ps s.2 w.2) ws kvs
  | .ins C fs, o => ∃ dx ws, o = .ins C dx ws ∧ Pr (fun (w : PySem.Str × V) (s : PySem.Str × Slot) => w.1 = s.1 ∧ SlotOk K M ps s.2 w.2) ws fs
  | .dead, _ => True
/-- more cells behind -/
def Pre (ps ps' : List Addr) : Prop := ∃ t, ps' = ps ++ t
theorem Pre.refl (ps : List Addr) : Pre ps ps := ⟨[], by simp⟩
theorem Pre.trans {a b c : List Addr} (h : Pre a b) (h' : Pre b c) : Pre a c := by
  obtain ⟨t, rfl⟩ := h
  obtain ⟨u, rfl⟩ := h'
  exact ⟨t ++ u, by simp⟩
theorem Pre.get {a b : List Addr} (h : Pre a b) {j : Nat} {p : Addr} (e : a[j]? = some p) : b[j]? = some p := by
  obtain ⟨t, rfl⟩ := h
  obtain ⟨hl, q⟩ := List.getElem?_eq_some_iff.mp e
  rw [List.getElem?_append_left hl]; exact e
theorem SlotOk.mono {K : Fg} {M M' : Hp} {ps ps' : List Addr} {s : Slot} {v : V} (e : Ex M M') (p : Pre ps ps') (h : SlotOk K M ps s v) : SlotOk K M' ps' s v := by
  cases s with
  | no => trivial
  | d α i a => exact i.mono e h
  | c j => obtain ⟨q, h1, h2⟩ := h; exact ⟨q, p.get h1, h2⟩
  | v x => exact h
theorem CellOk.mono {K : Fg} {M M' : Hp} {ps ps' : List Addr} {s : Cell} {v : HO} (e : Ex M M') (p : Pre ps ps') (h : CellOk K M ps s v) : CellOk K M' ps' s v := by
  cases s with
  | tl α i xs => obtain ⟨vs, h1, h2⟩ := h; exact ⟨vs, h1, h2.imp fun _ _ => i.mono e⟩
  | lst xs => obtain ⟨vs, h1, h2⟩ := h; exact ⟨vs, h1, h2.imp fun _ _ => SlotOk.mono e p⟩
  | dk xs => obtain ⟨vs, h1, h2⟩ := h; exact ⟨vs, h1, h2.imp fun _ _ q => ⟨q.1, SlotOk.mono e p q.2⟩⟩
  | dt xs => obtain ⟨vs, h1, h2⟩ := h; exact ⟨vs, h1, h2.imp fun _ _ q => ⟨q.1, SlotOk.mono e p q.2⟩⟩
  | ins C xs => obtain ⟨dx, vs, h1, h2⟩ := h; exact ⟨dx, vs, h1, h2.imp fun _ _ q => ⟨q.1, SlotOk.mono e p q.2⟩⟩
  | dead => trivial

/-- the state: K the written part; M0, B: what was plain data at the entry, what must stay; σ the names; M the plain data, H the heap; env: what the names hold; ps, cs: the objects of one's own -/
abbrev NameOk (K : Fg) (M : Hp) (ps : List Addr) (ov : Option V) (s : Slot) : Prop := s = .no ∨ ∃ v, ov = some v ∧ SlotOk K M ps s v
abbrev OwnOk (K : Fg) (M B H : Hp) (ps : List Addr) (p : Addr) (c : Cell) : Prop := c = .dead ∨ (M p = none ∧ B p = none ∧ ∃ o, H p = some o ∧ CellOk K M ps c o)
structure Sta (K : Fg) (M0 B : Hp) (σ : St) (M H : Hp) (env : List Slot) (ps : List Addr) (cs : List Cell) : Prop where
  mh : Ex M H
  m0 : Ex M0 M
  bh : Ex B H
  bm : ∀ p, B p ≠ none → M0 p = none → M p = none
  sl : Pr (NameOk K M ps) σ env
  cl : Pr (OwnOk K M B H ps) ps cs
  hv : ∀ p ∈ ps, H p ≠ none
  nd : ps.Nodup
section
variable {K : Fg} {M0 B M M' H H' : Hp} {σ : St} {env : List Slot} {ps ps' : List Addr} {cs : List Cell}
theorem Sta.grow (S : Sta K M0 B σ M H env ps cs) (e : Ex M M') (f : Ex H H') (g : Ex M' H') (h : ∀ p, H p ≠ none → M p = none → M' p = none) : Sta K M0 B σ M' H' env ps cs where
  mh := g
  m0 := S.m0.trans e
  bh := S.bh.trans f
  bm := fun p h1 h2 => h p (S.bh.nn h1) (S.bm p h1 h2)
  sl := S.sl.imp fun _ _ q => q.imp id fun ⟨v, a, b⟩ => ⟨v, a, b.mono e (Pre.refl _)⟩
  cl := S.cl.imp fun p c q => q.imp id fun ⟨a, b, o, c, d⟩ => ⟨h p (by rw [c]; exact fun z => nomatch z) a, b, o, f p o c, d.mono e (Pre.refl _)⟩
  hv := fun p hp => f.nn (S.hv p hp)
  nd := S.nd
theorem Ex.upd2 {M H : Hp} (e : Ex M H) (p : Addr) (o : HO) : Ex (upd M p o) (upd H p o) := fun a u q => by
  by_cases h : a = p
  · subst h; rw [upd_same] at q ⊢; exact q
  · rw [upd_ne h] at q ⊢; exact e a u q
/-- a new object of plain data -/
theorem Sta.new (S : Sta K M0 B σ M H env ps cs) {p : Addr} {o : HO} (hp : H p = none) : Sta K M0 B σ (upd M p o) (upd H p o) env ps cs :=
  S.grow (Ex.nw (S.mh.back hp)) (Ex.nw hp) (S.mh.upd2 p o) fun q h1 h2 => by
    have : q ≠ p := fun z => h1 (by rw [z]; exact hp)
    rw [upd_ne this]; exact h2
/-- .. that the plain data do not count -/
theorem Sta.newH (S : Sta K M0 B σ M H env ps cs) {p : Addr} {o : HO} (hp : H p = none) : Sta K M0 B σ M (upd H p o) env ps cs :=
  S.grow (Ex.refl _) (Ex.nw hp) (S.mh.trans (Ex.nw hp)) fun _ _ h => h
theorem Sta.slot (S : Sta K M0 B σ M H env ps cs) {i : Nat} {s : Slot} (h : env[i]? = some s) (hn : s ≠ .no) : ∃ v, σ[i]? = some (some v) ∧ SlotOk K M ps s v := by
  obtain ⟨ov, h1, h2⟩ := S.sl.get h
  rcases h2 with h2 | ⟨v, h2, h3⟩
  · exact absurd h2 hn
  · exact ⟨v, by rw [h1, h2], h3⟩
theorem Sta.set (S : Sta K M0 B σ M H env ps cs) {i : Nat} {s : Slot} {v : V} (h : SlotOk K M ps s v) : Sta K M0 B (σ.set i (some v)) M H (env.set i s) ps cs :=
  { S with sl := S.sl.set (.inr ⟨v, rfl, h⟩) }
theorem Sta.forget (S : Sta K M0 B σ M H env ps cs) {i : Nat} (ov : Option V) : Sta K M0 B (σ.set i ov) M H (env.set i .no) ps cs :=
  { S with sl := S.sl.set (.inl rfl) }
/-- the names are other ones -/
theorem Sta.names (S : Sta K M0 B σ M H env ps cs) {σ' : St} {env' : List Slot} (h : Pr (NameOk K M ps) σ' env') : Sta K M0 B σ' M H env' ps cs :=
  { S with sl := h }
theorem Sta.cell (S : Sta K M0 B σ M H env ps cs) {j : Nat} {c : Cell} (h : cs[j]? = some c) (hn : c ≠ .dead) : ∃ p o, ps[j]? = some p ∧ M p = none ∧ B p = none ∧ H p = some o ∧ CellOk K M ps c o := by
  obtain ⟨p, h1, h2⟩ := S.cl.get h
  rcases h2 with h2 | ⟨h2, h3, o, h4, h5⟩
  · exact absurd h2 hn
  · exact ⟨p, o, h1, h2, h3, h4, h5⟩
theorem nd_ne {l : List Addr} (h : l.Nodup) {i j : Nat} {a b : Addr} (x : l[i]? = some a) (y : l[j]? = some b) (hij : i ≠ j) : a ≠ b := by
  intro e
  subst e
  exact hij (nd_ix h x y)
/-- at one place other -/
theorem Pr.at {α : Type u} {β : Type v} {F G : α → β → Prop} : ∀ {l : List α} {m : List β} {k : Nat} {p : α} {c : β}, Pr F l m → l[k]? = some p → (∀ i a b, l[i]? = some a → i ≠ k → F a b → G a b) → G p c → Pr G l (m.set k c)
  | _, _, k, p, c, .nil, e, _, _ => by simp at e
  | _, _, 0, p, c, @Pr.cons _ _ _ a b l m q t, e, f, g => by
    have e' : a = p := by simpa using e
    subst e'
    refine .cons g ?_
    have f' : ∀ i x b, l[i]? = some x → F x b → G x b := fun i x b h => f (i + 1) x b (by simpa using h) (by omega)
    clear f e
    induction t with
    | nil => exact .nil
    | cons q' _ ih => exact .cons (f' 0 _ _ rfl q') (ih fun i x b h => f' (i + 1) x b (by simpa using h))
  | _, _, k + 1, p, c, @Pr.cons _ _ _ a b l m q t, e, f, g => .cons (f 0 a b rfl (by omega) q) (Pr.at t (by simpa using e) (fun i x b h hk => f (i + 1) x b (by simpa using h) (by omega)) g)
/-- a cell is written -/
theorem Sta.write (S : Sta K M0 B σ M H env ps cs) {j : Nat} {p : Addr} {c c' : Cell} {o' : HO} (hp : ps[j]? = some p) (hc : cs[j]? = some c) (hn : c ≠ .dead) (ok : CellOk K M ps c' o') : Sta K M0 B σ M (upd H p o') env ps (cs.set j c') := by
  obtain ⟨p', o, h1, h2, h3, h4, h5⟩ := S.cell hc hn
  rw [hp] at h1
  cases h1
  have ex : ∀ {G : Hp}, Ex G H → G p = none → Ex G (upd H p o') := fun {G} e n a u q => by
    rw [upd_ne (ne_of_none q n)]; exact e a u q
  refine { S with mh := ex S.mh h2, bh := ex S.bh h3, cl := ?_, hv := fun q hq => ?_ }
  · refine S.cl.at hp (fun i a c hi hk q => q.imp id fun ⟨x, y, o, z, w⟩ => ⟨x, y, o, ?_, w⟩) (.inr ⟨h2, h3, o', upd_same, ok⟩)
    rw [upd_ne (nd_ne S.nd hi hp hk)]; exact z
  · by_cases e : q = p
    · subst e; rw [upd_same]; exact fun z => nomatch z
    · rw [upd_ne e]; exact S.hv q hq
/-- a new cell -/
theorem Sta.alloc (S : Sta K M0 B σ M H env ps cs) {p : Addr} {o : HO} {c : Cell} (hp : H p = none) (ok : CellOk K M ps c o) : Sta K M0 B σ M (upd H p o) env (ps ++ [p]) (cs ++ [c]) := by
  have S' := S.newH (o := o) hp
  have pr : Pre ps (ps ++ [p]) := ⟨[p], rfl⟩
  refine { S' with sl := S'.sl.imp fun _ _ q => q.imp id fun ⟨v, a, b⟩ => ⟨v, a, b.mono (Ex.refl _) pr⟩, cl := ?_, hv := fun q hq => ?_, nd := ?_ }
  · refine (S'.cl.imp fun a c q => q.imp id fun ⟨x, y, o, z, w⟩ => ⟨x, y, o, z, w.mono (Ex.refl _) pr⟩).snoc (.inr ⟨S.mh.back hp, S.bh.back hp, o, upd_same, ok.mono (Ex.refl _) pr⟩)
  · rcases List.mem_append.mp hq with h | h
    · exact S'.hv q h
    · rw [List.mem_singleton.mp h, upd_same]; exact fun z => nomatch z
  · rw [List.nodup_append]
    refine ⟨S.nd, by simp, fun a ha b hb => ?_⟩
    rw [List.mem_singleton.mp hb]
    intro e
    exact S.hv a ha (by rw [e]; exact hp)
/-- a cell becomes plain data: M' tells it -/
theorem Sta.freeze (S : Sta K M0 B σ M H env ps cs) {j : Nat} {p : Addr} {c : Cell} {o : HO} (hp : ps[j]? = some p) (hc : cs[j]? = some c) (hn : c ≠ .dead) (ho : H p = some o) : Sta K M0 B σ (upd M p o) H env ps (cs.set j .dead) := by
  obtain ⟨p', o', h1, h2, h3, h4, h5⟩ := S.cell hc hn
  rw [hp] at h1
  cases h1
  have e : Ex M (upd M p o) := Ex.nw h2
  refine { S with mh := fun a u q => ?_, m0 := S.m0.trans e, bm := fun q a b => ?_, sl := S.sl.imp fun _ _ q => q.imp id fun ⟨v, a, b⟩ => ⟨v, a, b.mono e (Pre.refl _)⟩, cl := ?_ }
  · by_cases z : a = p
    · subst z; rw [upd_same] at q; rw [ho]; exact q
    · rw [upd_ne z] at q; exact S.mh a u q
  · have : q ≠ p := fun z => a (by rw [z]; exact h3)
    rw [upd_ne this]; exact S.bm q a b
  · refine S.cl.at hp (fun i a c hi hk q => q.imp id fun ⟨x, y, o, z, w⟩ => ⟨?_, y, o, z, w.mono e (Pre.refl _)⟩) (.inl rfl)
    rw [upd_ne (nd_ne S.nd hi hp hk)]; exact x
end
end DL

set_option Elab.async false
set_option linter.all false
set_option maxRecDepth 100000
set_option maxHeartbeats 2000000
/-! DL2: what an expression gives, by plain data. -/
namespace DL
open PySem L2
section
variable {X : Cx} {e a b : Expr} {σ : St} {H : Hp} {pos : Pos'}
def Wp (X : Cx) (e : Expr) : TE := fun σ H Q => ∀ (pins : List (Addr × Obj)) (s : Shared), Inv X pins σ H s → wpAny (model X.prog X.w) X.A (eval e X.env) (EP X pins σ Q) X.xe s
def Wt (X : Cx) (e : Expr) : TT := fun σ H Q => ∀ (pins : List (Addr × Obj)) (s : Shared), Inv X pins σ H s → wpAny (model X.prog X.w) X.A (isTrue e X.env (eval e X.env)) (TP X pins σ Q) X.xe s
def Wtw (X : Cx) (e : Expr) : TT := fun σ H Q => ∀ (whole : Sem Value) (pins : List (Addr × Obj)) (s : Shared), Inv X pins σ H s → wpAny (model X.prog X.w) X.A (isTrue e X.env whole) (TP X pins σ Q) X.xe s
def Wa (X : Cx) (es : List Expr) : TA := fun σ H Q => ∀ (pos : Pos') (pins : List (Addr × Obj)) (s : Shared), Inv X pins σ H s → wpAny (model X.prog X.w) X.A (spliced (backTo pos (starEach es X.env))) (AP X pins σ Q) X.xe s
theorem pe_wp : PE X e (Wp X e) := ⟨fun pins s σ H Q I h => h pins s I⟩
theorem pt_wt : PT X e (Wt X e) := ⟨fun pins s σ H Q I h => h pins s I⟩
theorem pw_wtw : PW X e (Wtw X e) := ⟨fun wh pins s σ H Q I h => h wh pins s I⟩
theorem pa_wa {es : List Expr} : PA X es (Wa X es) := ⟨fun pos pins s σ H Q I h => h pos pins s I⟩
theorem wp_of {t : TE} {Q : VK} (h : PE X e t) (q : t σ H Q) : Wp X e σ H Q := fun pins s I => h.run pins s σ H Q I q
theorem wt_of {t : TT} {Q : Bool → Hp → Prop} (h : PT X e t) (q : t σ H Q) : Wt X e σ H Q := fun pins s I => h.run pins s σ H Q I q
theorem wtw_of {t : TT} {Q : Bool → Hp → Prop} (h : PW X e t) (q : t σ H Q) : Wtw X e σ H Q := fun wh pins s I => h.run wh pins s σ H Q I q
theorem wa_of {es : List Expr} {t : TA} {Q : List V → Hp → Prop} (h : PA X es t) (q : t σ H Q) : Wa X es σ H Q := fun pos pins s I => h.run pos pins s σ H Q I q
end

abbrev Want := Slot → List Cell → Prop
abbrev WantB := Bool → List Cell → Prop
abbrev WantA := List Slot → List Cell → Prop
section
variable (K : Fg) (M0 B : Hp) (σ : St) (M : Hp) (env : List Slot) (ps : List Addr)
def Post (Φ : Want) (Q : VK) : Prop := ∀ v s M' H' ps' cs', Φ s cs' → Sta K M0 B σ M' H' env ps' cs' → Ex M M' → Pre ps ps' → SlotOk K M' ps' s v → Q v H'
def PostB (Φ : WantB) (Q : Bool → Hp → Prop) : Prop := ∀ b M' H' ps' cs', Φ b cs' → Sta K M0 B σ M' H' env ps' cs' → Ex M M' → Pre ps ps' → Q b H'
def PostA (Φ : WantA) (Q : List V → Hp → Prop) : Prop := ∀ vs ss M' H' ps' cs', Φ ss cs' → Sta K M0 B σ M' H' env ps' cs' → Ex M M' → Pre ps ps' → Pr (fun v s => SlotOk K M' ps' s v) vs ss → Q vs H'
end
/-- e gives what Φ wants -/
def WE (X : Cx) (env : List Slot) (cs : List Cell) (e : Expr) (Φ : Want) : Prop :=
  ∀ M0 B σ M H ps, Sta X.K M0 B σ M H env ps cs → ∀ Q, Post X.K M0 B σ M env ps Φ Q → Wp X e σ H Q
def WT (X : Cx) (env : List Slot) (cs : List Cell) (e : Expr) (Φ : WantB) : Prop :=
  ∀ M0 B σ M H ps, Sta X.K M0 B σ M H env ps cs → ∀ Q, PostB X.K M0 B σ M env ps Φ Q → Wt X e σ H Q
def WW (X : Cx) (env : List Slot) (cs : List Cell) (e : Expr) (Φ : WantB) : Prop :=
  ∀ M0 B σ M H ps, Sta X.K M0 B σ M H env ps cs → ∀ Q, PostB X.K M0 B σ M env ps Φ Q → Wtw X e σ H Q
def WA (X : Cx) (env : List Slot) (cs : List Cell) (es : List Expr) (Φ : WantA) : Prop :=
  ∀ M0 B σ M H ps, Sta X.K M0 B σ M H env ps cs → ∀ Q, PostA X.K M0 B σ M env ps Φ Q → Wa X es σ H Q
/-- e gives s and changes nothing -/
def DE (X : Cx) (env : List Slot) (cs : List Cell) (e : Expr) (s : Slot) : Prop := ∀ Φ : Want, Φ s cs → WE X env cs e Φ
def DT (X : Cx) (env : List Slot) (cs : List Cell) (e : Expr) (b : Bool) : Prop := ∀ Φ : WantB, Φ b cs → WT X env cs e Φ
def DW (X : Cx) (env : List Slot) (cs : List Cell) (e : Expr) (b : Bool) : Prop := ∀ Φ : WantB, Φ b cs → WW X env cs e Φ
def DA (X : Cx) (env : List Slot) (cs : List Cell) (es : List Expr) (ss : List Slot) : Prop := ∀ Φ : WantA, Φ ss cs → WA X env cs es Φ
section
variable {X : Cx} {K : Fg} {M0 B M M' H H' : Hp} {σ : St} {env : List Slot} {ps ps' : List Addr} {cs cs' : List Cell} {e a b c : Expr} {es rest : List Expr} {s s1 s2 s3 : Slot} {Φ Ψ : Want} {Φb Ψb : WantB} {Φa Ψa : WantA} {pos : Pos'} {k k' : Bool} {ss : List Slot}
theorem WE.imp (h : WE X env cs e Φ) (f : ∀ s cs', Φ s cs' → Ψ s cs') : WE X env cs e Ψ := fun M0 B σ M H ps S Q p => h M0 B σ M H ps S Q fun v s M' H' ps' cs' q => p v s M' H' ps' cs' (f _ _ q)
theorem WT.imp (h : WT X env cs e Φb) (f : ∀ s cs', Φb s cs' → Ψb s cs') : WT X env cs e Ψb := fun M0 B σ M H ps S Q p => h M0 B σ M H ps S Q fun v M' H' ps' cs' q => p v M' H' ps' cs' (f _ _ q)
theorem WE.de (h : DE X env cs e s) (q : Φ s cs) : WE X env cs e Φ := h Φ q
theorem WT.dt (h : DT X env cs e k) (q : Φb k cs) : WT X env cs e Φb := h Φb q
theorem WA.da (h : DA X env cs es ss) (q : Φa ss cs) : WA X env cs es Φa := h Φa q
theorem DE.to (h : DE X env cs e s) (q : s = s1) : DE X env cs e s1 := q ▸ h
theorem DT.to (h : DT X env cs e k) (q : k = k') : DT X env cs e k' := q ▸ h
/-- it ends here -/
theorem Post.here {Q : VK} {v : V} (p : Post K M0 B σ M env ps Φ Q) (S : Sta K M0 B σ M H env ps cs) (q : Φ s cs) (ok : SlotOk K M ps s v) : Q v H := p v s M H ps cs q S (Ex.refl _) (Pre.refl _) ok
theorem PostB.here {Q : Bool → Hp → Prop} (p : PostB K M0 B σ M env ps Φb Q) (S : Sta K M0 B σ M H env ps cs) (q : Φb k cs) : Q k H := p k M H ps cs q S (Ex.refl _) (Pre.refl _)
/-- go on from a later state -/
theorem Post.on {Q : VK} (p : Post K M0 B σ M env ps Φ Q) (e : Ex M M') (f : Pre ps ps') : Post K M0 B σ M' env ps' Φ Q := fun v s M2 H2 ps2 cs2 q S e2 f2 => p v s M2 H2 ps2 cs2 q S (e.trans e2) (f.trans f2)
theorem PostB.on {Q : Bool → Hp → Prop} (p : PostB K M0 B σ M env ps Φb Q) (e : Ex M M') (f : Pre ps ps') : PostB K M0 B σ M' env ps' Φb Q := fun v M2 H2 ps2 cs2 q S e2 f2 => p v M2 H2 ps2 cs2 q S (e.trans e2) (f.trans f2)
theorem PostA.on {Q : List V → Hp → Prop} (p : PostA K M0 B σ M env ps Φa Q) (e : Ex M M') (f : Pre ps ps') : PostA K M0 B σ M' env ps' Φa Q := fun v ss M2 H2 ps2 cs2 q S e2 f2 => p v ss M2 H2 ps2 cs2 q S (e.trans e2) (f.trans f2)

/-! ### names, constants -/
theorem de_int {i j} : DE X env cs (.Constant (.int i) j pos) (.of i) := fun Φ q M0 B σ M H ps S Q p => wp_of pe_int (p.here S q rfl)
theorem de_bl {i j} : DE X env cs (.Constant (.bool i) j pos) (.of i) := fun Φ q M0 B σ M H ps S Q p => wp_of pe_bl (p.here S q rfl)
theorem de_str {i j} : DE X env cs (.Constant (.str i) j pos) (.of i) := fun Φ q M0 B σ M H ps S Q p => wp_of pe_str (p.here S q rfl)
theorem de_non {j} : DE X env cs (.Constant .none j pos) (.of ()) := fun Φ q M0 B σ M H ps S Q p => wp_of pe_non (p.here S q rfl)
theorem de_var (i : Nat) {x : PySem.Str} (h : env[i]? = some s) (hn : s ≠ .no) (hN : X.N[i]? = some x) (hv : Vis X.env.scope x) (hd : (x == ("__debug__" : PySem.Str)) = false) (hcd : (x == ("__classdict__" : PySem.Str)) = false) :
    DE X env cs (.Name x pos) s := fun Φ q M0 B σ M H ps S Q p => by
  obtain ⟨v, e, ok⟩ := S.slot h hn
  exact wp_of (pe_var hN hv hd hcd) ⟨v, e, p.here S q ok⟩
/-- a constant of the module -/
theorem de_glob {x : PySem.Str} {v : V} {u : Value} (hm : X.mg x = some u) (r : RelV v u) (hs : ∀ M ps, SlotOk X.K M ps s v) (hg : Gl X x := by rfl) (hd : (x == ("__debug__" : PySem.Str)) = false := by decide) : DE X env cs (.Name x pos) s :=
  fun Φ q M0 B σ M H ps S Q p => wp_of (pe_glob hg hm r hd) (p.here S q (hs _ _))

/-! ### operators -/
/-- r upon what stands for s1, s2 gives s -/
def OpD (K : Fg) (r : R2) (s1 s2 s : Slot) : Prop := ∀ M0 B σ M H env ps cs, Sta K M0 B σ M H env ps cs → ∀ v1 v2, SlotOk K M ps s1 v1 → SlotOk K M ps s2 v2 → ∀ Q : VK,
  (∀ v M' H', Sta K M0 B σ M' H' env ps cs → Ex M M' → SlotOk K M' ps s v → Q v H') → r v1 v2 H Q
def rSup (X : Cx) (f : Value → Value → Sem Value) : R2 := fun x y H Q => ∃ r, OpR X f r ∧ r x y H Q
theorem opR_sup {f : Value → Value → Sem Value} : OpR X f (rSup X f) := fun pins s σ H x y v u Q I rx ry ⟨_, h, q⟩ => h pins s σ H x y v u Q I rx ry q
def rSupX (X : Cx) : R2 := fun x y H Q => ∃ r, IxR X r ∧ r x y H Q
theorem ixR_sup : IxR X (rSupX X) := fun va sl pins s σ H x y v u Q I rx ry ⟨_, h, q⟩ => h va sl pins s σ H x y v u Q I rx ry q
def BinD (X : Cx) (op : Operator) (s1 s2 s : Slot) : Prop := OpD X.K (rSup X (binaryOp op)) s1 s2 s
def AugD (X : Cx) (op : Operator) (s1 s2 s : Slot) : Prop := OpD X.K (rSup X (inplaceOp op)) s1 s2 s
def CmpD (X : Cx) (op : CmpOp) (s1 s2 : Slot) (k : Bool) : Prop := OpD X.K (rSup X (compareOp op)) s1 s2 (.of k)
def IxD (X : Cx) (s1 s2 s : Slot) : Prop := OpD X.K (rSupX X) s1 s2 s
theorem OpD.mk {f : Value → Value → Sem Value} {r : R2} (h : OpR X f r) (d : OpD X.K r s1 s2 s) : OpD X.K (rSup X f) s1 s2 s := fun M0 B σ M H env ps cs S v1 v2 h1 h2 Q p => ⟨r, h, d M0 B σ M H env ps cs S v1 v2 h1 h2 Q p⟩
theorem OpD.mkX {r : R2} (h : IxR X r) (d : OpD X.K r s1 s2 s) : OpD X.K (rSupX X) s1 s2 s := fun M0 B σ M H env ps cs S v1 v2 h1 h2 Q p => ⟨r, h, d M0 B σ M H env ps cs S v1 v2 h1 h2 Q p⟩
theorem OpD.go {r : R2} (h : OpD K r s1 s2 s) (S : Sta K M0 B σ M H env ps cs) {v1 v2 : V} (h1 : SlotOk K M ps s1 v1) (h2 : SlotOk K M ps s2 v2) {Q : VK} (p : Post K M0 B σ M env ps Φ Q) (q : Φ s cs) : r v1 v2 H Q :=
  h M0 B σ M H env ps cs S v1 v2 h1 h2 Q fun v M' H' S' e ok => p v s M' H' ps cs q S' e (Pre.refl _) ok
theorem op2 {r : R2} (h : WE X env cs a fun s1 cs1 => WE X env cs1 b fun s2 cs2 => ∃ s, OpD X.K r s1 s2 s ∧ Φ s cs2) : ∀ M0 B σ M H ps, Sta X.K M0 B σ M H env ps cs → ∀ Q, Post X.K M0 B σ M env ps Φ Q → tOp r (Wp X a) (Wp X b) σ H Q := fun M0 B σ M H ps S Q p =>
  h M0 B σ M H ps S _ fun v1 s1 M1 H1 ps1 cs1 h1 S1 e1 f1 r1 => h1 M0 B σ M1 H1 ps1 S1 _ fun v2 s2 M2 H2 ps2 cs2 h2 S2 e2 f2 r2 => by
    obtain ⟨s, d, q⟩ := h2
    exact d.go S2 (r1.mono e2 f2) r2 (p.on (e1.trans e2) (f1.trans f2)) q
theorem op2D {r : R2} (ha : DE X env cs a s1) (hb : DE X env cs b s2) (h : OpD X.K r s1 s2 s) (q : Φ s cs) : WE X env cs a fun s1 cs1 => WE X env cs1 b fun s2 cs2 => ∃ s, OpD X.K r s1 s2 s ∧ Φ s cs2 := ha _ (hb _ ⟨s, h, q⟩)
theorem we_bin {op : Operator} (h : WE X env cs a fun s1 cs1 => WE X env cs1 b fun s2 cs2 => ∃ s, BinD X op s1 s2 s ∧ Φ s cs2) : WE X env cs (.BinOp a op b pos) Φ := fun M0 B σ M H ps S Q p => wp_of (pe_op opR_sup pe_wp pe_wp) (op2 h M0 B σ M H ps S Q p)
theorem de_bin {op : Operator} (ha : DE X env cs a s1) (hb : DE X env cs b s2) (h : BinD X op s1 s2 s) : DE X env cs (.BinOp a op b pos) s := fun Φ q => we_bin (op2D ha hb h q)
theorem we_cmp {op : CmpOp} (h : WE X env cs a fun s1 cs1 => WE X env cs1 b fun s2 cs2 => ∃ k, CmpD X op s1 s2 k ∧ Φ (.of k) cs2) (hm : behindInMarks op b = false) : WE X env cs (.Compare a [op] [b] pos) Φ := fun M0 B σ M H ps S Q p =>
  wp_of (pe_cmpR opR_sup pe_wp pe_wp hm) (op2 (h.imp fun _ _ g => g.imp fun _ _ ⟨k, d, q⟩ => ⟨.of k, d, q⟩) M0 B σ M H ps S Q p)
theorem de_cmp {op : CmpOp} (ha : DE X env cs a s1) (hb : DE X env cs b s2) (h : CmpD X op s1 s2 k) (hm : behindInMarks op b = false) : DE X env cs (.Compare a [op] [b] pos) (.of k) := fun Φ q => we_cmp (ha _ (hb _ ⟨k, h, q⟩)) hm
theorem wt_cmp {op : CmpOp} (h : WE X env cs a fun s1 cs1 => WE X env cs1 b fun s2 cs2 => ∃ k, CmpD X op s1 s2 k ∧ Φb k cs2) (hm : behindInMarks op b = false) : WT X env cs (.Compare a [op] [b] pos) Φb := fun M0 B σ M H ps S Q p =>
  wt_of (pt_cmpR opR_sup pe_wp pe_wp hm) (op2 (Φ := fun s cs => ∃ k, s = .of k ∧ Φb k cs) (h.imp fun _ _ g => g.imp fun _ _ ⟨k, d, q⟩ => ⟨.of k, d, k, rfl, q⟩) M0 B σ M H ps S _ fun v s M' H' ps' cs' q S' e f ok => by
    obtain ⟨k, rfl, q⟩ := q
    exact ⟨k, ok, p k M' H' ps' cs' q S' e f⟩)
theorem dt_cmp {op : CmpOp} (ha : DE X env cs a s1) (hb : DE X env cs b s2) (h : CmpD X op s1 s2 k) (hm : behindInMarks op b = false) : DT X env cs (.Compare a [op] [b] pos) k := fun Φ q => wt_cmp (ha _ (hb _ ⟨k, h, q⟩)) hm
theorem we_ix (h : WE X env cs a fun s1 cs1 => WE X env cs1 b fun s2 cs2 => ∃ s, IxD X s1 s2 s ∧ Φ s cs2) (hs : PlainIx b) : WE X env cs (.Subscript a b pos) Φ := fun M0 B σ M H ps S Q p => wp_of (pe_ix ixR_sup pe_wp pe_wp hs) (op2 h M0 B σ M H ps S Q p)
theorem de_ix (ha : DE X env cs a s1) (hb : DE X env cs b s2) (h : IxD X s1 s2 s) (hs : PlainIx b) : DE X env cs (.Subscript a b pos) s := fun Φ q => we_ix (op2D ha hb h q) hs
/-- what a step gives, by its want -/
theorem OpD.cont {r : R2} (h : OpD K r s1 s2 s) (S : Sta K M0 B σ M H env ps cs) {v1 v2 : V} (h1 : SlotOk K M ps s1 v1) (h2 : SlotOk K M ps s2 v2) {Q : VK} (p : ∀ v M' H', Sta K M0 B σ M' H' env ps cs → Ex M M' → SlotOk K M' ps s v → Q v H') : r v1 v2 H Q := h M0 B σ M H env ps cs S v1 v2 h1 h2 Q p
theorem DE.run (h : DE X env cs e s) (S : Sta X.K M0 B σ M H env ps cs) {Q : VK} (p : ∀ v M' H' ps', Sta X.K M0 B σ M' H' env ps' cs → Ex M M' → Pre ps ps' → SlotOk X.K M' ps' s v → Q v H') : Wp X e σ H Q :=
  h (fun s' cs' => s' = s ∧ cs' = cs) ⟨rfl, rfl⟩ M0 B σ M H ps S Q fun v s' M' H' ps' cs' g S' e f ok => by
    obtain ⟨rfl, rfl⟩ := g
    exact p v M' H' ps' S' e f ok
theorem DT.run (h : DT X env cs e k) (S : Sta X.K M0 B σ M H env ps cs) {Q : Bool → Hp → Prop} (p : ∀ M' H' ps', Sta X.K M0 B σ M' H' env ps' cs → Ex M M' → Pre ps ps' → Q k H') : Wt X e σ H Q :=
  h (fun s' cs' => s' = k ∧ cs' = cs) ⟨rfl, rfl⟩ M0 B σ M H ps S Q fun s' M' H' ps' cs' g S' e f => by
    obtain ⟨rfl, rfl⟩ := g
    exact p M' H' ps' S' e f
theorem chainD {op op' : CmpOp} (ha : DE X env cs a s1) (hb : DE X env cs b s2) (h : CmpD X op s1 s2 k) (hc : k = true → DE X env cs c s3 ∧ CmpD X op' s2 s3 k') (S : Sta X.K M0 B σ M H env ps cs) {Q : VK}
    (p : ∀ M' H' ps', Sta X.K M0 B σ M' H' env ps' cs → Ex M M' → Pre ps ps' → Q (.bl (k && k')) H') : tChain (rSup X (compareOp op)) (rSup X (compareOp op')) (Wp X a) (Wp X b) (Wp X c) σ H Q :=
  ha.run S fun v1 M1 H1 ps1 S1 e1 f1 r1 => hb.run S1 fun v2 M2 H2 ps2 S2 e2 f2 r2 => h.cont S2 (r1.mono e2 f2) r2 fun v M3 H3 S3 e3 ok => by
    refine ⟨k, ok, ?_⟩
    cases k with
    | false => exact p M3 H3 ps2 S3 ((e1.trans e2).trans e3) (f1.trans f2)
    | true =>
      obtain ⟨hc1, hc2⟩ := hc rfl
      exact hc1.run S3 fun v4 M4 H4 ps4 S4 e4 f4 r4 => hc2.cont S4 ((r2.mono e3 (Pre.refl _)).mono e4 f4) r4 fun v5 M5 H5 S5 e5 ok5 => by
        cases ok5
        exact p M5 H5 ps4 S5 ((((e1.trans e2).trans e3).trans e4).trans e5) ((f1.trans f2).trans f4)
/-- a < b < c -/
theorem de_chain {op op' : CmpOp} (ha : DE X env cs a s1) (hb : DE X env cs b s2) (h : CmpD X op s1 s2 k) (hc : k = true → DE X env cs c s3 ∧ CmpD X op' s2 s3 k')
    (m : lastMarks [op, op'] [b, c] = false) : DE X env cs (.Compare a [op, op'] [b, c] pos) (.of (k && k')) := fun Φ q M0 B σ M H ps S Q p =>
  wp_of (pe_chain opR_sup opR_sup pe_wp pe_wp pe_wp m) (chainD ha hb h hc S fun M' H' ps' S' e f => p _ _ M' H' ps' cs q S' e f rfl)
theorem dt_chain {op op' : CmpOp} (ha : DE X env cs a s1) (hb : DE X env cs b s2) (h : CmpD X op s1 s2 k) (hc : k = true → DE X env cs c s3 ∧ CmpD X op' s2 s3 k')
    (m : lastMarks [op, op'] [b, c] = false) : DT X env cs (.Compare a [op, op'] [b, c] pos) (k && k') := fun Φ q M0 B σ M H ps S Q p =>
  wt_of (pt_chain opR_sup opR_sup pe_wp pe_wp pe_wp m) (chainD ha hb h hc S fun M' H' ps' S' e f => ⟨_, rfl, p _ M' H' ps' cs q S' e f⟩)

/-! ### one-place operators -/
def rSupU (X : Cx) (f : Value → Sem Value) : V → Hp → VK → Prop := fun x H Q => ∃ r, UnR X f r ∧ r x H Q
theorem unR_sup {f : Value → Sem Value} : UnR X f (rSupU X f) := fun pins s σ H x v Q I rx ⟨_, h, q⟩ => h pins s σ H x v Q I rx q
def UnD (X : Cx) (op : UnaryOp) (s1 s : Slot) : Prop := ∀ M0 B σ M H env ps cs, Sta X.K M0 B σ M H env ps cs → ∀ v1, SlotOk X.K M ps s1 v1 → ∀ Q : VK,
  (∀ v M' H', Sta X.K M0 B σ M' H' env ps cs → Ex M M' → SlotOk X.K M' ps s v → Q v H') → rSupU X (unaryOp op) v1 H Q
theorem we_un {op : UnaryOp} (h : WE X env cs a fun s1 cs1 => ∃ s, UnD X op s1 s ∧ Φ s cs1) : WE X env cs (.UnaryOp op a pos) Φ := fun M0 B σ M H ps S Q p =>
  wp_of (pe_un unR_sup pe_wp) (h M0 B σ M H ps S _ fun v1 s1 M1 H1 ps1 cs1 h1 S1 e1 f1 r1 => by
    obtain ⟨s, d, q⟩ := h1
    exact d M0 B σ M1 H1 env ps1 cs1 S1 v1 r1 _ fun v M' H' S' e ok => p v s M' H' ps1 cs1 q S' (e1.trans e) f1 ok)
theorem de_un {op : UnaryOp} (h : DE X env cs a s1) (d : UnD X op s1 s) : DE X env cs (.UnaryOp op a pos) s := fun Φ q => we_un (h _ ⟨s, d, q⟩)
theorem un_neg_int {i : Int} : UnD X .USub (.of i) (.of (-i)) := fun M0 B σ M H env ps cs S v1 h1 Q p => ⟨_, un_neg, i, h1, p _ M H S (Ex.refl _) rfl⟩

/-! ### tests -/
theorem wt_not (h : WT X env cs a fun k cs' => Φb (!k) cs') : WT X env cs (.UnaryOp .Not a pos) Φb := fun M0 B σ M H ps S Q p =>
  wt_of (pt_not pt_wt) (h M0 B σ M H ps S _ fun k M' H' ps' cs' q S' e f => p _ M' H' ps' cs' q S' e f)
theorem dt_not (h : DT X env cs a k) : DT X env cs (.UnaryOp .Not a pos) (!k) := fun Φ q => wt_not (h _ q)
theorem wt_w (h : WW X env cs e Φb) : WT X env cs e Φb := fun M0 B σ M H ps S Q p pins s I => h M0 B σ M H ps S Q p _ pins s I
theorem dt_w (h : DW X env cs e k) : DT X env cs e k := fun Φ q => wt_w (h Φ q)
theorem ww_and1 (h : WT X env cs a Φb) : WW X env cs (.BoolOp .And [a] pos) Φb := fun M0 B σ M H ps S Q p => wtw_of (pw_and1 pt_wt) (h M0 B σ M H ps S Q p)
theorem ww_or1 (h : WT X env cs a Φb) : WW X env cs (.BoolOp .Or [a] pos) Φb := fun M0 B σ M H ps S Q p => wtw_of (pw_or1 pt_wt) (h M0 B σ M H ps S Q p)
theorem ww_and (h : WT X env cs a fun k cs1 => if k = true then WW X env cs1 (.BoolOp .And (b :: rest) pos) Φb else Φb false cs1) : WW X env cs (.BoolOp .And (a :: b :: rest) pos) Φb := fun M0 B σ M H ps S Q p =>
  wtw_of (pw_and pt_wt pw_wtw) (h M0 B σ M H ps S _ fun k M' H' ps' cs' q S' e f => by
    cases k with
    | true => exact q M0 B σ M' H' ps' S' Q (p.on e f)
    | false => exact p _ M' H' ps' cs' q S' e f)
theorem ww_or (h : WT X env cs a fun k cs1 => if k = true then Φb true cs1 else WW X env cs1 (.BoolOp .Or (b :: rest) pos) Φb) : WW X env cs (.BoolOp .Or (a :: b :: rest) pos) Φb := fun M0 B σ M H ps S Q p =>
  wtw_of (pw_or pt_wt pw_wtw) (h M0 B σ M H ps S _ fun k M' H' ps' cs' q S' e f => by
    cases k with
    | false => exact q M0 B σ M' H' ps' S' Q (p.on e f)
    | true => exact p _ M' H' ps' cs' q S' e f)
theorem dw_and1 (h : DT X env cs a k) : DW X env cs (.BoolOp .And [a] pos) k := fun Φ q => ww_and1 (h _ q)
theorem dw_or1 (h : DT X env cs a k) : DW X env cs (.BoolOp .Or [a] pos) k := fun Φ q => ww_or1 (h _ q)
theorem dw_and (h : DT X env cs a k) (h' : k = true → DW X env cs (.BoolOp .And (b :: rest) pos) k') : DW X env cs (.BoolOp .And (a :: b :: rest) pos) (k && k') := fun Φ q => ww_and (h _ (by
  cases k with
  | true => exact h' rfl _ q
  | false => exact q))
theorem dw_or (h : DT X env cs a k) (h' : k = false → DW X env cs (.BoolOp .Or (b :: rest) pos) k') : DW X env cs (.BoolOp .Or (a :: b :: rest) pos) (k || k') := fun Φ q => ww_or (h _ (by
  cases k with
  | false => exact h' rfl _ q
  | true => exact q))
/-- bools as values -/
theorem de_not1 {k : Bool} (h : DE X env cs a (.of k)) : DE X env cs (.UnaryOp .Not a pos) (.of (!k)) := fun Φ q M0 B σ M H ps S Q p => wp_of (pe_not pe_wp) (h.run S fun v M' H' ps' S' e f ok => ⟨k, ok, p _ _ M' H' ps' cs q S' e f rfl⟩)
theorem we_and1 {op} (h : WE X env cs a Φ) : WE X env cs (.BoolOp op [a] pos) Φ := fun M0 B σ M H ps S Q p => wp_of (pe_one pe_wp) (h M0 B σ M H ps S Q p)
theorem de_and1 {op} (h : DE X env cs a s) : DE X env cs (.BoolOp op [a] pos) s := fun Φ q => we_and1 (h _ q)
theorem de_and {k k' : Bool} (h : DE X env cs a (.of k)) (h' : k = true → DE X env cs (.BoolOp .And (b :: rest) pos) (.of k')) : DE X env cs (.BoolOp .And (a :: b :: rest) pos) (.of (k && k')) := fun Φ q M0 B σ M H ps S Q p =>
  wp_of (pe_and pe_wp pe_wp) (h.run S fun v M' H' ps' S' e f ok => ⟨k, ok, by
    cases k with
    | true => exact h' rfl Φ q M0 B σ M' H' ps' S' Q (p.on e f)
    | false => exact p _ _ M' H' ps' cs q S' e f rfl⟩)
theorem de_or {k k' : Bool} (h : DE X env cs a (.of k)) (h' : k = false → DE X env cs (.BoolOp .Or (b :: rest) pos) (.of k')) : DE X env cs (.BoolOp .Or (a :: b :: rest) pos) (.of (k || k')) := fun Φ q M0 B σ M H ps S Q p =>
  wp_of (pe_or pe_wp pe_wp) (h.run S fun v M' H' ps' S' e f ok => ⟨k, ok, by
    cases k with
    | false => exact h' rfl Φ q M0 B σ M' H' ps' S' Q (p.on e f)
    | true => exact p _ _ M' H' ps' cs q S' e f rfl⟩)
theorem we_if (h : WT X env cs c fun k cs1 => if k = true then WE X env cs1 a Φ else WE X env cs1 b Φ) : WE X env cs (.IfExp c a b pos) Φ := fun M0 B σ M H ps S Q p =>
  wp_of (pe_ifExp pt_wt pe_wp pe_wp) (h M0 B σ M H ps S _ fun k M' H' ps' cs' q S' e f => by
    cases k with
    | true => exact q M0 B σ M' H' ps' S' Q (p.on e f)
    | false => exact q M0 B σ M' H' ps' S' Q (p.on e f))
theorem de_if {α : Type} [Enc α] {x y : α} (h : DT X env cs c k) (h1 : k = true → DE X env cs a (.of x)) (h2 : k = false → DE X env cs b (.of y)) : DE X env cs (.IfExp c a b pos) (.of (if k = true then x else y)) := fun Φ q => we_if (h _ (by
  cases k with
  | true => exact h1 rfl _ q
  | false => exact h2 rfl _ q))
/-- a value as a test -/
def TruD (K : Fg) (s : Slot) (k : Bool) : Prop := ∀ M0 B σ M H env ps cs, Sta K M0 B σ M H env ps cs → ∀ v, SlotOk K M ps s v → TruV K v H k
theorem wt_val (h : WE X env cs a fun s cs1 => ∃ k, TruD X.K s k ∧ Φb k cs1) (he : ∀ whole, isTrue a X.env whole = (do let v ← whole; standAt a.pos; holding [v] (truthy v))) : WT X env cs a Φb := fun M0 B σ M H ps S Q p =>
  wt_of (pt_truth pe_wp he) (h M0 B σ M H ps S _ fun v1 s1 M1 H1 ps1 cs1 h1 S1 e1 f1 r1 => by
    obtain ⟨k, d, q⟩ := h1
    exact ⟨k, d M0 B σ M1 H1 env ps1 cs1 S1 v1 r1, p k M1 H1 ps1 cs1 q S1 e1 f1⟩)
theorem dt_val (h : DE X env cs a s) (d : TruD X.K s k) (he : ∀ whole, isTrue a X.env whole = (do let v ← whole; standAt a.pos; holding [v] (truthy v))) : DT X env cs a k := fun Φ q => wt_val (h _ ⟨k, d, q⟩) he

/-! ### arguments, calls of built-ins -/
theorem wa_nil (q : Φa [] cs) : WA X env cs [] Φa := fun M0 B σ M H ps S Q p => wa_of pa_nil (p [] [] M H ps cs q S (Ex.refl _) (Pre.refl _) .nil)
theorem wa_cons (h : WE X env cs e fun s cs1 => WA X env cs1 es fun ss cs2 => Φa (s :: ss) cs2) (hs : starEach (e :: es) X.env = (false, eval e X.env) :: starEach es X.env) : WA X env cs (e :: es) Φa := fun M0 B σ M H ps S Q p =>
  wa_of (pa_cons pe_wp pa_wa hs) (h M0 B σ M H ps S _ fun v1 s1 M1 H1 ps1 cs1 h1 S1 e1 f1 r1 => h1 M0 B σ M1 H1 ps1 S1 _ fun vs ss M2 H2 ps2 cs2 q S2 e2 f2 r2 =>
    p _ _ M2 H2 ps2 cs2 q S2 (e1.trans e2) (f1.trans f2) (.cons (r1.mono e2 f2) r2))
theorem da_nil : DA X env cs [] [] := fun Φ q => wa_nil q
theorem da_cons (h : DE X env cs e s) (h' : DA X env cs es ss) (hs : starEach (e :: es) X.env = (false, eval e X.env) :: starEach es X.env) : DA X env cs (e :: es) (s :: ss) := fun Φ q => wa_cons (h _ (h' _ q)) hs
theorem DA.run (h : DA X env cs es ss) (S : Sta X.K M0 B σ M H env ps cs) {Q : List V → Hp → Prop} (p : ∀ vs M' H' ps', Sta X.K M0 B σ M' H' env ps' cs → Ex M M' → Pre ps ps' → Pr (fun v s => SlotOk X.K M' ps' s v) vs ss → Q vs H') : Wa X es σ H Q :=
  h (fun s' cs' => s' = ss ∧ cs' = cs) ⟨rfl, rfl⟩ M0 B σ M H ps S Q fun vs s' M' H' ps' cs' g S' e f ok => by
    obtain ⟨rfl, rfl⟩ := g
    exact p vs M' H' ps' S' e f ok
def rSupC (X : Cx) (f : Value) : List V → Hp → VK → Prop := fun vs H Q => ∃ r, CallR X f r ∧ r vs H Q
theorem callR_sup {f : Value} : CallR X f (rSupC X f) := fun pins s σ H xs us Q I rx ⟨_, h, q⟩ => h pins s σ H xs us Q I rx q
def OpA (K : Fg) (r : List V → Hp → VK → Prop) (ss : List Slot) (s : Slot) : Prop := ∀ M0 B σ M H env ps cs, Sta K M0 B σ M H env ps cs → ∀ vs, Pr (fun v s => SlotOk K M ps s v) vs ss → ∀ Q : VK,
  (∀ v M' H', Sta K M0 B σ M' H' env ps cs → Ex M M' → SlotOk K M' ps s v → Q v H') → r vs H Q
def CallD (X : Cx) (f : Value) (ss : List Slot) (s : Slot) : Prop := OpA X.K (rSupC X f) ss s
theorem OpA.mk {f : Value} {r : List V → Hp → VK → Prop} (h : CallR X f r) (d : OpA X.K r ss s) : CallD X f ss s := fun M0 B σ M H env ps cs S vs h1 Q p => ⟨r, h, d M0 B σ M H env ps cs S vs h1 Q p⟩
theorem opA {r : List V → Hp → VK → Prop} (h : WA X env cs es fun ss cs1 => ∃ s, OpA X.K r ss s ∧ Φ s cs1) : ∀ M0 B σ M H ps, Sta X.K M0 B σ M H env ps cs → ∀ Q, Post X.K M0 B σ M env ps Φ Q → tCB r (Wa X es) σ H Q := fun M0 B σ M H ps S Q p =>
  h M0 B σ M H ps S _ fun vs ss M1 H1 ps1 cs1 h1 S1 e1 f1 r1 => by
    obtain ⟨s, d, q⟩ := h1
    exact d M0 B σ M1 H1 env ps1 cs1 S1 vs r1 Q fun v M2 H2 S2 e2 ok => p v s M2 H2 ps1 cs1 q S2 (e1.trans e2) f1 ok
theorem we_callB {x : PySem.Str} {id : String} {p pos : Pos'} (hm : X.mg x = none) (hv : bootBuiltins x = some (.builtin id)) (h : WA X env cs (e :: es) fun ss cs1 => ∃ s, CallD X (.builtin id) ss s ∧ Φ s cs1) (hg : Gl X x) (hn : x ≠ "__name__") (hd : (x == ("__debug__" : PySem.Str)) = false)
    (he : starEach (e :: es) X.env = (false, eval e X.env) :: starEach es X.env) (hpl : (backTo pos (starEach es X.env)).any (·.1) = false) : WE X env cs (.Call (.Name x p) (e :: es) [] pos) Φ := fun M0 B σ M H ps S Q p =>
  wp_of (pe_callB callR_sup hg hm hv pa_wa hn hd he hpl) (opA h M0 B σ M H ps S Q p)
theorem we_callTy {x : PySem.Str} {id : String} {p pos : Pos'} (hm : X.mg x = none) (hv : bootBuiltins x = some (.type id)) (h : WA X env cs (e :: es) fun ss cs1 => ∃ s, CallD X (.type id) ss s ∧ Φ s cs1) (hg : Gl X x) (hn : x ≠ "__name__") (hd : (x == ("__debug__" : PySem.Str)) = false)
    (he : starEach (e :: es) X.env = (false, eval e X.env) :: starEach es X.env) (hpl : (backTo pos (starEach es X.env)).any (·.1) = false) : WE X env cs (.Call (.Name x p) (e :: es) [] pos) Φ := fun M0 B σ M H ps S Q p =>
  wp_of (pe_callTy callR_sup hg hm hv pa_wa hn hd he hpl) (opA h M0 B σ M H ps S Q p)
theorem de_callB {x : PySem.Str} {id : String} {p pos : Pos'} (hm : X.mg x = none) (hv : bootBuiltins x = some (.builtin id)) (h : DA X env cs (e :: es) ss) (d : CallD X (.builtin id) ss s) (hg : Gl X x) (hn : x ≠ "__name__") (hd : (x == ("__debug__" : PySem.Str)) = false)
    (he : starEach (e :: es) X.env = (false, eval e X.env) :: starEach es X.env) (hpl : (backTo pos (starEach es X.env)).any (·.1) = false) : DE X env cs (.Call (.Name x p) (e :: es) [] pos) s := fun Φ q => we_callB hm hv (h _ ⟨s, d, q⟩) hg hn hd he hpl
theorem de_callTy {x : PySem.Str} {id : String} {p pos : Pos'} (hm : X.mg x = none) (hv : bootBuiltins x = some (.type id)) (h : DA X env cs (e :: es) ss) (d : CallD X (.type id) ss s) (hg : Gl X x) (hn : x ≠ "__name__") (hd : (x == ("__debug__" : PySem.Str)) = false)
    (he : starEach (e :: es) X.env = (false, eval e X.env) :: starEach es X.env) (hpl : (backTo pos (starEach es X.env)).any (·.1) = false) : DE X env cs (.Call (.Name x p) (e :: es) [] pos) s := fun Φ q => we_callTy hm hv (h _ ⟨s, d, q⟩) hg hn hd he hpl

/-! ### displays -/
/-- new data -/
theorem Post.new {Q : VK} {v : V} (p : Post K M0 B σ M env ps Φ Q) (S : Sta K M0 B σ M H env ps cs) {o : HO} {a : Addr} (ha : H a = none) (q : Φ s cs) (ok : SlotOk K (upd M a o) ps s v) : Q v (upd H a o) :=
  p v s _ _ ps cs q (S.new ha) (Ex.nw (S.mh.back ha)) (Pre.refl _) ok
theorem upd_sq {K : Fg} {M : Hp} {p : Addr} {vs : List V} : SqL K (upd M p (.lst vs)) p vs := .inl (.inl upd_same)
theorem upd_st {K : Fg} {M : Hp} {p : Addr} {vs : List V} : SqT K (upd M p (.tup vs)) p vs := .inl (.inl upd_same)
/-- (a, b, ..): the items' slots make s -/
def MkT (K : Fg) (ss : List Slot) (s : Slot) : Prop := ss.length ≤ sizeLine ∧ ∀ M ps vs, Pr (fun v s => SlotOk K M ps s v) vs ss → ∀ M' p, Ex M M' → SqT K M' p vs → SlotOk K M' ps s (.ref p)
def MkL (K : Fg) (ss : List Slot) (s : Slot) : Prop := ss.length ≤ sizeLine ∧ ∀ M ps vs, Pr (fun v s => SlotOk K M ps s v) vs ss → ∀ M' p, Ex M M' → SqL K M' p vs → SlotOk K M' ps s (.ref p)
theorem we_tup {x1} (h : WA X env cs es fun ss cs1 => ∃ s, MkT X.K ss s ∧ Φ s cs1) : WE X env cs (.Tuple es x1 pos) Φ := fun M0 B σ M H ps S Q p =>
  wp_of (pe_tup pa_wa) (h M0 B σ M H ps S _ fun vs ss M1 H1 ps1 cs1 h1 S1 e1 f1 r1 => by
    obtain ⟨s, ⟨d1, d2⟩, q⟩ := h1
    exact ⟨r1.len ▸ d1, fun a ha => (p.on e1 f1).new S1 ha q (d2 _ _ _ r1 _ _ (Ex.nw (S1.mh.back ha)) upd_st)⟩)
theorem we_lst (h : WA X env cs es fun ss cs1 => ∃ s, MkL X.K ss s ∧ Φ s cs1) : WE X env cs (.List es pos) Φ := fun M0 B σ M H ps S Q p =>
  wp_of (pe_lst pa_wa) (h M0 B σ M H ps S _ fun vs ss M1 H1 ps1 cs1 h1 S1 e1 f1 r1 => by
    obtain ⟨s, ⟨d1, d2⟩, q⟩ := h1
    exact ⟨r1.len ▸ d1, fun a ha => (p.on e1 f1).new S1 ha q (d2 _ _ _ r1 _ _ (Ex.nw (S1.mh.back ha)) upd_sq)⟩)
/-- a list of one's own -/
theorem we_lstC (h : WA X env cs es fun ss cs1 => ∃ c : Cell, (ss.length ≤ sizeLine ∧ ∀ M ps vs, Pr (fun v s => SlotOk X.K M ps s v) vs ss → CellOk X.K M ps c (.lst vs)) ∧ Φ (.c cs1.length) (cs1 ++ [c])) : WE X env cs (.List es pos) Φ := fun M0 B σ M H ps S Q p =>
  wp_of (pe_lst pa_wa) (h M0 B σ M H ps S _ fun vs ss M1 H1 ps1 cs1 h1 S1 e1 f1 r1 => by
    obtain ⟨c, ⟨d1, d2⟩, q⟩ := h1
    exact ⟨r1.len ▸ d1, fun a ha => p _ _ M1 _ _ _ q (S1.alloc ha (d2 _ _ _ r1)) e1 (f1.trans ⟨[a], rfl⟩) ⟨a, by rw [← S1.cl.len]; simp, rfl⟩⟩)
theorem de_tup {x1} (h : DA X env cs es ss) (d : MkT X.K ss s) : DE X env cs (.Tuple es x1 pos) s := fun Φ q => we_tup (h _ ⟨s, d, q⟩)
theorem de_lst (h : DA X env cs es ss) (d : MkL X.K ss s) : DE X env cs (.List es pos) s := fun Φ q => we_lst (h _ ⟨s, d, q⟩)
section
variable {α β γ : Type} [Enc α] [Enc β] [Enc γ]
theorem mkT_2 {x : α} {y : β} : MkT K [.of x, .of y] (.of (x, y)) := ⟨by show 2 ≤ sizeLine; decide, fun M ps vs r M' p e h => by
  cases r with
  | cons r1 r =>
    cases r with
    | cons r2 r =>
      cases r
      exact ⟨p, _, _, rfl, h, Enc.mono e r1, Enc.mono e r2⟩⟩
theorem mkT_3 {x : α} {y : β} {z : γ} : MkT K [.of x, .of y, .of z] (.of (T3.mk x y z)) := ⟨by show 3 ≤ sizeLine; decide, fun M ps vs r M' p e h => by
  cases r with
  | cons r1 r =>
    cases r with
    | cons r2 r =>
      cases r with
      | cons r3 r =>
        cases r
        exact ⟨p, _, _, _, rfl, h, Enc.mono e r1, Enc.mono e r2, Enc.mono e r3⟩⟩
theorem pr_map {M : Hp} {ps : List Addr} {vs : List V} {xs : List α} (r : Pr (fun v s => SlotOk K M ps s v) vs (xs.map Slot.of)) : Pr (Enc.rep K M) vs xs := by
  induction xs generalizing vs with
  | nil => cases r; exact .nil
  | cons x xs ih =>
    cases r with
    | cons r1 r => exact .cons r1 (ih r)
theorem mkL_l {xs : List α} (h : xs.length ≤ sizeLine) {ss : List Slot} (hs : ss = xs.map Slot.of) : MkL K ss (.of xs) := ⟨by rw [hs, List.length_map]; exact h, fun M ps vs r M' p e q => ⟨p, vs, rfl, q, (pr_map (hs ▸ r)).imp fun _ _ => Enc.mono e⟩⟩
theorem mkT_l {xs : List α} (h : xs.length ≤ sizeLine) {ss : List Slot} (hs : ss = xs.map Slot.of) : MkT K ss (.of (Tup.mk xs)) := ⟨by rw [hs, List.length_map]; exact h, fun M ps vs r M' p e q => ⟨p, vs, rfl, q, (pr_map (hs ▸ r)).imp fun _ _ => Enc.mono e⟩⟩
end
end
end DL

set_option Elab.async false
set_option linter.all false
set_option maxRecDepth 100000
set_option maxHeartbeats 2000000
/-! DL3: what a statement does to plain data; loops, comprehensions, defs. -/
namespace DL
open PySem L2
abbrev WantE := List Slot → List Cell → Prop
section
variable {X : Cx} {σ : St} {H : Hp}
def Wss (X : Cx) (sts : List Stmt) : TS := fun D σ H => ∀ (pins : List (Addr × Obj)) (s : Shared), Inv X pins σ H s → wpAny (model X.prog X.w) X.A (execs sts X.env) (SP X pins D) X.xe s
def Ws1 (X : Cx) (st : Stmt) : TS := fun D σ H => ∀ (pins : List (Addr × Obj)) (s : Shared), Inv X pins σ H s → wpAny (model X.prog X.w) X.A (exec st X.env) (SP X pins D) X.xe s
def Wg (X : Cx) (tg : Expr) : TG := fun v σ H Q => ∀ (pins : List (Addr × Obj)) (s : Shared) (u : Value), Inv X pins σ H s → RelV v u → wpAny (model X.prog X.w) X.A (assign tg X.env u) (fun _ s' => ∃ σ' H', Inv X pins σ' H' s' ∧ Q σ' H') X.xe s
def Wi (X : Cx) (tg iter : Expr) : TI := fun σ H R => ∀ (pins : List (Addr × Obj)) (s : Shared), Inv X pins σ H s → wpAny (model X.prog X.w) X.A (eval iter X.env) (fun v s1 => wpAny (model X.prog X.w) X.A (pyIter v) (PIE X pins σ tg R) X.xe s1) X.xe s
theorem pss_w {sts : List Stmt} : PSs X sts (Wss X sts) := ⟨fun pins s σ H Q I h => h pins s I⟩
theorem ps_w {st : Stmt} : PS X st (Ws1 X st) := ⟨fun pins s σ H Q I h => h pins s I⟩
theorem pg_w {tg : Expr} : PG X tg (Wg X tg) := ⟨fun pins s σ H v u Q I r h => h pins s u I r⟩
theorem pi_w {tg iter : Expr} : PI X tg iter (Wi X tg iter) := ⟨fun pins s σ H R I h => h pins s I⟩
theorem wss_of {sts : List Stmt} {t : TS} {D : Ends} (h : PSs X sts t) (q : t D σ H) : Wss X sts D σ H := fun pins s I => h.run pins s σ H D I q
theorem ws1_of {st : Stmt} {t : TS} {D : Ends} (h : PS X st t) (q : t D σ H) : Ws1 X st D σ H := fun pins s I => h.run pins s σ H D I q
theorem wg_of {tg : Expr} {t : TG} {v : V} {Q : St → Hp → Prop} (h : PG X tg t) (q : t v σ H Q) : Wg X tg v σ H Q := fun pins s u I r => h.run pins s σ H v u Q I r q
theorem wi_of {tg iter : Expr} {t : TI} {R : It → Hp → Prop} (h : PI X tg iter t) (q : t σ H R) : Wi X tg iter σ H R := fun pins s I => h.run pins s σ H R I q
end
/-- the same but for these places -/
def Agr (is : List Nat) (σ σ' : St) : Prop := σ'.length = σ.length ∧ ∀ i : Nat, i ∉ is → σ'[i]? = σ[i]?
theorem Agr.refl (is : List Nat) (σ : St) : Agr is σ σ := ⟨rfl, fun _ _ => rfl⟩
theorem Agr.trans {is js : List Nat} {a b c : St} (h : Agr is a b) (g : Agr js b c) : Agr (is ++ js) a c := ⟨g.1.trans h.1, fun i hi => (g.2 i fun z => hi (List.mem_append_right _ z)).trans (h.2 i fun z => hi (List.mem_append_left _ z))⟩
theorem Agr.set {i : Nat} {σ : St} {v : Option V} : Agr [i] σ (σ.set i v) := ⟨List.length_set, fun j hj => List.getElem?_set_ne (fun z => hj (by rw [z]; exact List.mem_cons_self))⟩
theorem wipe_get {σ : St} : ∀ {vs : List Nat} {i : Nat}, (wipe σ vs)[i]? = if i ∈ vs ∧ i < σ.length then some none else σ[i]?
  | [], i => by simp [wipe]
  | v :: vs, i => by
    unfold wipe
    by_cases h : v = i
    · subst h
      by_cases hl : v < σ.length
      · rw [List.getElem?_set_self (by rw [wipe_length]; exact hl), if_pos ⟨List.mem_cons_self, hl⟩]
      · rw [List.getElem?_eq_none (by rw [List.length_set, wipe_length]; omega), if_neg (fun z => hl z.2), List.getElem?_eq_none (by omega)]
    · rw [List.getElem?_set_ne h, wipe_get]
      by_cases hi : i ∈ vs
      · simp [hi]
      · have : i ∉ v :: vs := by simp [hi]; exact fun z => h z.symm
        rw [if_neg (fun z => hi z.1), if_neg (fun z => this z.1)]
theorem Agr.wipe {is vs : List Nat} {σ σ' : St} (h : Agr is σ σ') (hs : ∀ i ∈ is, i ∈ vs) : wipe σ' vs = wipe σ vs := by
  apply List.ext_getElem?
  intro i
  rw [wipe_get, wipe_get, h.1]
  by_cases hi : i ∈ vs ∧ i < σ.length
  · rw [if_pos hi, if_pos hi]
  · rw [if_neg hi, if_neg hi]
    by_cases hv : i ∈ vs
    · have : σ.length ≤ i := Nat.le_of_not_lt fun z => hi ⟨hv, z⟩
      rw [List.getElem?_eq_none (by rw [h.1]; exact this), List.getElem?_eq_none this]
    · exact h.2 i fun z => hv (hs i z)
def wipeE (env : List Slot) : List Nat → List Slot
  | [] => env
  | v :: vs => (wipeE env vs).set v .no
/-- the target gets s -/
def WG (X : Cx) (is : List Nat) (tg : Expr) (s : Slot) (env : List Slot) (cs : List Cell) (Ψ : WantE) : Prop :=
  ∀ M0 B σ M H ps, Sta X.K M0 B σ M H env ps cs → ∀ v, SlotOk X.K M ps s v → ∀ Q : St → Hp → Prop, (∀ σ' M' H' ps' env' cs', Ψ env' cs' → Sta X.K M0 B σ' M' H' env' ps' cs' → Ex M M' → Pre ps ps' → Agr is σ σ' → Q σ' H') → Wg X tg v σ H Q
def WGs (X : Cx) (is : List Nat) (tgs : List Expr) (ss : List Slot) (env : List Slot) (cs : List Cell) (Ψ : WantE) : Prop :=
  ∀ M0 B σ M H ps, Sta X.K M0 B σ M H env ps cs → ∀ vs, Pr (fun v s => SlotOk X.K M ps s v) vs ss → ∀ Q : St → Hp → Prop, (∀ σ' M' H' ps' env' cs', Ψ env' cs' → Sta X.K M0 B σ' M' H' env' ps' cs' → Ex M M' → Pre ps ps' → Agr is σ σ' → Q σ' H') →
    ∃ t, PGs X tgs t ∧ t vs σ H Q
section
variable {X : Cx} {K : Fg} {M0 B M M' H H' : Hp} {σ : St} {env : List Slot} {ps ps' : List Addr} {cs cs' : List Cell} {e tg : Expr} {es : List Expr} {s : Slot} {ss : List Slot} {Ψ : WantE} {pos : Pos'} {is js : List Nat}
theorem wg_name (i : Nat) {x : PySem.Str} (q : Ψ (env.set i s) cs) (hN : X.N.Nodup) (hi : X.N[i]? = some x) (hx : Loc X.env.scope x) (hf : X.fn x = true ∨ X.env.scope.names.lookup x = some .local) : WG X [i] (.Name x pos) s env cs Ψ := fun M0 B σ M H ps S v ok Q p =>
  wg_of (pg_name hN hi hx hf) (p _ M H ps _ cs q (S.set ok) (Ex.refl _) (Pre.refl _) Agr.set)
theorem wgs_nil (q : Ψ env cs) : WGs X [] [] [] env cs Ψ := fun M0 B σ M H ps S vs ok Q p => by
  cases ok
  exact ⟨gNil, pgs_nil, rfl, p _ M H ps _ cs q S (Ex.refl _) (Pre.refl _) (Agr.refl _ _)⟩
/-- the readings of several targets, whatever they are -/
theorem wgs_cons (h : WG X is e s env cs fun env1 cs1 => WGs X js es ss env1 cs1 Ψ) (hs : (assignEach (e :: es) X.env).map (·.2) = assign e X.env :: (assignEach es X.env).map (·.2)) : WGs X (is ++ js) (e :: es) (s :: ss) env cs Ψ := fun M0 B σ M H ps S vs ok Q p => by
  cases ok with
  | @cons v _ vs _ r rr =>
    -- the rest's reading depends on the state: take the union of all
    let u : TGs := fun vs σ H Q => ∃ t, PGs X es t ∧ t vs σ H Q
    have pu : PGs X es u := ⟨fun pins s σ H vs us Q I r ⟨t, h1, h2⟩ => h1.run pins s σ H vs us Q I r h2⟩
    refine ⟨gCons (Wg X e) u, pgs_cons pg_w pu hs, v, vs, rfl, ?_⟩
    refine h M0 B σ M H ps S v r _ fun σ1 M1 H1 ps1 env1 cs1 g S1 e1 f1 a1 => ?_
    exact g M0 B σ1 M1 H1 ps1 S1 vs (rr.imp fun _ _ => SlotOk.mono e1 f1) Q fun σ2 M2 H2 ps2 env2 cs2 q S2 e2 f2 a2 => p σ2 M2 H2 ps2 env2 cs2 q S2 (e1.trans e2) (f1.trans f2) (a1.trans a2)
/-- s is a tuple of these -/
def UnT (K : Fg) (s : Slot) (ss : List Slot) : Prop := ∀ M ps v, SlotOk K M ps s v → ∃ p vs, v = .ref p ∧ SqT K M p vs ∧ Pr (fun v s => SlotOk K M ps s v) vs ss
theorem wg_tup {k : Nat} (hc : X.calm = true) (u : UnT X.K s ss) (h : WGs X is es ss env cs Ψ) (hn : (assignEach es X.env).length = ss.length) (hst : (assignEach es X.env).findIdx? (·.1) = none) : WG X is (.Tuple es k pos) s env cs Ψ := fun M0 B σ M H ps S v ok Q p => by
  obtain ⟨a, vs, rfl, h1, h2⟩ := u M ps v ok
  obtain ⟨t, ht, q⟩ := h M0 B σ M H ps S vs h2 Q p
  exact wg_of (pg_tup hc ht hn hst) ⟨a, vs, rfl, S.mh.st h1, h2.len, q⟩
section
variable {α β γ : Type} [Enc α] [Enc β] [Enc γ]
theorem unT_2 {x : α × β} : UnT K (.of x) [.of x.1, .of x.2] := fun M ps v ok => by
  obtain ⟨p, a, b, h1, h2, h3, h4⟩ := ok
  exact ⟨p, _, h1, h2, .cons h3 (.cons h4 .nil)⟩
theorem unT_3 {x : T3 α β γ} : UnT K (.of x) [.of x.a, .of x.b, .of x.c] := fun M ps v ok => by
  obtain ⟨p, a, b, c, h1, h2, h3, h4, h5⟩ := ok
  exact ⟨p, _, h1, h2, .cons h3 (.cons h4 (.cons h5 .nil))⟩
theorem unT_l {x : Tup α} : UnT K (.of x) (x.l.map Slot.of) := fun M ps v ok => by
  obtain ⟨p, vs, h1, h2, h3⟩ := ok
  refine ⟨p, vs, h1, h2, ?_⟩
  clear h2
  generalize x.l = l at h3 ⊢
  induction h3 with
  | nil => exact .nil
  | cons a _ ih => exact .cons a ih
end

/-! ### statements -/
structure EndsD : Type 1 where
  nx : WantE
  rt : Want
  bk : WantE := fun _ _ => False
  ct : WantE := fun _ _ => False
@[reducible] def EndsD.next (D : EndsD) (f : WantE) : EndsD := ⟨f, D.rt, D.bk, D.ct⟩
@[reducible] def EndsD.loop (D : EndsD) (f : WantE) : EndsD := ⟨f, D.rt, D.nx, f⟩
structure EndsOk (K : Fg) (M0 B M : Hp) (ps : List Addr) (D : EndsD) (D' : Ends) : Prop where
  nx : ∀ σ' M' H' env' ps' cs', D.nx env' cs' → Sta K M0 B σ' M' H' env' ps' cs' → Ex M M' → Pre ps ps' → D'.nx σ' H'
  rt : ∀ v s σ' M' H' env' ps' cs', D.rt s cs' → Sta K M0 B σ' M' H' env' ps' cs' → Ex M M' → Pre ps ps' → SlotOk K M' ps' s v → D'.rt v H'
  bk : ∀ σ' M' H' env' ps' cs', D.bk env' cs' → Sta K M0 B σ' M' H' env' ps' cs' → Ex M M' → Pre ps ps' → D'.bk σ' H'
  ct : ∀ σ' M' H' env' ps' cs', D.ct env' cs' → Sta K M0 B σ' M' H' env' ps' cs' → Ex M M' → Pre ps ps' → D'.ct σ' H'
theorem EndsOk.on {D : EndsD} {D' : Ends} (h : EndsOk K M0 B M ps D D') (e : Ex M M') (f : Pre ps ps') : EndsOk K M0 B M' ps' D D' :=
  ⟨fun σ' M2 H' env' ps2 cs' q S a b => h.nx σ' M2 H' env' ps2 cs' q S (e.trans a) (f.trans b), fun v s σ' M2 H' env' ps2 cs' q S a b => h.rt v s σ' M2 H' env' ps2 cs' q S (e.trans a) (f.trans b),
   fun σ' M2 H' env' ps2 cs' q S a b => h.bk σ' M2 H' env' ps2 cs' q S (e.trans a) (f.trans b), fun σ' M2 H' env' ps2 cs' q S a b => h.ct σ' M2 H' env' ps2 cs' q S (e.trans a) (f.trans b)⟩
def WS (X : Cx) (sts : List Stmt) (env : List Slot) (cs : List Cell) (D : EndsD) : Prop := ∀ M0 B σ M H ps, Sta X.K M0 B σ M H env ps cs → ∀ D', EndsOk X.K M0 B M ps D D' → Wss X sts D' σ H
def W1 (X : Cx) (st : Stmt) (env : List Slot) (cs : List Cell) (D : EndsD) : Prop := ∀ M0 B σ M H ps, Sta X.K M0 B σ M H env ps cs → ∀ D', EndsOk X.K M0 B M ps D D' → Ws1 X st D' σ H
@[reducible] def EndsD.thn (D : EndsD) (X : Cx) (rest : List Stmt) : EndsD := ⟨fun env' cs' => WS X rest env' cs' D, D.rt, D.bk, D.ct⟩
variable {st : Stmt} {sts rest body : List Stmt} {D D2 : EndsD} {c a b : Expr}
theorem ws_nil (q : D.nx env cs) : WS X [] env cs D := fun M0 B σ M H ps S D' p => wss_of pss_nil (p.nx σ M H env ps cs q S (Ex.refl _) (Pre.refl _))
theorem ws_cons (h : W1 X st env cs (D.thn X rest)) : WS X (st :: rest) env cs D := fun M0 B σ M H ps S D' p =>
  wss_of (pss_cons ps_w pss_w) (h M0 B σ M H ps S _ ⟨fun σ' M' H' env' ps' cs' q S' e f => q M0 B σ' M' H' ps' S' D' (p.on e f), p.rt, p.bk, p.ct⟩)
theorem W1.imp (h : W1 X st env cs D) (h1 : ∀ e c, D.nx e c → D2.nx e c) (h2 : ∀ e c, D.rt e c → D2.rt e c) (h3 : ∀ e c, D.bk e c → D2.bk e c) (h4 : ∀ e c, D.ct e c → D2.ct e c) : W1 X st env cs D2 := fun M0 B σ M H ps S D' p =>
  h M0 B σ M H ps S D' ⟨fun σ' M' H' env' ps' cs' q => p.nx σ' M' H' env' ps' cs' (h1 _ _ q), fun v s σ' M' H' env' ps' cs' q => p.rt v s σ' M' H' env' ps' cs' (h2 _ _ q), fun σ' M' H' env' ps' cs' q => p.bk σ' M' H' env' ps' cs' (h3 _ _ q), fun σ' M' H' env' ps' cs' q => p.ct σ' M' H' env' ps' cs' (h4 _ _ q)⟩
/-- a word between two statements -/
theorem ws_cut (Mid : WantE) (h : W1 X st env cs (D.next Mid)) (k : ∀ env' cs', Mid env' cs' → WS X rest env' cs' D) : WS X (st :: rest) env cs D := ws_cons (h.imp k (fun _ _ q => q) (fun _ _ q => q) fun _ _ q => q)
theorem w1_set (i : Nat) {x : PySem.Str} {p' : Pos'} (h : WE X env cs e fun s cs' => D.nx (env.set i s) cs') (hN : X.N.Nodup) (hi : X.N[i]? = some x) (hx : Loc X.env.scope x) (hs : swapsWith e (some (.Name x p')) pos.line X.env = pure false) (hf : X.fn x = true ∨ X.env.scope.names.lookup x = some .local) :
    W1 X (.Assign [.Name x p'] e pos) env cs D := fun M0 B σ M H ps S D' p =>
  ws1_of (ps_set hN hi hx pe_wp hs hf) (h M0 B σ M H ps S _ fun v s M' H' ps' cs' q S' e f ok => p.nx _ M' H' _ ps' cs' q (S'.set ok) e f)
theorem w1_asg (h : WE X env cs e fun s cs' => WG X is tg s env cs' D.nx) (hs : swapsWithSole [tg] e pos.line X.env = pure false) (hw : swappedStores [tg] e X.env = pure none) (h1 : (assignEach [tg] X.env).map (·.2) = [assign tg X.env]) : W1 X (.Assign [tg] e pos) env cs D := fun M0 B σ M H ps S D' p =>
  ws1_of (ps_asg pe_wp pg_w hs hw h1) (h M0 B σ M H ps S _ fun v s M' H' ps' cs' q S' e f ok => q M0 B σ M' H' ps' S' v ok _ fun σ2 M2 H2 ps2 env2 cs2 q2 S2 e2 f2 _ => p.nx _ M2 H2 _ ps2 cs2 q2 S2 (e.trans e2) (f.trans f2))
/-- a, b = x, y -/
theorem w1_par (i j : Nat) {x y : PySem.Str} {px py pt : Pos'} {kt k2 pt2} (h : WA X env cs [a, b] fun ss cs' => ∃ s1 s2, ss = [s1, s2] ∧ D.nx ((env.set i s1).set j s2) cs') (hc : X.calm = true) (hN : X.N.Nodup) (hi : X.N[i]? = some x) (hj : X.N[j]? = some y) (hij : i ≠ j)
    (hx : X.env.scope.names.lookup x = some .local) (hy : X.env.scope.names.lookup y = some .local) (hw : swappedStores [.Tuple [.Name x px, .Name y py] kt pt] (.Tuple [a, b] k2 pt2) X.env = pure (some [x, y]))
    (hs : swapsWithSole [.Tuple [.Name x px, .Name y py] kt pt] (.Tuple [a, b] k2 pt2) pos.line X.env = pure false) : W1 X (.Assign [.Tuple [.Name x px, .Name y py] kt pt] (.Tuple [a, b] k2 pt2) pos) env cs D := fun M0 B σ M H ps S D' p =>
  ws1_of (ps_par hc hN hi hj hij hx hy pa_wa hw hs) (h M0 B σ M H ps S _ fun vs ss M' H' ps' cs' q S' e f ok => by
    obtain ⟨s1, s2, rfl, q⟩ := q
    cases ok with
    | cons r1 ok =>
      cases ok with
      | cons r2 ok =>
        cases ok
        exact ⟨_, _, rfl, p.nx _ M' H' _ ps' cs' q ((S'.set r1).set r2) e f⟩)
/-- name op= e -/
theorem pip_of {op : Operator} {r : R2} (h : OpR X (inplaceOp op) r) : PIp X op r := fun pins s σ H x y v u Q I r1 r2 q => h pins s σ H x y v u Q I r1 r2 q
theorem w1_aug (i : Nat) {x : PySem.Str} {op : Operator} {p' : Pos'} {s0 : Slot} (h0 : env[i]? = some s0) (hn0 : s0 ≠ .no) (h : WE X env cs e fun s cs' => ∃ s', AugD X op s0 s s' ∧ D.nx (env.set i s') cs') (hN : X.N.Nodup) (hi : X.N[i]? = some x) (hx : Loc X.env.scope x) (hf : X.fn x = true ∨ X.env.scope.names.lookup x = some .local) :
    W1 X (.AugAssign (.Name x p') op e pos) env cs D := fun M0 B σ M H ps S D' p => by
  obtain ⟨v0, e0, ok0⟩ := S.slot h0 hn0
  refine ws1_of (ps_aug hN hi hx pe_wp (pip_of opR_sup) hf) ⟨v0, e0, h M0 B σ M H ps S _ fun v s M' H' ps' cs' q S' e f ok => ?_⟩
  obtain ⟨s', d, q⟩ := q
  exact d.cont S' (ok0.mono e f) ok fun v2 M2 H2 S2 e2 ok2 => p.nx _ M2 H2 _ ps' cs' q (S2.set ok2) (e.trans e2) f
theorem w1_expr (h : WE X env cs e fun _ cs' => D.nx env cs') (hs : swapsWith e none pos.line X.env = pure false) : W1 X (.Expr e pos) env cs D := fun M0 B σ M H ps S D' p =>
  ws1_of (ps_expr pe_wp hs) (h M0 B σ M H ps S _ fun v s M' H' ps' cs' q S' e f ok => p.nx _ M' H' _ ps' cs' q S' e f)
theorem w1_ret (h : WE X env cs e D.rt) : W1 X (.Return (some e) pos) env cs D := fun M0 B σ M H ps S D' p =>
  ws1_of (ps_ret pe_wp) (h M0 B σ M H ps S _ fun v s M' H' ps' cs' q S' e f ok => p.rt v s σ M' H' env ps' cs' q S' e f ok)
theorem w1_retN (h : D.rt (.of ()) cs) : W1 X (.Return none pos) env cs D := fun M0 B σ M H ps S D' p => ws1_of ps_retN (p.rt _ _ σ M H env ps cs h S (Ex.refl _) (Pre.refl _) rfl)
theorem w1_pass (h : D.nx env cs) : W1 X (.Pass pos) env cs D := fun M0 B σ M H ps S D' p => ws1_of ps_pass (p.nx _ M H _ ps cs h S (Ex.refl _) (Pre.refl _))
theorem w1_break (h : D.bk env cs) : W1 X (.Break pos) env cs D := fun M0 B σ M H ps S D' p => ws1_of ps_break (p.bk _ M H _ ps cs h S (Ex.refl _) (Pre.refl _))
theorem w1_cont (h : D.ct env cs) : W1 X (.Continue pos) env cs D := fun M0 B σ M H ps S D' p => ws1_of ps_continue (p.ct _ M H _ ps cs h S (Ex.refl _) (Pre.refl _))
theorem w1_if {x y : List Stmt} (h : WT X env cs c fun k cs' => if k = true then WS X x env cs' D else WS X y env cs' D) : W1 X (.If c x y pos) env cs D := fun M0 B σ M H ps S D' p =>
  ws1_of (ps_if pt_wt pss_w pss_w) (h M0 B σ M H ps S _ fun k M' H' ps' cs' q S' e f => by
    cases k with
    | true => exact q M0 B σ M' H' ps' S' D' (p.on e f)
    | false => exact q M0 B σ M' H' ps' S' D' (p.on e f))
theorem w1_ifD {x y : List Stmt} {k : Bool} (h : DT X env cs c k) (h1 : k = true → WS X x env cs D) (h2 : k = false → WS X y env cs D) : W1 X (.If c x y pos) env cs D := w1_if (h _ (by
  cases k with
  | true => exact h1 rfl
  | false => exact h2 rfl))
/-- a cell is handed on as plain data -/
theorem ws_freeze (j : Nat) {α : Type} [i : Enc α] {xs : List α} (hc : cs[j]? = some (.tl α i xs)) (env' : List Slot) (he : env' = env.map fun s => match s with | .c k => if k = j then .of xs else .c k | s => s)
    (h : WS X sts env' (cs.set j .dead) D) : WS X sts env cs D := fun M0 B σ M H ps S D' p => by
  obtain ⟨q, o, h1, h2, h3, h4, vs, rfl, h5⟩ := S.cell hc (fun z => nomatch z)
  have S' := S.freeze h1 hc (fun z => nomatch z) h4
  have e : Ex M (upd M q (.lst vs)) := Ex.nw h2
  refine h M0 B σ _ H ps (S'.names ?_) D' (p.on e (Pre.refl _))
  rw [he]
  have g := S'.sl
  clear S S'
  generalize env = l at g
  induction g with
  | nil => exact .nil
  | @cons ov s a m r _ ih =>
    refine .cons ?_ ih
    cases s with
    | c k =>
      by_cases hk : k = j
      · subst hk
        right
        rcases r with r | ⟨v, r1, p', r2, r3⟩
        · cases r
        · rw [h1] at r2
          cases r2
          refine ⟨v, r1, ?_⟩
          show SlotOk _ _ _ (if k = k then Slot.of xs else .c k) v
          rw [if_pos rfl]
          exact ⟨q, vs, r3, upd_sq, h5.imp fun _ _ => i.mono e⟩
      · show NameOk _ _ _ ov (if k = j then Slot.of xs else .c k)
        rw [if_neg hk]
        exact r
    | no => exact r
    | d _ _ _ => exact r
    | v _ => exact r

/-! ### walks -/
structure Yields (K : Fg) (J : It) (ss : List Slot) (M : Hp) (ps : List Addr) : Prop where
  len : ss.length ≤ sizeLine
  go : ∀ i M1 H1, i < ss.length → Ex M M1 → Ex M1 H1 → J.go i H1
  stop : ∀ M1 H1, Ex M M1 → Ex M1 H1 → J.stop ss.length H1
  yld : ∀ i M1 H1 x H2 s, ss[i]? = some s → Ex M M1 → Ex M1 H1 → J.yld i H1 x H2 → ∃ M2, Ex M1 M2 ∧ Ex H1 H2 ∧ Ex M2 H2 ∧ (∀ p, H1 p ≠ none → M1 p = none → M2 p = none) ∧ SlotOk K M2 ps s x
abbrev WantI := List Slot → List Cell → Prop
def WI (X : Cx) (tg iter : Expr) (env : List Slot) (cs : List Cell) (Φ : WantI) : Prop := ∀ M0 B σ M H ps, Sta X.K M0 B σ M H env ps cs → ∀ R : It → Hp → Prop,
  (∀ J ss M' H' ps' cs', Φ ss cs' → Sta X.K M0 B σ M' H' env ps' cs' → Ex M M' → Pre ps ps' → Yields X.K J ss M' ps' → R J H') → Wi X tg iter σ H R
/-- an expression's value, with what is known of lengths -/
def LenOk (K : Fg) (v : V) (H : Hp) : Prop := ∀ p xs, v = .ref p → (SqL K H p xs ∨ SqT K H p xs) → xs.length ≤ sizeLine
def WpL (X : Cx) (e : Expr) : TE := fun σ H Q => Wp X e σ H fun v H1 => LenOk X.K v H1 → Q v H1
theorem pe_wpL : PE X e (WpL X e) := ⟨fun pins s σ H Q I h => thn (h pins s I) fun u s1 ⟨v, H1, I1, r, q⟩ => ⟨v, H1, I1, r, q fun p xs _ hx => hx.elim (fun z => by obtain ⟨_, _, _, h⟩ := I1.list z; exact h) fun z => by obtain ⟨_, _, _, h⟩ := I1.tuple z; exact h⟩⟩
theorem slots_get {α : Type} [Enc α] {xs : List α} {i : Nat} {s : Slot} (h : (xs.map Slot.of)[i]? = some s) : ∃ x, xs[i]? = some x ∧ s = .of x := by
  rw [List.getElem?_map] at h
  cases e : xs[i]? with
  | none => rw [e] at h; cases h
  | some x => rw [e] at h; cases h; exact ⟨x, rfl, rfl⟩
theorem Inv.sqL_inj {pins : List (Addr × Obj)} {s : Shared} {a : Addr} {xs ys : List V} (I : Inv X pins σ H s) (h : SqL X.K H a xs) (h' : SqL X.K H a ys) : xs = ys := I.list_inj h h'
/-- a list -/
theorem wi_list {α : Type} [Enc α] {Φ : WantI} (h : WE X env cs e fun s cs' => ∃ xs : List α, s = .of xs ∧ Φ (xs.map Slot.of) cs') : WI X tg e env cs Φ := fun M0 B σ M H ps S R p =>
  wi_of (pi_list pe_wpL) (h M0 B σ M H ps S _ fun v s M' H' ps' cs' q S' e f ok hl => by
    obtain ⟨xs, rfl, q⟩ := q
    obtain ⟨a, vs, rfl, h1, h2⟩ := ok
    have hh := S'.mh.sl h1
    refine ⟨a, rfl, ⟨vs, hh⟩, p _ _ M' H' ps' cs' q S' e f ?_⟩
    refine ⟨by rw [List.length_map, ← h2.len]; exact hl a vs rfl (.inl hh), fun i M1 H1 hi e1 g1 => ?_, fun M1 H1 e1 g1 => ⟨vs, g1.sl (e1.sl h1), by rw [List.length_map, h2.len]; exact Nat.le_refl _⟩, fun i M1 H1 x H2 s hs e1 g1 hy => ?_⟩
    · rw [List.length_map, ← h2.len] at hi
      exact ⟨vs, vs[i], g1.sl (e1.sl h1), by simp [hi]⟩
    · obtain ⟨rfl, hy⟩ := hy
      obtain ⟨y, hy1, rfl⟩ := slots_get hs
      obtain ⟨w, hw1, hw2⟩ := h2.get hy1
      have := hy vs (g1.sl (e1.sl h1))
      rw [hw1] at this
      cases this
      exact ⟨M1, Ex.refl _, Ex.refl _, g1, fun _ _ h => h, Enc.mono e1 hw2⟩)
/-- a tuple -/
theorem wi_tup {α : Type} [Enc α] {Φ : WantI} (h : WE X env cs e fun s cs' => ∃ xs : Tup α, s = .of xs ∧ Φ (xs.l.map Slot.of) cs') : WI X tg e env cs Φ := fun M0 B σ M H ps S R p =>
  wi_of (pi_tup pe_wpL) (h M0 B σ M H ps S _ fun v s M' H' ps' cs' q S' e f ok hl => by
    obtain ⟨xs, rfl, q⟩ := q
    obtain ⟨a, vs, rfl, h1, h2⟩ := ok
    have hh := S'.mh.st h1
    refine ⟨a, rfl, ⟨vs, hh⟩, p _ _ M' H' ps' cs' q S' e f ?_⟩
    refine ⟨by rw [List.length_map, ← h2.len]; exact hl a vs rfl (.inr hh), fun i M1 H1 hi e1 g1 => ?_, fun M1 H1 e1 g1 => ⟨vs, g1.st (e1.st h1), by rw [List.length_map, h2.len]; exact Nat.le_refl _⟩, fun i M1 H1 x H2 s hs e1 g1 hy => ?_⟩
    · rw [List.length_map, ← h2.len] at hi
      exact ⟨vs, vs[i], g1.st (e1.st h1), by simp [hi]⟩
    · obtain ⟨rfl, hy⟩ := hy
      obtain ⟨y, hy1, rfl⟩ := slots_get hs
      obtain ⟨w, hw1, hw2⟩ := h2.get hy1
      have := hy vs (g1.st (e1.st h1))
      rw [hw1] at this
      cases this
      exact ⟨M1, Ex.refl _, Ex.refl _, g1, fun _ _ h => h, Enc.mono e1 hw2⟩)
/-- lo, lo + 1, .., n of them -/
def rngL (lo : Int) (n : Nat) : List Int := (List.range n).map fun i : Nat => lo + (i : Int)
theorem rng_len {lo : Int} {n : Nat} : (rngL lo n).length = n := by simp [rngL]
theorem rng_get {lo : Int} {n i : Nat} (h : i < n) : (rngL lo n)[i]? = some (lo + (i : Int)) := by simp [rngL, h]
theorem yields_rng {lo : Int} {n : Nat} {M : Hp} {ps : List Addr} (hn : n ≤ sizeLine) : Yields K (Itr lo n) ((rngL lo n).map Slot.of) M ps :=
  ⟨by rw [List.length_map, rng_len]; exact hn, fun i M1 H1 hi _ _ => by rw [List.length_map, rng_len] at hi; exact hi, fun _ _ _ _ => by rw [List.length_map, rng_len]; exact Nat.le_refl n, fun i M1 H1 x H2 s hs e1 g1 hy => by
    obtain ⟨rfl, rfl⟩ := hy
    obtain ⟨y, hy1, rfl⟩ := slots_get hs
    have hi : i < n := by
      have := (List.getElem?_eq_some_iff.mp hy1).1
      rwa [rng_len] at this
    rw [rng_get hi] at hy1
    cases hy1
    exact ⟨M1, Ex.refl _, Ex.refl _, g1, fun _ _ h => h, rfl⟩⟩
theorem szl : sizeLine = 16777216 := sizeLine_eq
theorem wi_range1 {Φ : WantI} {p pos : Pos'} (hm : X.mg "range" = none) (h : WA X env cs [e] fun ss cs' => ∃ j : Int, ss = [.of j] ∧ j ≤ 16777216 ∧ -(2 ^ 62) ≤ j ∧ Φ ((rngL 0 j.toNat).map Slot.of) cs') (hg : Gl X "range") (hs : starEach [e] X.env = [(false, eval e X.env)]) :
    WI X tg (.Call (.Name "range" p) [e] [] pos) env cs Φ := fun M0 B σ M H ps S R p =>
  wi_of (pi_range1 hg hm pa_wa hs) (h M0 B σ M H ps S _ fun vs ss M' H' ps' cs' q S' e f ok => by
    obtain ⟨j, rfl, h1, h2, q⟩ := q
    cases ok with
    | cons r ok =>
      cases ok
      exact ⟨j, by rw [show _ = _ from r], h2, by omega, p _ _ M' H' ps' cs' q S' e f (yields_rng (by rw [szl]; omega))⟩)
theorem wi_range2 {Φ : WantI} {e2 : Expr} {p pos : Pos'} (hm : X.mg "range" = none) (h : WA X env cs [e, e2] fun ss cs' => ∃ i j : Int, ss = [.of i, .of j] ∧ j - i ≤ 16777216 ∧ (-(2 ^ 62) ≤ i ∧ i < 2 ^ 62 ∧ -(2 ^ 62) ≤ j ∧ j < 2 ^ 62) ∧ Φ ((rngL i (j - i).toNat).map Slot.of) cs') (hg : Gl X "range")
    (hs : starEach [e, e2] X.env = [(false, eval e X.env), (false, eval e2 X.env)]) (hs2 : starEach [e2] X.env = [(false, eval e2 X.env)]) : WI X tg (.Call (.Name "range" p) [e, e2] [] pos) env cs Φ := fun M0 B σ M H ps S R p =>
  wi_of (pi_range2 hg hm pa_wa hs hs2) (h M0 B σ M H ps S _ fun vs ss M' H' ps' cs' q S' e f ok => by
    obtain ⟨i, j, rfl, h1, h2, q⟩ := q
    cases ok with
    | cons r ok =>
      cases ok with
      | cons r2 ok =>
        cases ok
        exact ⟨i, j, by rw [show _ = _ from r, show _ = _ from r2], h2, p _ _ M' H' ps' cs' q S' e f (yields_rng (by rw [szl]; omega))⟩)

/-- for target in iter: body, by a word about the turn, the names and the cells -/
theorem w1_for {iter : Expr} (hp : PassesOwn (model X.prog X.w) X.A X.env X.xe) (hc : X.calm = true)
    (h : WI X tg iter env cs fun ss cs1 => ∃ I : Nat → WantE, I 0 env cs1 ∧ (∀ i env' cs' s, ss[i]? = some s → I i env' cs' → WG X is tg s env' cs' fun env2 cs2 => WS X body env2 cs2 (D.loop (I (i + 1)))) ∧ ∀ env' cs', I ss.length env' cs' → D.nx env' cs')
    (hs : ∀ x, foldedSetIterable iter X.env x = pure x) : W1 X (.For tg iter body [] pos) env cs D := fun M0 B σ M H ps S D' p =>
  ws1_of (ps_for hp hc pi_w pg_w pss_w hs) (h M0 B σ M H ps S _ fun J ss M1 H1 ps1 cs1 q S1 e1 f1 Y => by
    obtain ⟨I, i0, turn, fin⟩ := q
    refine ⟨fun i m σ' H' => m = ss.length - i ∧ i ≤ ss.length ∧ ∃ M' env' ps' cs', I i env' cs' ∧ Sta X.K M0 B σ' M' H' env' ps' cs' ∧ Ex M1 M' ∧ Pre ps1 ps', ⟨ss.length, by simp, Nat.zero_le _, M1, env, ps1, cs1, i0, S1, Ex.refl _, Pre.refl _⟩, ?_⟩
    rintro i m σ2 H2 ⟨rfl, hi, M2, env2, ps2, cs2, i2, S2, e2, f2⟩
    by_cases hlt : i < ss.length
    · right
      refine ⟨Y.go i M2 H2 hlt e2 S2.mh, fun σ' H' => i + 1 ≤ ss.length ∧ ∃ M' env' ps' cs', I (i + 1) env' cs' ∧ Sta X.K M0 B σ' M' H' env' ps' cs' ∧ Ex M1 M' ∧ Pre ps1 ps', fun σ' H' ⟨a, b⟩ => ⟨ss.length - (i + 1), by omega, rfl, a, b⟩, fun x H3 hy => ?_⟩
      obtain ⟨s, hs⟩ : ∃ s, ss[i]? = some s := ⟨ss[i], by simp [hlt]⟩
      obtain ⟨M3, a1, a2, a3, a4, a5⟩ := Y.yld i M2 H2 x H3 s hs e2 S2.mh hy
      have S3 := S2.grow a1 a2 a3 a4
      refine turn i env2 cs2 s hs i2 M0 B σ2 M3 H3 ps2 S3 x (a5.mono (Ex.refl _) f2) _ fun σ4 M4 H4 ps4 env4 cs4 q4 S4 e4 f4 _ => ?_
      have ee : Ex M1 M4 := (e2.trans a1).trans e4
      have ff : Pre ps1 ps4 := f2.trans f4
      refine q4 M0 B σ4 M4 H4 ps4 S4 _ ⟨fun σ' M' H' env' ps' cs' q S' e f => ⟨hlt, M', env', ps', cs', q, S', ee.trans e, ff.trans f⟩, fun v s σ' M' H' env' ps' cs' q S' e f ok => p.rt v s σ' M' H' env' ps' cs' q S' ((e1.trans ee).trans e) ((f1.trans ff).trans f) ok,
        fun σ' M' H' env' ps' cs' q S' e f => p.nx σ' M' H' env' ps' cs' q S' ((e1.trans ee).trans e) ((f1.trans ff).trans f), fun σ' M' H' env' ps' cs' q S' e f => ⟨hlt, M', env', ps', cs', q, S', ee.trans e, ff.trans f⟩⟩
    · left
      have e : i = ss.length := by omega
      subst e
      exact ⟨Y.stop M2 H2 e2 S2.mh, p.nx σ2 M2 H2 env2 ps2 cs2 (fin _ _ i2) S2 (e1.trans e2) (f1.trans f2)⟩)
/-- while c: body, by a word and a measure -/
theorem w1_while (hp : PassesOwn (model X.prog X.w) X.A X.env X.xe) (I : Nat → WantE) (m0 : Nat) (h0 : I m0 env cs)
    (hs : ∀ m env' cs', I m env' cs' → WT X env' cs' c fun k cs1 => if k = true then WS X body env' cs1 (D.loop fun e c => ∃ m', m' < m ∧ I m' e c) else D.nx env' cs1) : W1 X (.While c body [] pos) env cs D := fun M0 B σ M H ps S D' p =>
  ws1_of (ps_while hp pt_wt pss_w) (by
    refine ⟨fun m σ' H' => ∃ M' env' ps' cs', I m env' cs' ∧ Sta X.K M0 B σ' M' H' env' ps' cs' ∧ Ex M M' ∧ Pre ps ps', ⟨m0, M, env, ps, cs, h0, S, Ex.refl _, Pre.refl _⟩, ?_⟩
    rintro m σ2 H2 ⟨M2, env2, ps2, cs2, i2, S2, e2, f2⟩
    refine hs m env2 cs2 i2 M0 B σ2 M2 H2 ps2 S2 _ fun k M3 H3 ps3 cs3 q S3 e3 f3 => ?_
    cases k with
    | false => exact p.nx σ2 M3 H3 env2 ps3 cs3 q S3 (e2.trans e3) (f2.trans f3)
    | true =>
      refine ⟨fun σ' H' => ∃ m', m' < m ∧ ∃ M' env' ps' cs', I m' env' cs' ∧ Sta X.K M0 B σ' M' H' env' ps' cs' ∧ Ex M M' ∧ Pre ps ps', fun _ _ h => h, ?_⟩
      have ee := e2.trans e3
      have ff := f2.trans f3
      exact q M0 B σ2 M3 H3 ps3 S3 _ ⟨fun σ' M' H' env' ps' cs' ⟨m', a, b⟩ S' e f => ⟨m', a, M', env', ps', cs', b, S', ee.trans e, ff.trans f⟩, fun v s σ' M' H' env' ps' cs' q S' e f ok => p.rt v s σ' M' H' env' ps' cs' q S' (ee.trans e) (ff.trans f) ok,
        fun σ' M' H' env' ps' cs' q S' e f => p.nx σ' M' H' env' ps' cs' q S' (ee.trans e) (ff.trans f), fun σ' M' H' env' ps' cs' ⟨m', a, b⟩ S' e f => ⟨m', a, M', env', ps', cs', b, S', ee.trans e, ff.trans f⟩⟩)
end
end DL

set_option Elab.async false
set_option linter.all false
set_option maxRecDepth 100000
set_option maxHeartbeats 2000000
/-! DL4: comprehensions, defs and their calls. -/
namespace DL
open PySem PyProof.Rows L2
section
variable {X : Cx} {K : Fg} {M0 B M M' H H' : Hp} {σ : L2.St} {env : List Slot} {ps ps' : List Addr} {cs cs' : List Cell} {e tg c : Expr} {es ifs : List Expr} {s : Slot} {ss : List Slot} {Ψ : WantE} {Φ : Want} {Φb : WantB} {pos : Pos'} {is js : List Nat}

/-! ### a clause's tests -/
def Wtt (X : Cx) (ifs : List Expr) : TT := fun σ H Q => ∀ (pins : List (Addr × Obj)) (s : Shared), Inv X pins σ H s →
  wpAny (model X.prog X.w) X.A (forIn ifs true fun c r => if r = true then do let ok ← isTrue c X.env (eval c X.env); pure (ForInStep.yield ok) else pure (ForInStep.yield r)) (TP X pins σ Q) X.xe s
theorem pts_w : PTs X ifs (Wtt X ifs) := ⟨fun pins s σ H Q I h => h pins s I⟩
def WTs (X : Cx) (env : List Slot) (cs : List Cell) (ifs : List Expr) (Φ : WantB) : Prop :=
  ∀ M0 B σ M H ps, Sta X.K M0 B σ M H env ps cs → ∀ Q, PostB X.K M0 B σ M env ps Φ Q → Wtt X ifs σ H Q
theorem wts_nil (q : Φb true cs) : WTs X env cs [] Φb := fun M0 B σ M H ps S Q p pins s I => pts_nil.run pins s σ H Q I (p.here S q)
theorem wts_one (h : WT X env cs c Φb) : WTs X env cs [c] Φb := fun M0 B σ M H ps S Q p pins s I => (pts_one pt_wt).run pins s σ H Q I (h M0 B σ M H ps S Q p)

theorem Sta.wipe (S : Sta K M0 B σ M H env ps cs) (vs : List Nat) : Sta K M0 B (wipe σ vs) M H (wipeE env vs) ps cs := by
  refine S.names ?_
  induction vs with
  | nil => exact S.sl
  | cons v vs ih => exact ih.set (.inl rfl)
/-- the background's one object is another -/
theorem Sta.rebase {D : Addr} {o o' : HO} (hB : B D = none) (h0 : M0 D = none) (S : Sta K M0 (upd B D o) σ M H env ps cs) : Sta K M0 (upd B D o') σ M (upd H D o') env ps cs := by
  have hM : M D = none := S.bm D (by rw [upd_same]; exact fun z => nomatch z) h0
  have hBe : ∀ p, upd B D o p = none → upd B D o' p = none := fun p h => by
    by_cases z : p = D
    · subst z; rw [upd_same] at h; cases h
    · rw [upd_ne z] at h ⊢; exact h
  have hne : ∀ p, upd B D o p = none → p ≠ D := fun p h z => by subst z; rw [upd_same] at h; cases h
  refine ⟨fun a u q => ?_, S.m0, fun a u q => ?_, fun p h1 h2 => ?_, S.sl, S.cl.imp fun p c q => q.imp id fun ⟨x, y, o2, z, w⟩ => ⟨x, hBe p y, o2, by rw [upd_ne (hne p y)]; exact z, w⟩, fun p hp => ?_, S.nd⟩
  · rw [upd_ne (ne_of_none q hM)]; exact S.mh a u q
  · by_cases z : a = D
    · subst z; rw [upd_same] at q ⊢; exact q
    · rw [upd_ne z] at q ⊢
      exact S.bh a u (by rw [upd_ne z]; exact q)
  · exact S.bm p (fun z => h1 (hBe p z)) h2
  · by_cases z : p = D
    · subst z; rw [upd_same]; exact fun z => nomatch z
    · rw [upd_ne z]; exact S.hv p hp
/-- a new object counts as background -/
theorem Sta.back {D : Addr} {o : HO} (S : Sta K M0 B σ M H env ps cs) (hD : H D = none) : Sta K M0 (upd B D o) σ M (upd H D o) env ps cs := by
  have hne : ∀ p, H p ≠ none → p ≠ D := fun p h z => h (by rw [z]; exact hD)
  have hne2 : ∀ p o, H p = some o → p ≠ D := fun p o h => hne p (by rw [h]; exact fun z => nomatch z)
  refine ⟨S.mh.trans (Ex.nw hD), S.m0, S.bh.upd2 D o, fun p h1 h2 => ?_, S.sl, S.cl.imp fun p c q => q.imp id fun ⟨x, y, o2, z, w⟩ => ⟨x, by rw [upd_ne (hne2 p o2 z)]; exact y, o2, by rw [upd_ne (hne2 p o2 z)]; exact z, w⟩, fun p hp => by rw [upd_ne (hne p (S.hv p hp))]; exact S.hv p hp, S.nd⟩
  by_cases z : p = D
  · subst z; exact S.mh.back hD
  · rw [upd_ne z] at h1; exact S.bm p h1 h2

/-! ### list comprehensions -/
/-- the blocks that a comprehension may run in -/
def Blk (X : Cx) (scope : Scope) (P : Cx → Prop) : Prop := ∀ (s : Shared) (H : Hp) (C : Addr) (cl : List (PySem.Str × Addr)) (fp : List Addr), P (X.blk s H scope (compEnvC scope cl C X.env) fp)
/-- what a comprehension makes: I tells of the turn, the items so far, the cells -/
def LcD (X : Cx) (env : List Slot) (elt tg : Expr) (ifs : List Expr) (scope : Scope) (vs is : List Nat) (ss : List Slot) (cs1 : List Cell) (Φ : Want) : Prop :=
  ∃ (β : Type) (_ : Enc β) (I : Nat → List β → List Cell → Prop), I 0 [] cs1 ∧
    (∀ i acc cs' s, ss[i]? = some s → I i acc cs' → Blk X scope fun Y => WG Y is tg s (wipeE env vs) cs' fun env2 cs2 => Blk X scope fun Y => WTs Y env2 cs2 ifs fun k cs3 =>
      if k = true then Blk X scope fun Y => WE Y env2 cs3 elt fun y cs4 => ∃ b : β, y = .of b ∧ I (i + 1) (acc ++ [b]) cs4 else I (i + 1) acc cs3) ∧
    ∀ acc cs', I ss.length acc cs' → Φ (.of acc) cs'
def uTE (X : Cx) (scope : Scope) (e : Expr) : TE := fun σ H Q => Blk X scope fun Y => Wp Y e σ H Q
def uTT (X : Cx) (scope : Scope) (ifs : List Expr) : TT := fun σ H Q => Blk X scope fun Y => Wtt Y ifs σ H Q
def uTG (X : Cx) (scope : Scope) (tg : Expr) : TG := fun v σ H Q => Blk X scope fun Y => Wg Y tg v σ H Q
theorem wipe_wipe (σ : L2.St) (vs : List Nat) : wipe (wipe σ vs) vs = wipe σ vs := by
  apply List.ext_getElem?
  intro i
  rw [wipe_get, wipe_get, wipe_length]
  split <;> rfl
theorem lc_run {elt iter : Expr} {scope : Scope} {own : List (PySem.Str × Nat)} (hs : ∀ i ∈ is, i ∈ own.map (·.2)) (h : WI X tg iter env cs fun ss cs1 => LcD X env elt tg ifs scope (own.map (·.2)) is ss cs1 Φ)
    (S : Sta X.K M0 B σ M H env ps cs) {Q : VK} (p : Post X.K M0 B σ M env ps Φ Q) : tLc (Wi X tg iter) (uTG X scope tg) (uTT X scope ifs) (uTE X scope elt) (own.map (·.2)) σ H Q := by
  refine h M0 B σ M H ps S _ fun J ss M1 H1 ps1 cs1 q S1 e1 f1 Y D hD => ?_
  obtain ⟨β, iβ, I, i0, turn, fin⟩ := q
  have hB : B D = none := S1.bh.back hD
  have hM1 : M1 D = none := S1.mh.back hD
  have h0 : M0 D = none := S1.m0.back hM1
  generalize hvs : own.map (·.2) = vs at *
  refine ⟨fun i m H' => m = ss.length - i ∧ i ≤ ss.length ∧ ∃ (acc : List β) (vs' : List V) (M' : Hp) (ps' : List Addr) (cs' : List Cell), acc.length ≤ i ∧ I i acc cs' ∧ Pr (Enc.rep X.K M') vs' acc ∧ Sta X.K M0 (upd B D (.lst vs')) (wipe σ vs) M' H' (wipeE env vs) ps' cs' ∧ Ex M1 M' ∧ Pre ps1 ps',
    ⟨ss.length, by simp, Nat.zero_le _, [], [], M1, ps1, cs1, Nat.le_refl _, i0, .nil, (S1.back hD).wipe vs, Ex.refl _, Pre.refl _⟩, ?_⟩
  rintro i m H2 ⟨rfl, hi, acc, vs', M2, ps2, cs2, hl, i2, r2, S2, e2, f2⟩
  by_cases hlt : i < ss.length
  · right
    refine ⟨Y.go i M2 H2 hlt e2 S2.mh, fun H' => ∃ (acc : List β) (vs' : List V) (M' : Hp) (ps' : List Addr) (cs' : List Cell), acc.length ≤ i + 1 ∧ I (i + 1) acc cs' ∧ Pr (Enc.rep X.K M') vs' acc ∧ Sta X.K M0 (upd B D (.lst vs')) (wipe σ vs) M' H' (wipeE env vs) ps' cs' ∧ Ex M1 M' ∧ Pre ps1 ps',
      fun H' ⟨acc, vs', M', ps', cs', a⟩ => ⟨ss.length - (i + 1), by omega, rfl, hlt, acc, vs', M', ps', cs', a⟩, fun x H3 hy => ?_⟩
    obtain ⟨s, hss⟩ : ∃ s, ss[i]? = some s := ⟨ss[i], by simp [hlt]⟩
    obtain ⟨M3, a1, a2, a3, a4, a5⟩ := Y.yld i M2 H2 x H3 s hss e2 S2.mh hy
    have S3 := S2.grow a1 a2 a3 a4
    have hsl : acc.length < sizeLine := Nat.lt_of_lt_of_le (Nat.lt_of_le_of_lt hl hlt) Y.len
    intro bs bH bC bcl bfp
    refine turn i acc cs2 s hss i2 bs bH bC bcl bfp M0 _ _ M3 H3 ps2 S3 x (a5.mono (Ex.refl _) f2) _ fun σ4 M4 H4 ps4 env4 cs4 q4 S4 e4 f4 g4 => ?_
    refine ⟨by rw [g4.wipe hs, wipe_wipe], fun bs bH bC bcl bfp => q4 bs bH bC bcl bfp M0 _ _ M4 H4 ps4 S4 _ fun k M5 H5 ps5 cs5 q5 S5 e5 f5 => ?_⟩
    have back : ∀ {σ' : L2.St} {env' : List Slot} {M' H' : Hp} {ps' : List Addr} {cs' : List Cell} {vs2 : List V}, Sta X.K M0 (upd B D (.lst vs2)) σ' M' H' env' ps' cs' → Ex M3 M' → Pre ps2 ps' → Sta X.K M0 (upd B D (.lst vs2)) (wipe σ vs) M' H' (wipeE env vs) ps' cs' := fun S' e f =>
      S'.names (S3.sl.imp fun _ _ q => q.imp id fun ⟨v, a, b⟩ => ⟨v, a, b.mono e f⟩)
    cases k with
    | false =>
      rw [if_neg Bool.false_ne_true] at q5 ⊢
      exact ⟨acc, vs', M5, ps5, cs5, Nat.le_succ_of_le hl, q5, r2.imp fun _ _ => Enc.mono ((a1.trans e4).trans e5), back S5 (e4.trans e5) (f4.trans f5), ((e2.trans a1).trans e4).trans e5, (f2.trans f4).trans f5⟩
    | true =>
      rw [if_pos rfl] at q5 ⊢
      intro bs bH bC bcl bfp
      refine q5 bs bH bC bcl bfp M0 _ _ M5 H5 ps5 S5 _ fun y sy M6 H6 ps6 cs6 q6 S6 e6 f6 r6 => ?_
      obtain ⟨b, rfl, q6⟩ := q6
      have hD6 : H6 D = some (.lst vs') := S6.bh D _ upd_same
      have r7 : Pr (Enc.rep X.K M6) vs' acc := r2.imp fun _ _ => Enc.mono (((a1.trans e4).trans e5).trans e6)
      refine ⟨vs', hD6, by rw [r2.len]; exact hsl, acc ++ [b], vs' ++ [y], M6, ps6, cs6, ?_, q6, r7.snoc r6, ?_, (((e2.trans a1).trans e4).trans e5).trans e6, ((f2.trans f4).trans f5).trans f6⟩
      · rw [List.length_append]; exact Nat.succ_le_succ hl
      · exact Sta.rebase hB h0 (back S6 ((e4.trans e5).trans e6) ((f4.trans f5).trans f6))
  · left
    have e : i = ss.length := by omega
    subst e
    refine ⟨Y.stop M2 H2 e2 S2.mh, ?_⟩
    have hDM : M2 D = none := S2.bm D (by rw [upd_same]; exact fun z => nomatch z) h0
    have hDH : H2 D = some (.lst vs') := S2.bh D _ upd_same
    have eM : Ex M2 (upd M2 D (.lst vs')) := Ex.nw hDM
    have hB2 : ∀ p, B p ≠ none → p ≠ D := fun p h z => h (by rw [z]; exact hB)
    have hcell : ∀ p, upd B D (.lst vs') p = none → p ≠ D := fun p h z => by subst z; rw [upd_same] at h; cases h
    refine p _ _ (upd M2 D (.lst vs')) H2 ps2 cs2 (fin _ _ i2) ?_ ((e1.trans e2).trans eM) (f1.trans f2) ⟨D, vs', rfl, upd_sq, r2.imp fun _ _ => Enc.mono eM⟩
    refine ⟨fun a u q => ?_, S2.m0.trans eM, fun a u q => S2.bh a u (by rw [upd_ne (ne_of_none q hB)]; exact q), fun q h1 h2 => ?_, S1.sl.imp fun _ _ q => q.imp id fun ⟨v, a, b⟩ => ⟨v, a, b.mono (e2.trans eM) f2⟩,
      S2.cl.imp fun q c h => h.imp id fun ⟨x, y, o, z, w⟩ => ⟨by rw [upd_ne (hcell q y)]; exact x, by rw [upd_ne (hcell q y)] at y; exact y, o, z, w.mono eM (Pre.refl _)⟩, S2.hv, S2.nd⟩
    · by_cases z : a = D
      · subst z; rw [upd_same] at q; rw [hDH]; exact q
      · rw [upd_ne z] at q; exact S2.mh a u q
    · rw [upd_ne (hB2 q h1)]
      exact S2.bm q (by rw [upd_ne (hB2 q h1)]; exact h1) h2
/-- [elt for target in iter if ..] -/
theorem we_lc {elt iter : Expr} {scope : Scope} {own : List (PySem.Str × Nat)} (hs : ∀ i ∈ is, i ∈ own.map (·.2)) (hc : X.calm = true) (hN : X.N.Nodup) (ok : BlkOk X.N X.env.scope scope own) (h : WI X tg iter env cs fun ss cs1 => LcD X env elt tg ifs scope (own.map (·.2)) is ss cs1 Φ)
    (hf : ∀ x, foldedSetIterable iter X.env x = pure x) : WE X env cs (.ListComp elt [⟨tg, iter, ifs, 0⟩] scope pos) Φ := fun M0 B σ M H ps S Q p =>
  wp_of (pe_lc (g := uTG X scope tg) (tt := uTT X scope ifs) (te := uTE X scope elt) hc hN pi_w ok (fun s H C cl fp => ⟨fun pins s' σ H' v u Q I r q => q s H C cl fp pins s' u I r⟩) (fun s H C cl fp => ⟨fun pins s' σ H' Q I q => q s H C cl fp pins s' I⟩) (fun s H C cl fp => ⟨fun pins s' σ H' Q I q => q s H C cl fp pins s' I⟩) hf)
    (lc_run hs h S p)
/-- name = [..] on one line -/
theorem w1_setLc {D : EndsD} {elt iter : Expr} {scope : Scope} {own : List (PySem.Str × Nat)} {spos py : Pos'} {y : PySem.Str} (i : Nat) (hs : ∀ i ∈ is, i ∈ own.map (·.2)) (hc : X.calm = true) (hN : X.N.Nodup) (hy : X.N[i]? = some y) (hyl : X.env.scope.names.lookup y = some .local) (hsw : swapsWith (.ListComp elt [⟨tg, iter, ifs, 0⟩] scope pos) (some (.Name y py)) spos.line X.env = pure true)
    (ok : BlkOk X.N X.env.scope scope own) (h : WI X tg iter env cs fun ss cs1 => LcD X env elt tg ifs scope (own.map (·.2)) is ss cs1 fun s cs' => D.nx (env.set i s) cs')
    (hf : ∀ x, foldedSetIterable iter X.env x = pure x) : W1 X (.Assign [.Name y py] (.ListComp elt [⟨tg, iter, ifs, 0⟩] scope pos) spos) env cs D := fun M0 B σ M H ps S D' p =>
  ws1_of (ps_setLc (g := uTG X scope tg) (tt := uTT X scope ifs) (te := uTE X scope elt) hc hN hy hyl hsw pi_w ok (fun s H C cl fp => ⟨fun pins s' σ H' v u Q I r q => q s H C cl fp pins s' u I r⟩) (fun s H C cl fp => ⟨fun pins s' σ H' Q I q => q s H C cl fp pins s' I⟩) (fun s H C cl fp => ⟨fun pins s' σ H' Q I q => q s H C cl fp pins s' I⟩) hf)
    (lc_run hs h S fun v s M' H' ps' cs' q S' e f ok => p.nx _ M' H' _ ps' cs' q (S'.set ok) e f)

/-! ### defs -/
/-- the heap without what is one's own -/
def msk (H : Hp) (ps : List Addr) : Hp := fun p => if p ∈ ps then none else H p
abbrev SpecW := List Slot → List Cell → Want → Prop
/-- a def's promise -/
def FSp (K : Fg) (sw : SpecW) : Sp := fun vs H Q _ => ∃ M ps env cs Φ, sw env cs Φ ∧ Sta K M (msk H ps) (vs.map some) M H env ps cs ∧
  ∀ v s M' H' ps' cs', Φ s cs' → Sta K M (msk H ps) [] M' H' [] ps' cs' → Pre ps ps' → SlotOk K M' ps' s v → Q v H'
def endsF (Φ : Want) : EndsD := { nx := fun _ cs' => Φ (.of ()) cs', rt := Φ }
theorem Sta.bare (S : Sta K M0 B σ M H env ps cs) : Sta K M0 B [] M H [] ps cs := S.names .nil
/-- THE RULE for a def -/
theorem fsp_body {X : Cx} {sw : SpecW} {N : List PySem.Str} {body : List Stmt} {vs : List V} {Q : VK} {E : XK} (h : FSp X.K sw vs H Q E) (hb : ∀ env cs Φ, sw env cs Φ → env.length ≤ N.length ∧ WS X body (env ++ List.replicate (N.length - env.length) .no) cs (endsF Φ)) :
    ∃ t, PSs X body t ∧ t { nx := fun _ H' => Q .non H', rt := Q } (L2.start N vs) H := by
  obtain ⟨M, ps, env, cs, Φ, hsw, S, k⟩ := h
  obtain ⟨hl, hw⟩ := hb env cs Φ hsw
  have hlen : vs.length = env.length := by have := S.sl.len; rwa [List.length_map] at this
  refine ⟨Wss X body, pss_w, ?_⟩
  have S' : Sta X.K M (msk H ps) (L2.start N vs) M H (env ++ List.replicate (N.length - env.length) .no) ps cs := by
    refine S.names ?_
    unfold L2.start
    rw [hlen]
    refine S.sl.app ?_
    generalize N.length - env.length = n
    induction n with
    | zero => exact .nil
    | succ n ih => rw [List.replicate_succ, List.replicate_succ]; exact .cons (.inl rfl) ih
  refine hw M _ _ M H ps S' _ ⟨fun σ' M' H' env' ps' cs' q S' e f => k _ _ M' H' ps' cs' q S'.bare f rfl, fun v s σ' M' H' env' ps' cs' q S' e f ok => k v s M' H' ps' cs' q S'.bare f ok, fun _ _ _ _ _ _ q => q.elim, fun _ _ _ _ _ _ q => q.elim⟩
section
variable {P : Program} {w : World} {mg : PySem.Str → Option Value} {base : Heap}
/-- a def from which no exception leaves -/
theorem fn_ok {x qual : PySem.Str} {params : Arguments} {body : List Stmt} {scope : Scope} {dvs : List V} {kws : List (PySem.Str × V)} {f : Addr} {fd : FuncData} {N pl : List PySem.Str} {k : Nat} {sw : SpecW} (F : FunD K x qual params body scope dvs kws f fd) (SC : FnScope N pl scope)
    (len : ∀ env cs Φ, sw env cs Φ → env.length = pl.length ∧ env.length ≤ N.length)
    (hb : ∀ (cdv : Value) (A : Around) (outer : List Env) (s : Shared) (H : Hp) (E : XK), Room k (A.deeper (envOfC qual scope s.heap.objs.size f cdv)) →
      ∀ env cs Φ, sw env cs Φ → WS (cxOf CX0 P w K mg base N qual scope f cdv A outer s H E).nox body (env ++ List.replicate (N.length - env.length) .no) cs (endsF Φ)) : FnOk P w K mg base CX0 (k + 1) f fd pl (FSp K sw) :=
  F.ok SC (fun vs H Q E ⟨M, ps, env, cs, Φ, h1, S, _⟩ => by
    have := S.sl.len
    rw [List.length_map] at this
    rw [this]
    exact (len env cs Φ h1).1) fun cdv A outer s H vs Q E hr h => by
    obtain ⟨t, ht, q⟩ := fsp_body (X := (cxOf CX0 P w K mg base N qual scope f cdv A outer s H E).nox) (N := N) (body := body) h fun env cs Φ h1 => ⟨(len env cs Φ h1).2, hb cdv A outer s H E hr env cs Φ h1⟩
    exact ⟨t, ht.nox, q⟩
end
/-! ### calls -/
theorem Pr.none_of {vs : List V} (r : Pr (fun v s => SlotOk K M ps s v) vs ss) (hn : ∀ s ∈ ss, ∃ α i a, s = .d α i a) : Pr (fun v s => SlotOk K M [] s v) vs ss := by
  induction r with
  | nil => exact .nil
  | @cons v s l m r1 _ ih =>
    refine .cons ?_ (ih fun s hs => hn s (List.mem_cons_of_mem _ hs))
    obtain ⟨α, i, a, rfl⟩ := hn s List.mem_cons_self
    exact r1
theorem msk_nil : msk H [] = H := by funext p; simp [msk]
theorem pr_names {vs : List V} (r : Pr (fun v s => SlotOk K M ps s v) vs ss) : Pr (NameOk K M ps) (vs.map some) ss := by
  induction r with
  | nil => exact .nil
  | cons a _ ih => exact .cons (.inr ⟨_, rfl, a⟩) ih
theorem sta_call (S : Sta K M0 B σ M H env ps cs) {vs : List V} (r : Pr (fun v s => SlotOk K M [] s v) vs ss) : Sta K M (msk H []) (vs.map some) M H ss [] [] :=
  ⟨S.mh, Ex.refl _, by rw [msk_nil]; exact Ex.refl _, fun _ _ h => h, pr_names r, .nil, fun _ h => by simp at h, List.nodup_nil⟩
/-- behind a call that was handed no cells: those that it made stand behind one's own -/
theorem sta_back (S : Sta K M0 B σ M H env ps cs) (S' : Sta K M (msk H []) [] M' H' [] ps' cs') (hcl : ∀ c ∈ cs', c ≠ .dead ∧ ∀ M p q o, CellOk K M p c o → CellOk K M q c o) : Sta K M0 B σ M' H' env (ps ++ ps') (cs ++ cs') := by
  rw [msk_nil] at S'
  have G := S.grow S'.m0 S'.bh S'.mh fun p h1 h2 => S'.bm p h1 h2
  refine { G with sl := G.sl.imp fun _ _ q => q.imp id fun ⟨v, a, b⟩ => ⟨v, a, b.mono (Ex.refl _) ⟨ps', rfl⟩⟩, cl := ?_, hv := fun p hp => ?_, nd := ?_ }
  · refine (G.cl.imp fun p c q => q.imp id fun ⟨x, y, o, z, w⟩ => ⟨x, y, o, z, w.mono (Ex.refl _) ⟨ps', rfl⟩⟩).app ?_
    have key : ∀ (l : List Addr) (m : List Cell), Pr (OwnOk K M' H H' ps') l m → (∀ c ∈ m, ∀ M p q o, CellOk K M p c o → CellOk K M q c o) → Pr (OwnOk K M' B H' (ps ++ ps')) l m := by
      intro l m r
      induction r with
      | nil => intro _; exact .nil
      | @cons a b l m q _ ih => intro h; exact .cons (q.imp id fun ⟨x, y, o, z, w⟩ => ⟨x, S.bh.back y, o, z, h _ List.mem_cons_self _ _ _ _ w⟩) (ih fun c hc => h c (List.mem_cons_of_mem _ hc))
    exact key _ _ S'.cl fun c hc => (hcl c hc).2
  · rcases List.mem_append.mp hp with h | h
    · exact G.hv p h
    · exact S'.hv p h
  · rw [List.nodup_append]
    refine ⟨S.nd, S'.nd, fun a ha b hb e => ?_⟩
    subst e
    obtain ⟨j, hj⟩ := List.getElem?_of_mem hb
    obtain ⟨c, hc, q⟩ := S'.cl.getL hj
    rcases q with q | ⟨_, q, _⟩
    · exact (hcl c (List.mem_of_getElem? hc)).1 q
    · exact S.hv a ha q
/-- a call that hands on data alone, and gives data -/
theorem we_call0 {sw : SpecW} {k : Nat} {f : Addr} {fd : FuncData} {pl : List PySem.Str} {x : PySem.Str} {p pos : Pos'} {CX : CXT} {E : XK} (F : FnOk X.prog X.w X.K X.mg X.base CX k f fd pl (FSp X.K sw)) (hr : Room k X.A) (hm : X.mg x = some (.ref f)) (hk : PySem.W.keepIn X.K (.ref f) = true) (hb : Binds X.K fd pl []) (hx : Passes CX X E)
    (h : WA X env cs (e :: es) fun ss cs1 => (∀ s ∈ ss, ∃ α i a, s = .d α i a) ∧ sw ss [] fun s cs' => cs' = [] ∧ (∃ α i a, s = Slot.d α i a) ∧ Φ s cs1) (hg : Gl X x) (hd : (x == ("__debug__" : PySem.Str)) = false)
    (he : starEach (e :: es) X.env = (false, eval e X.env) :: starEach es X.env) (hpl : (backTo pos (starEach es X.env)).any (·.1) = false) : WE X env cs (.Call (.Name x p) (e :: es) [] pos) Φ := fun M0 B σ M H ps S Q p =>
  wp_of (pe_call F hr hg hm hk hb .nil hx pa_wa hd he hpl) (h M0 B σ M H ps S _ fun vs ss M1 H1 ps1 cs1 q S1 e1 f1 r1 => by
    obtain ⟨hn, q⟩ := q
    rw [List.append_nil]
    refine ⟨M1, [], ss, [], _, q, sta_call S1 (Pr.none_of r1 hn), fun v s M2 H2 ps2 cs2 q2 S2 f2 ok => ?_⟩
    obtain ⟨rfl, ⟨α, i, a, rfl⟩, q2⟩ := q2
    have S3 := sta_back S1 S2 (fun c hc => by simp at hc)
    have e : cs1 ++ [] = cs1 := List.append_nil _
    rw [e] at S3
    exact p v _ M2 H2 _ cs1 q2 S3 (e1.trans S2.m0) (f1.trans ⟨ps2, rfl⟩) ok)
theorem de_call0 {sw : SpecW} {k : Nat} {f : Addr} {fd : FuncData} {pl : List PySem.Str} {x : PySem.Str} {p pos : Pos'} {CX : CXT} {E : XK} (F : FnOk X.prog X.w X.K X.mg X.base CX k f fd pl (FSp X.K sw)) (hr : Room k X.A) (hm : X.mg x = some (.ref f)) (hk : PySem.W.keepIn X.K (.ref f) = true) (hb : Binds X.K fd pl []) (hx : Passes CX X E)
    {α : Type} [iα : Enc α] {r : α} (h : DA X env cs (e :: es) ss) (hn : ∀ s ∈ ss, ∃ α i a, s = .d α i a) (hsw : ∀ Ψ : Want, Ψ (.of r) [] → sw ss [] Ψ) (hg : Gl X x) (hd : (x == ("__debug__" : PySem.Str)) = false)
    (he : starEach (e :: es) X.env = (false, eval e X.env) :: starEach es X.env) (hpl : (backTo pos (starEach es X.env)).any (·.1) = false) : DE X env cs (.Call (.Name x p) (e :: es) [] pos) (.of r) := fun Φ q =>
  we_call0 F hr hm hk hb hx (h _ ⟨hn, hsw _ ⟨rfl, ⟨_, _, _, rfl⟩, q⟩⟩) hg hd he hpl
/-- a call that hands on data alone, and gives an object of one's own -/
theorem we_callN {sw : SpecW} {k : Nat} {f : Addr} {fd : FuncData} {pl : List PySem.Str} {x : PySem.Str} {p pos : Pos'} {CX : CXT} {E : XK} (F : FnOk X.prog X.w X.K X.mg X.base CX k f fd pl (FSp X.K sw)) (hr : Room k X.A) (hm : X.mg x = some (.ref f)) (hk : PySem.W.keepIn X.K (.ref f) = true) (hb : Binds X.K fd pl []) (hx : Passes CX X E)
    (h : WA X env cs (e :: es) fun ss cs1 => (∀ s ∈ ss, ∃ α i a, s = .d α i a) ∧ sw ss [] fun s cs' => ∃ c : Cell, cs' = [c] ∧ s = .c 0 ∧ c ≠ .dead ∧ (∀ M p q o, CellOk X.K M p c o → CellOk X.K M q c o) ∧ Φ (.c cs1.length) (cs1 ++ [c])) (hg : Gl X x) (hd : (x == ("__debug__" : PySem.Str)) = false)
    (he : starEach (e :: es) X.env = (false, eval e X.env) :: starEach es X.env) (hpl : (backTo pos (starEach es X.env)).any (·.1) = false) : WE X env cs (.Call (.Name x p) (e :: es) [] pos) Φ := fun M0 B σ M H ps S Q p =>
  wp_of (pe_call F hr hg hm hk hb .nil hx pa_wa hd he hpl) (h M0 B σ M H ps S _ fun vs ss M1 H1 ps1 cs1 q S1 e1 f1 r1 => by
    obtain ⟨hn, q⟩ := q
    rw [List.append_nil]
    refine ⟨M1, [], ss, [], _, q, sta_call S1 (Pr.none_of r1 hn), fun v s M2 H2 ps2 cs2 q2 S2 f2 ok => ?_⟩
    obtain ⟨c, rfl, rfl, hc1, hc2, q2⟩ := q2
    have S3 := sta_back S1 S2 (fun c' hc => by rw [List.mem_singleton.mp hc]; exact ⟨hc1, hc2⟩)
    obtain ⟨a, h1, rfl⟩ := ok
    refine p _ _ M2 H2 _ _ q2 S3 (e1.trans S2.m0) (f1.trans ⟨ps2, rfl⟩) ⟨a, ?_, rfl⟩
    rw [← S1.cl.len, List.getElem?_append_right (Nat.le_refl _), Nat.sub_self]
    exact h1)
/-- a cell that names no other -/
def Closed (K : Fg) (c : Cell) : Prop := c ≠ .dead ∧ ∀ M p q o, CellOk K M p c o → CellOk K M q c o
/-- a call that hands on one object of one's own, the j-th (in the callee it is the first), and data; gives data -/
def atC (j : Nat) : Slot → Slot
  | .c _ => .c j
  | s => s
/-- what a call asks that hands on one object of one's own, the j-th -/
theorem fsp_call1 {sw : SpecW} {c : Cell} {sc : List Slot} {j : Nat} {E : XK} {Q : VK} {vs : List V} (S1 : Sta X.K M0 B σ M H env ps cs) (hj : cs[j]? = some c) (hc : Closed X.K c) (hn : ∀ s ∈ sc, s = .c 0 ∨ ∃ α i a, s = .d α i a) (r1 : Pr (fun v s => SlotOk X.K M ps s v) vs (sc.map (atC j)))
    (q : sw sc [c] fun s cs' => ∃ c' : Cell, cs' = [c'] ∧ Closed X.K c' ∧ (∃ α i a, s = Slot.d α i a) ∧ Φ s (cs.set j c')) (p : Post X.K M0 B σ M env ps Φ Q) : FSp X.K sw vs H Q E := by
  obtain ⟨a, o, g1, g2, g3, g4, g5⟩ := S1.cell hj hc.1
  have r2 : Pr (fun v s => SlotOk X.K M [a] s v) vs sc := by
    clear q
    induction sc generalizing vs with
    | nil => cases r1; exact .nil
    | cons s sc ih =>
      cases r1 with
      | cons r rr =>
        refine .cons ?_ (ih (hn := fun s hs => hn s (List.mem_cons_of_mem _ hs)) (r1 := rr))
        rcases hn s List.mem_cons_self with rfl | ⟨α, i, x, rfl⟩
        · obtain ⟨b, b1, b2⟩ := r
          rw [g1] at b1
          cases b1
          exact ⟨a, rfl, b2⟩
        · exact r
  have em : ∀ p, p ≠ a → msk H [a] p = H p := fun p h => by simp [msk, h]
  have ea : msk H [a] a = none := by simp [msk]
  have Sc : Sta X.K M (msk H [a]) (vs.map some) M H sc [a] [c] := by
    refine ⟨S1.mh, Ex.refl _, fun b u z => ?_, fun _ _ h => h, pr_names r2, .cons (.inr ⟨g2, ea, o, g4, hc.2 _ _ _ _ g5⟩) .nil, fun p hp => ?_, by simp⟩
    · by_cases e : b = a
      · subst e; rw [ea] at z; cases z
      · rw [em b e] at z; exact z
    · rw [List.mem_singleton.mp hp, g4]; exact fun z => nomatch z
  refine ⟨M, [a], sc, [c], _, q, Sc, fun v s M2 H2 ps2 cs2 q2 S2 f2 ok => ?_⟩
  obtain ⟨c', rfl, hc', ⟨α, i, x, rfl⟩, q2⟩ := q2
  obtain ⟨t, ht⟩ := f2
  have hl := S2.cl.len
  have ht0 : t = [] := by
    rw [ht] at hl
    simp at hl
    exact hl
  subst ht0
  have ht1 : ps2 = [a] := by simpa using ht
  subst ht1
  obtain ⟨a', o', w1, w2, w3, w4, w5⟩ := S2.cell (j := 0) (c := c') rfl hc'.1
  have w1' : a = a' := by simpa using w1
  subst w1'
  -- all but a is as it was
  have keep : ∀ p, p ≠ a → ∀ u, H p = some u → H2 p = some u := fun p h u z => S2.bh p u (by rw [em p h]; exact z)
  have fresh : ∀ p, p ≠ a → H p ≠ none → M p = none → M2 p = none := fun p h z1 z2 => S2.bm p (by rw [em p h]; exact z1) z2
  have eM := S2.m0
  have S3 : Sta X.K M0 B σ M2 H2 env ps (cs.set j c') := by
    refine ⟨S2.mh, S1.m0.trans eM, fun b u z => keep b (fun e => by rw [e, g3] at z; cases z) u (S1.bh b u z), fun b z1 z2 => ?_, S1.sl.imp fun _ _ q => q.imp id fun ⟨v, x, y⟩ => ⟨v, x, y.mono eM (Pre.refl _)⟩, ?_, fun b hb => ?_, S1.nd⟩
    · exact fresh b (fun e => z1 (by rw [e]; exact g3)) (S1.bh.nn z1) (S1.bm b z1 z2)
    · refine S1.cl.at g1 (fun i b c2 hi hk q => q.imp id fun ⟨x, y, o, z, w⟩ => ?_) (.inr ⟨w2, g3, o', w4, hc'.2 _ _ _ _ w5⟩)
      have hba : b ≠ a := nd_ne S1.nd hi g1 hk
      exact ⟨fresh b hba (by rw [z]; exact fun z => nomatch z) x, y, o, keep b hba o z, w.mono eM (Pre.refl _)⟩
    · by_cases e : b = a
      · subst e; rw [w4]; exact fun z => nomatch z
      · cases q : H b with
        | none => exact absurd q (S1.hv b hb)
        | some u => rw [keep b e u q]; exact fun z => nomatch z
  exact p v _ M2 H2 ps _ q2 S3 eM (Pre.refl _) ok
theorem we_call1 {sw : SpecW} {k : Nat} {f : Addr} {fd : FuncData} {pl : List PySem.Str} {x : PySem.Str} {p pos : Pos'} {CX : CXT} {E : XK} (F : FnOk X.prog X.w X.K X.mg X.base CX k f fd pl (FSp X.K sw)) (hr : Room k X.A) (hm : X.mg x = some (.ref f)) (hk : PySem.W.keepIn X.K (.ref f) = true) (hb : Binds X.K fd pl []) (hx : Passes CX X E)
    (h : WA X env cs (e :: es) fun ss cs1 => ∃ (j : Nat) (c : Cell) (sc : List Slot), cs1[j]? = some c ∧ Closed X.K c ∧ ss = sc.map (atC j) ∧ (∀ s ∈ sc, s = .c 0 ∨ ∃ α i a, s = .d α i a) ∧ sw sc [c] fun s cs' => ∃ c' : Cell, cs' = [c'] ∧ Closed X.K c' ∧ (∃ α i a, s = Slot.d α i a) ∧ Φ s (cs1.set j c')) (hg : Gl X x) (hd : (x == ("__debug__" : PySem.Str)) = false)
    (he : starEach (e :: es) X.env = (false, eval e X.env) :: starEach es X.env) (hpl : (backTo pos (starEach es X.env)).any (·.1) = false) : WE X env cs (.Call (.Name x p) (e :: es) [] pos) Φ := fun M0 B σ M H ps S Q p =>
  wp_of (pe_call F hr hg hm hk hb .nil hx pa_wa hd he hpl) (h M0 B σ M H ps S _ fun vs ss M1 H1 ps1 cs1 q S1 e1 f1 r1 => by
    obtain ⟨j, c, sc, hj, hc, rfl, hn, q⟩ := q
    rw [List.append_nil]
    exact fsp_call1 S1 hj hc hn r1 q (p.on e1 f1))
end
end DL

set_option Elab.async false
set_option linter.all false
set_option maxRecDepth 100000
set_option maxHeartbeats 2000000
/-! DL5: operators and built-ins upon plain data. -/
namespace DL
open PySem PyProof.Rows L2
/-! ### data that the library compares and sorts -/
class Py (α : Type) [DecidableEq α] [Enc α] where
  py : α → PyData
  dp : ∀ {K : Fg} {M : Hp} {v : V} {a : α}, Enc.rep K M v a → Dp K M v (py a)
  lay : ∀ a, (py a).canLay0 = true
  dn : Nat
  dep : ∀ a, (py a).depth ≤ dn
  eqv : ∀ a b, PyData.eqv (py a) (py b) = decide (a = b)
instance : Py Int where
  py := .int
  dp h := by cases h; exact .int _
  lay _ := rfl
  dn := 0
  dep _ := Nat.le_refl _
  eqv a b := by
    show (a == b) = _
    by_cases h : a = b <;> simp [h]
instance : Py Bool where
  py := .bool
  dp h := by cases h; exact .bl _
  lay _ := rfl
  dn := 0
  dep _ := Nat.le_refl _
  eqv a b := by
    show (a == b) = _
    by_cases h : a = b <;> simp [h]
instance : Py Unit where
  py _ := .none
  dp h := by cases h; exact .non
  lay _ := rfl
  dn := 0
  dep _ := Nat.le_refl _
  eqv a b := by simp [PyData.eqv]
section
variable {α β γ : Type} [DecidableEq α] [DecidableEq β] [DecidableEq γ] [Enc α] [Enc β] [Enc γ] [Py α] [Py β] [Py γ]
theorem dp_all {K : Fg} {M : Hp} {vs : List V} {xs : List α} (h : Pr (Enc.rep K M) vs xs) : DpAll K M vs (xs.map Py.py) := by
  induction h with
  | nil => exact .nil
  | cons a _ ih => exact .cons (Py.dp a) ih
theorem lay_all : ∀ xs : List α, PyData.canLayAll0 (xs.map Py.py) = true
  | [] => rfl
  | x :: xs => by rw [List.map_cons, PyData.canLayAll0, Py.lay x, lay_all xs]; rfl
theorem dep_all : ∀ xs : List α, PyData.depthAll (xs.map Py.py) ≤ Py.dn α
  | [] => by rw [List.map_nil, PyData.depthAll]; exact Nat.zero_le _
  | x :: xs => by rw [List.map_cons, PyData.depthAll]; exact Nat.max_le.mpr ⟨Py.dep x, dep_all xs⟩
theorem eqv_all : ∀ xs ys : List α, PyData.eqvAll (xs.map Py.py) (ys.map Py.py) = decide (xs = ys)
  | [], [] => by simp [PyData.eqvAll]
  | [], y :: ys => by simp [PyData.eqvAll]
  | x :: xs, [] => by simp [PyData.eqvAll]
  | x :: xs, y :: ys => by
    rw [List.map_cons, List.map_cons, PyData.eqvAll, Py.eqv, eqv_all xs ys]
    by_cases h : x = y <;> by_cases h' : xs = ys <;> simp [h, h']
instance : Py (List α) where
  py xs := .list (xs.map Py.py)
  dp := fun ⟨p, vs, h1, h2, h3⟩ => by subst h1; exact .lst h2 (dp_all h3)
  lay xs := by rw [PyData.canLay0]; exact lay_all xs
  dn := Py.dn α + 1
  dep xs := by rw [PyData.depth]; exact Nat.succ_le_succ (dep_all xs)
  eqv xs ys := by rw [PyData.eqv]; exact eqv_all xs ys
instance : Py (Tup α) where
  py xs := .tuple (xs.l.map Py.py)
  dp := fun ⟨p, vs, h1, h2, h3⟩ => by subst h1; exact .tup h2 (dp_all h3)
  lay xs := by rw [PyData.canLay0]; exact lay_all xs.l
  dn := Py.dn α + 1
  dep xs := by rw [PyData.depth]; exact Nat.succ_le_succ (dep_all xs.l)
  eqv xs ys := by
    rw [PyData.eqv, eqv_all]
    cases xs; cases ys; simp
instance : Py (α × β) where
  py x := .tuple [Py.py x.1, Py.py x.2]
  dp := fun ⟨p, a, b, h1, h2, h3, h4⟩ => by subst h1; exact .tup h2 (.cons (Py.dp h3) (.cons (Py.dp h4) .nil))
  lay x := by simp [PyData.canLay0, PyData.canLayAll0, Py.lay]
  dn := max (Py.dn α) (Py.dn β) + 1
  dep x := by
    have h1 := Py.dep x.1
    have h2 := Py.dep x.2
    simp only [PyData.depth, PyData.depthAll]
    omega
  eqv x y := by
    rw [PyData.eqv, PyData.eqvAll, PyData.eqvAll, Py.eqv, Py.eqv, PyData.eqvAll]
    obtain ⟨a, b⟩ := x
    obtain ⟨c, d⟩ := y
    by_cases h : a = c <;> by_cases h' : b = d <;> simp [h, h']
instance : Py (T3 α β γ) where
  py x := .tuple [Py.py x.a, Py.py x.b, Py.py x.c]
  dp := fun ⟨p, a, b, c, h1, h2, h3, h4, h5⟩ => by subst h1; exact .tup h2 (.cons (Py.dp h3) (.cons (Py.dp h4) (.cons (Py.dp h5) .nil)))
  lay x := by simp [PyData.canLay0, PyData.canLayAll0, Py.lay]
  dn := max (Py.dn α) (max (Py.dn β) (Py.dn γ)) + 1
  dep x := by
    have h1 := Py.dep x.a
    have h2 := Py.dep x.b
    have h3 := Py.dep x.c
    simp only [PyData.depth, PyData.depthAll]
    omega
  eqv x y := by
    simp only [PyData.eqv, PyData.eqvAll, Py.eqv]
    obtain ⟨a, b, c⟩ := x
    obtain ⟨a', b', c'⟩ := y
    by_cases h : a = a' <;> by_cases h' : b = b' <;> by_cases h'' : c = c' <;> simp [h, h', h'']
/-- what is no None -/
class NotNone (α : Type) [DecidableEq α] [Enc α] [Py α] : Prop where
  nn : ∀ a : α, ∀ b : Bool, PyData.eqv (Py.py a) .none = false ∧ PyData.eqv .none (Py.py a) = false
instance : NotNone Int := ⟨fun _ _ => ⟨rfl, rfl⟩⟩
instance : NotNone (List α) := ⟨fun _ _ => ⟨by simp [Py.py, PyData.eqv], by simp [Py.py, PyData.eqv]⟩⟩
instance : NotNone (Tup α) := ⟨fun _ _ => ⟨by simp [Py.py, PyData.eqv], by simp [Py.py, PyData.eqv]⟩⟩
instance : NotNone (α × β) := ⟨fun _ _ => ⟨by simp [Py.py, PyData.eqv], by simp [Py.py, PyData.eqv]⟩⟩
instance [NotNone α] : Py (Option α) where
  py x := match x with
    | none => .none
    | some a => Py.py a
  dp {K M v a} h := by
    cases a with
    | none => cases h; exact .non
    | some a => exact Py.dp h.2
  lay x := by
    cases x with
    | none => rfl
    | some a => exact Py.lay a
  dn := Py.dn α
  dep x := by
    cases x with
    | none => exact Nat.zero_le _
    | some a => exact Py.dep a
  eqv x y := by
    cases x with
    | none =>
      cases y with
      | none => simp [PyData.eqv]
      | some b => simp [(NotNone.nn b true).2]
    | some a =>
      cases y with
      | none => simp [(NotNone.nn a true).1]
      | some b => simp [Py.eqv]
end
/-- what can be sorted -/
class PyOrd (α : Type) [DecidableEq α] [Enc α] extends Py α where
  al : ∀ a b, PySem.W.alike (py a) (py b) = true
  srt : (∀ a, ∃ x r, py a = .tuple (x :: r)) ∨ ∀ a, py a ≠ .none ∧ ∀ xs, py a ≠ .tuple xs
instance : PyOrd Int where
  al _ _ := rfl
  srt := .inr fun _ => ⟨nofun, nofun⟩
instance {α β : Type} [DecidableEq α] [DecidableEq β] [Enc α] [Enc β] [PyOrd α] [PyOrd β] : PyOrd (α × β) where
  al x y := by
    show PySem.W.alike (.tuple [_, _]) (.tuple [_, _]) = true
    simp [PySem.W.alike, PySem.W.alikeAll, PyOrd.al]
  srt := .inl fun x => ⟨_, _, rfl⟩
/-- Python's order -/
def ple {α : Type} [DecidableEq α] [Enc α] [PyOrd α] : α → α → Bool := PySem.W.dataLe false Py.py
def srt {α : Type} [DecidableEq α] [Enc α] [PyOrd α] (xs : List α) : List α := xs.mergeSort ple
theorem ple_int : (ple : Int → Int → Bool) = fun a b => decide (a ≤ b) := PySem.W.dataLe_int fun i => i
theorem ple_ii : (ple : Int × Int → Int × Int → Bool) = fun p q => decide (p.1 < q.1 ∨ (p.1 = q.1 ∧ p.2 ≤ q.2)) := PySem.W.dataLe_ii Prod.fst Prod.snd

section
variable {X : Cx} {K : Fg} {M0 B M M' H H' : Hp} {σ : L2.St} {env : List Slot} {ps : List Addr} {cs : List Cell} {s s1 s2 : Slot} {i j : Int} {k : Nat}
/-! ### numbers -/
theorem opD_val {f : Value → Value → Sem Value} {C : Int → Int → Prop} {g : Int → Int → V} (h : OpR X f (rI C g)) (hc : C i j) (hs : ∀ M ps, SlotOk X.K M ps s (g i j)) : OpD X.K (rSup X f) (.of i) (.of j) s :=
  .mk h fun M0 B σ M H env ps cs S v1 v2 h1 h2 Q p => ⟨i, j, h1, h2, hc, p _ M H S (Ex.refl _) (hs _ _)⟩
theorem opD_val0 {f : Value → Value → Sem Value} {g : Int → Int → V} (h : OpR X f (rI0 g)) (hs : ∀ M ps, SlotOk X.K M ps s (g i j)) : OpD X.K (rSup X f) (.of i) (.of j) s :=
  .mk h fun M0 B σ M H env ps cs S v1 v2 h1 h2 Q p => ⟨i, j, h1, h2, p _ M H S (Ex.refl _) (hs _ _)⟩
theorem b_add : BinD X .Add (.of i) (.of j) (.of (i + j)) := opD_val0 op_add fun _ _ => rfl
theorem b_sub : BinD X .Sub (.of i) (.of j) (.of (i - j)) := opD_val0 op_sub fun _ _ => rfl
theorem b_mul (h : CMul i j) : BinD X .Mult (.of i) (.of j) (.of (i * j)) := opD_val op_mul h fun _ _ => rfl
theorem b_mod (h : 0 < j) : BinD X .Mod (.of i) (.of j) (.of (i % j)) := opD_val op_mod h fun _ _ => rfl
theorem b_div (h : CDiv i j) : BinD X .FloorDiv (.of i) (.of j) (.of (i / j)) := opD_val op_fdiv h fun _ _ => rfl
theorem b_pow (h : CPow i j) : BinD X .Pow (.of i) (.of j) (.of (i ^ j.toNat)) := opD_val op_pow h fun _ _ => rfl
theorem a_add : AugD X .Add (.of i) (.of j) (.of (i + j)) := opD_val0 iop_add fun _ _ => rfl
theorem a_sub : AugD X .Sub (.of i) (.of j) (.of (i - j)) := opD_val0 iop_sub fun _ _ => rfl
theorem c_lt : CmpD X .Lt (.of i) (.of j) (decide (i < j)) := opD_val0 op_lt fun _ _ => rfl
theorem c_le : CmpD X .LtE (.of i) (.of j) (decide (i ≤ j)) := opD_val0 op_le fun _ _ => rfl
theorem c_gt : CmpD X .Gt (.of i) (.of j) (decide (j < i)) := opD_val0 op_gt fun _ _ => rfl
theorem c_ge : CmpD X .GtE (.of i) (.of j) (decide (j ≤ i)) := opD_val0 op_ge fun _ _ => rfl
theorem c_eq_int : CmpD X .Eq (.of i) (.of j) (decide (i = j)) := .mk op_eq fun M0 B σ M H env ps cs S v1 v2 h1 h2 Q p => by
  cases h1; cases h2
  refine ⟨rfl, p _ M H S (Ex.refl _) ?_⟩
  show V.bl _ = V.bl _
  rw [dec_int]
  by_cases h : i = j <;> simp [h]
theorem c_ne_int : CmpD X .NotEq (.of i) (.of j) (!decide (i = j)) := .mk op_ne fun M0 B σ M H env ps cs S v1 v2 h1 h2 Q p => by
  cases h1; cases h2
  refine ⟨rfl, p _ M H S (Ex.refl _) ?_⟩
  show V.bl _ = V.bl _
  rw [dec_int]
  by_cases h : i = j <;> simp [h]
theorem c_eq_bl {i j : Bool} : CmpD X .Eq (.of i) (.of j) (decide (i = j)) := .mk op_eq fun M0 B σ M H env ps cs S v1 v2 h1 h2 Q p => by
  cases h1; cases h2
  refine ⟨rfl, p _ M H S (Ex.refl _) ?_⟩
  show V.bl _ = V.bl _
  rw [dec_bl]
  by_cases h : i = j <;> simp [h]
theorem c_ne_bl {i j : Bool} : CmpD X .NotEq (.of i) (.of j) (!decide (i = j)) := .mk op_ne fun M0 B σ M H env ps cs S v1 v2 h1 h2 Q p => by
  cases h1; cases h2
  refine ⟨rfl, p _ M H S (Ex.refl _) ?_⟩
  show V.bl _ = V.bl _
  rw [dec_bl]
  by_cases h : i = j <;> simp [h]
theorem c_eq_str {i j : PySem.Str} : CmpD X .Eq (.of i) (.of j) (decide (i = j)) := .mk op_eq fun M0 B σ M H env ps cs S v1 v2 h1 h2 Q p => by
  cases h1; cases h2
  refine ⟨rfl, p _ M H S (Ex.refl _) ?_⟩
  show V.bl _ = V.bl _
  rw [dec_str]
  by_cases h : i = j <;> simp [h]
theorem c_ne_str {i j : PySem.Str} : CmpD X .NotEq (.of i) (.of j) (!decide (i = j)) := .mk op_ne fun M0 B σ M H env ps cs S v1 v2 h1 h2 Q p => by
  cases h1; cases h2
  refine ⟨rfl, p _ M H S (Ex.refl _) ?_⟩
  show V.bl _ = V.bl _
  rw [dec_str]
  by_cases h : i = j <;> simp [h]
/-- == of data -/
theorem c_eq_py {α : Type} [DecidableEq α] [Enc α] [Py α] {x y : α} (hr : Room k X.A) (hd : Py.dn α ≤ 60) : CmpD X .Eq (.of x) (.of y) (decide (x = y)) := .mk (op_eqD hr.units) fun M0 B σ M H env ps cs S v1 v2 h1 h2 Q p => by
  refine ⟨_, _, Py.dp (Enc.mono S.mh h1), Py.dp (Enc.mono S.mh h2), ?_, ?_, p _ M H S (Ex.refl _) ?_⟩
  · rw [SeqAt.shaped, Py.lay]; exact decide_eq_true (by have := Py.dep x; omega)
  · rw [SeqAt.shaped, Py.lay]; exact decide_eq_true (by have := Py.dep y; omega)
  · show V.bl _ = V.bl _
    rw [Py.eqv]
theorem c_ne_py {α : Type} [DecidableEq α] [Enc α] [Py α] {x y : α} (hr : Room k X.A) (hd : Py.dn α ≤ 60) : CmpD X .NotEq (.of x) (.of y) (!decide (x = y)) := .mk (op_neD hr.units) fun M0 B σ M H env ps cs S v1 v2 h1 h2 Q p => by
  refine ⟨_, _, Py.dp (Enc.mono S.mh h1), Py.dp (Enc.mono S.mh h2), ?_, ?_, p _ M H S (Ex.refl _) ?_⟩
  · rw [SeqAt.shaped, Py.lay]; exact decide_eq_true (by have := Py.dep x; omega)
  · rw [SeqAt.shaped, Py.lay]; exact decide_eq_true (by have := Py.dep y; omega)
  · show V.bl _ = V.bl _
    rw [Py.eqv]
/-! ### truth -/
theorem t_bl {b : Bool} : TruD K (.of b) b := fun M0 B σ M H env ps cs S v h => by cases h; rfl
theorem t_int : TruD K (.of i) (i != 0) := fun M0 B σ M H env ps cs S v h => by cases h; rfl
theorem t_unit : TruD K (.of ()) false := fun M0 B σ M H env ps cs S v h => by cases h; rfl
theorem t_list {α : Type} [Enc α] {xs : List α} : TruD K (.of xs) (!xs.isEmpty) := fun M0 B σ M H env ps cs S v h => by
  obtain ⟨p, vs, rfl, h1, h2⟩ := h
  refine .inl ⟨vs, S.mh.sl h1, ?_⟩
  cases h2 <;> rfl
theorem t_tup {α : Type} [Enc α] {xs : Tup α} : TruD K (.of xs) (!xs.l.isEmpty) := fun M0 B σ M H env ps cs S v h => by
  obtain ⟨p, vs, rfl, h1, h2⟩ := h
  refine .inr (.inl ⟨vs, S.mh.st h1, ?_⟩)
  generalize xs.l = l at h2
  cases h2 <;> rfl
/-- an own list -/
def TruC (K : Fg) (cs : List Cell) (s : Slot) (k : Bool) : Prop := ∀ M0 B σ M H env ps, Sta K M0 B σ M H env ps cs → ∀ v, SlotOk K M ps s v → TruV K v H k
theorem wt_valC {X : Cx} {a : Expr} {Φb : WantB} (h : WE X env cs a fun s cs1 => ∃ k, TruC X.K cs1 s k ∧ Φb k cs1) (he : ∀ whole, isTrue a X.env whole = (do let v ← whole; standAt a.pos; holding [v] (truthy v))) : WT X env cs a Φb := fun M0 B σ M H ps S Q p =>
  wt_of (pt_truth pe_wp he) (h M0 B σ M H ps S _ fun v1 s1 M1 H1 ps1 cs1 h1 S1 e1 f1 r1 => by
    obtain ⟨k, d, q⟩ := h1
    exact ⟨k, d M0 B σ M1 H1 env ps1 S1 v1 r1, p k M1 H1 ps1 cs1 q S1 e1 f1⟩)
theorem dt_valC {a : Expr} {k : Bool} (h : DE X env cs a s) (d : TruC X.K cs s k) (he : ∀ whole, isTrue a X.env whole = (do let v ← whole; standAt a.pos; holding [v] (truthy v))) : DT X env cs a k := fun Φ q => wt_valC (h _ ⟨k, d, q⟩) he
theorem cell_tl {α : Type} {ia : Enc α} {xs : List α} {n : Nat} (S : Sta K M0 B σ M H env ps cs) (hc : cs[n]? = some (.tl α ia xs)) {v : V} (h : SlotOk K M ps (.c n) v) : ∃ p vs, v = .ref p ∧ ps[n]? = some p ∧ H p = some (.lst vs) ∧ Pr (ia.rep K M) vs xs := by
  obtain ⟨p, h1, rfl⟩ := h
  obtain ⟨p', o, g1, g2, g3, g4, vs, rfl, g5⟩ := S.cell hc (fun z => nomatch z)
  rw [h1] at g1
  cases g1
  exact ⟨p, vs, rfl, h1, g4, g5⟩
theorem t_cell {α : Type} {ia : Enc α} {xs : List α} {n : Nat} (hc : cs[n]? = some (.tl α ia xs)) : TruC K cs (.c n) (!xs.isEmpty) := fun M0 B σ M H env ps S v h => by
  obtain ⟨p, vs, rfl, _, h1, h2⟩ := cell_tl S hc h
  refine .inl ⟨vs, .inl (.inl h1), ?_⟩
  cases h2 <;> rfl
/-! ### items -/
/-- the item at i -/
def ixD {α : Type} (d : α) (xs : List α) (i : Int) : α := (atI xs i).getD d
theorem ix_ok {α : Type} {xs : List α} {i : Int} (h1 : -(xs.length : Int) ≤ i) (h2 : i < xs.length) : ∃ j : Nat, ixN xs.length i = some j ∧ ∃ x, xs[j]? = some x := by
  unfold ixN
  by_cases h : 0 ≤ i
  · refine ⟨i.toNat, by rw [if_pos h, if_pos h2], xs[i.toNat]'(by omega), ?_⟩
    exact List.getElem?_eq_getElem _
  · refine ⟨(i + xs.length).toNat, by rw [if_neg h, if_pos h1], xs[(i + xs.length).toNat]'(by omega), ?_⟩
    exact List.getElem?_eq_getElem _
theorem at_rep {α : Type} [Enc α] {vs : List V} {xs : List α} (r : Pr (Enc.rep K M) vs xs) {i : Int} {x : α} (h : atI xs i = some x) : ∃ v, atI vs i = some v ∧ Enc.rep K M v x := by
  unfold atI at h ⊢
  rw [r.len]
  cases q : ixN xs.length i with
  | none => rw [q] at h; cases h
  | some j =>
    rw [q] at h
    exact r.get h
theorem x_list {α : Type} [Enc α] {xs : List α} {x : α} (h : atI xs i = some x) : IxD X (.of xs) (.of i) (.of x) := .mkX ix_list fun M0 B σ M H env ps cs S v1 v2 h1 h2 Q p => by
  obtain ⟨a, vs, rfl, g1, g2⟩ := h1
  obtain ⟨v, q1, q2⟩ := at_rep g2 h
  exact ⟨a, vs, i, v, rfl, h2, S.mh.sl g1, q1, p _ M H S (Ex.refl _) q2⟩
theorem x_tup {α : Type} [Enc α] {xs : Tup α} {x : α} (h : atI xs.l i = some x) : IxD X (.of xs) (.of i) (.of x) := .mkX ix_tup fun M0 B σ M H env ps cs S v1 v2 h1 h2 Q p => by
  obtain ⟨a, vs, rfl, g1, g2⟩ := h1
  obtain ⟨v, q1, q2⟩ := at_rep g2 h
  exact ⟨a, vs, i, v, rfl, h2, S.mh.st g1, q1, p _ M H S (Ex.refl _) q2⟩
section
variable {α β γ : Type} [Enc α] [Enc β] [Enc γ]
theorem x_fst {x : α × β} : IxD X (.of x) (.of (0 : Int)) (.of x.1) := .mkX ix_tup fun M0 B σ M H env ps cs S v1 v2 h1 h2 Q p => by
  obtain ⟨a, u, v, rfl, g1, g2, g3⟩ := h1
  exact ⟨a, _, 0, u, rfl, h2, S.mh.st g1, rfl, p _ M H S (Ex.refl _) g2⟩
theorem x_snd {x : α × β} : IxD X (.of x) (.of (1 : Int)) (.of x.2) := .mkX ix_tup fun M0 B σ M H env ps cs S v1 v2 h1 h2 Q p => by
  obtain ⟨a, u, v, rfl, g1, g2, g3⟩ := h1
  exact ⟨a, _, 1, v, rfl, h2, S.mh.st g1, rfl, p _ M H S (Ex.refl _) g3⟩
theorem x_t0 {x : T3 α β γ} : IxD X (.of x) (.of (0 : Int)) (.of x.a) := .mkX ix_tup fun M0 B σ M H env ps cs S v1 v2 h1 h2 Q p => by
  obtain ⟨a, u, v, w, rfl, g1, g2, g3, g4⟩ := h1
  exact ⟨a, _, 0, u, rfl, h2, S.mh.st g1, rfl, p _ M H S (Ex.refl _) g2⟩
theorem x_t1 {x : T3 α β γ} : IxD X (.of x) (.of (1 : Int)) (.of x.b) := .mkX ix_tup fun M0 B σ M H env ps cs S v1 v2 h1 h2 Q p => by
  obtain ⟨a, u, v, w, rfl, g1, g2, g3, g4⟩ := h1
  exact ⟨a, _, 1, v, rfl, h2, S.mh.st g1, rfl, p _ M H S (Ex.refl _) g3⟩
theorem x_t2 {x : T3 α β γ} : IxD X (.of x) (.of (2 : Int)) (.of x.c) := .mkX ix_tup fun M0 B σ M H env ps cs S v1 v2 h1 h2 Q p => by
  obtain ⟨a, u, v, w, rfl, g1, g2, g3, g4⟩ := h1
  exact ⟨a, _, 2, w, rfl, h2, S.mh.st g1, rfl, p _ M H S (Ex.refl _) g4⟩
end
/-- an item of an own list -/
def IxC (X : Cx) (cs : List Cell) (s1 s2 s : Slot) : Prop := ∀ M0 B σ M H env ps, Sta X.K M0 B σ M H env ps cs → ∀ v1 v2, SlotOk X.K M ps s1 v1 → SlotOk X.K M ps s2 v2 → ∀ Q : VK,
  (∀ v M' H', Sta X.K M0 B σ M' H' env ps cs → Ex M M' → SlotOk X.K M' ps s v → Q v H') → rSupX X v1 v2 H Q
theorem we_ixC {X : Cx} {a b : Expr} {Φ : Want} {pos : Pos'} (h : WE X env cs a fun s1 cs1 => WE X env cs1 b fun s2 cs2 => ∃ s, IxC X cs2 s1 s2 s ∧ Φ s cs2) (hs : PlainIx b) : WE X env cs (.Subscript a b pos) Φ := fun M0 B σ M H ps S Q p =>
  wp_of (pe_ix ixR_sup pe_wp pe_wp hs) (h M0 B σ M H ps S _ fun v1 s1 M1 H1 ps1 cs1 h1 S1 e1 f1 r1 => h1 M0 B σ M1 H1 ps1 S1 _ fun v2 s2 M2 H2 ps2 cs2 h2 S2 e2 f2 r2 => by
    obtain ⟨s, d, q⟩ := h2
    exact d M0 B σ M2 H2 env ps2 S2 v1 v2 (r1.mono e2 f2) r2 Q fun v M3 H3 S3 e3 ok => p v s M3 H3 ps2 cs2 q S3 ((e1.trans e2).trans e3) (f1.trans f2) ok)
theorem de_ixC {a b : Expr} {pos : Pos'} (ha : DE X env cs a s1) (hb : DE X env cs b s2) (h : IxC X cs s1 s2 s) (hs : PlainIx b) : DE X env cs (.Subscript a b pos) s := fun Φ q => we_ixC (ha _ (hb _ ⟨s, h, q⟩)) hs
theorem x_cell {α : Type} {ia : Enc α} {xs : List α} {x : α} {n : Nat} (hc : cs[n]? = some (.tl α ia xs)) (h : atI xs i = some x) : IxC X cs (.c n) (.of i) (.of x) := fun M0 B σ M H env ps S v1 v2 h1 h2 Q p => by
  obtain ⟨a, vs, rfl, _, g1, g2⟩ := cell_tl S hc h1
  obtain ⟨v, q1, q2⟩ := at_rep g2 h
  exact ⟨_, ix_list, a, vs, i, v, rfl, h2, .inl (.inl g1), q1, p _ M H S (Ex.refl _) q2⟩
/-! ### built-ins -/
theorem f_len {α : Type} [Enc α] {xs : List α} : CallD X (.builtin "len") [.of xs] (.of (xs.length : Int)) := .mk call_len_seq fun M0 B σ M H env ps cs S vs h Q p => by
  cases h with
  | cons r h =>
    cases h
    obtain ⟨a, ws, rfl, g1, g2⟩ := r
    refine ⟨a, ws, rfl, .inl (S.mh.sl g1), p _ M H S (Ex.refl _) ?_⟩
    rw [g2.len]; rfl
theorem f_lenT {α : Type} [Enc α] {xs : Tup α} : CallD X (.builtin "len") [.of xs] (.of (xs.l.length : Int)) := .mk call_len_seq fun M0 B σ M H env ps cs S vs h Q p => by
  cases h with
  | cons r h =>
    cases h
    obtain ⟨a, ws, rfl, g1, g2⟩ := r
    refine ⟨a, ws, rfl, .inr (S.mh.st g1), p _ M H S (Ex.refl _) ?_⟩
    rw [g2.len]; rfl
theorem f_tuple {α : Type} [Enc α] {xs : List α} : CallD X (.type "tuple") [.of xs] (.of (Tup.mk xs)) := .mk call_tuple_of fun M0 B σ M H env ps cs S vs h Q p => by
  cases h with
  | cons r h =>
    cases h
    obtain ⟨a, ws, rfl, g1, g2⟩ := r
    exact ⟨a, ws, rfl, .inl ⟨S.mh.sl g1, fun l hl => p _ _ _ (S.new hl) (Ex.nw (S.mh.back hl)) ⟨l, ws, rfl, upd_st, g2.imp fun _ _ => Enc.mono (Ex.nw (S.mh.back hl))⟩⟩⟩
theorem f_tupleT {α : Type} [Enc α] {xs : Tup α} : CallD X (.type "tuple") [.of xs] (.of xs) := .mk call_tuple_of fun M0 B σ M H env ps cs S vs h Q p => by
  cases h with
  | cons r h =>
    cases h
    obtain ⟨a, ws, rfl, g1, g2⟩ := r
    exact ⟨a, ws, rfl, .inr ⟨S.mh.st g1, p _ M H S (Ex.refl _) ⟨a, ws, rfl, g1, g2⟩⟩⟩
theorem f_list {α : Type} [Enc α] {xs : List α} : CallD X (.type "list") [.of xs] (.of xs) := .mk call_list_of fun M0 B σ M H env ps cs S vs h Q p => by
  cases h with
  | cons r h =>
    cases h
    obtain ⟨a, ws, rfl, g1, g2⟩ := r
    exact ⟨a, ws, rfl, .inl (S.mh.sl g1), fun l hl => p _ _ _ (S.new hl) (Ex.nw (S.mh.back hl)) ⟨l, ws, rfl, upd_sq, g2.imp fun _ _ => Enc.mono (Ex.nw (S.mh.back hl))⟩⟩
theorem f_listT {α : Type} [Enc α] {xs : Tup α} : CallD X (.type "list") [.of xs] (.of xs.l) := .mk call_list_of fun M0 B σ M H env ps cs S vs h Q p => by
  cases h with
  | cons r h =>
    cases h
    obtain ⟨a, ws, rfl, g1, g2⟩ := r
    exact ⟨a, ws, rfl, .inr (S.mh.st g1), fun l hl => p _ _ _ (S.new hl) (Ex.nw (S.mh.back hl)) ⟨l, ws, rfl, upd_sq, g2.imp fun _ _ => Enc.mono (Ex.nw (S.mh.back hl))⟩⟩
theorem bl_map {vs : List V} {xs : List Bool} (r : Pr (Enc.rep K M) vs xs) : vs = xs.map V.bl := r.map_eq V.bl fun _ _ h => h
theorem int_map {vs : List V} {xs : List Int} (r : Pr (Enc.rep K M) vs xs) : vs = xs.map V.int := r.map_eq V.int fun _ _ h => h
theorem f_all {xs : List Bool} (hc : X.calm = true) : CallD X (.builtin "all") [.of xs] (.of (xs.all id)) := .mk (cr_all hc) fun M0 B σ M H env ps cs S vs h Q p => by
  cases h with
  | cons r h =>
    cases h
    obtain ⟨a, ws, rfl, g1, g2⟩ := r
    have e := bl_map g2
    subst e
    exact ⟨a, xs, rfl, S.mh.sl g1, p _ M H S (Ex.refl _) rfl⟩
theorem f_any {xs : List Bool} (hc : X.calm = true) : CallD X (.builtin "any") [.of xs] (.of (xs.any id)) := .mk (cr_any hc) fun M0 B σ M H env ps cs S vs h Q p => by
  cases h with
  | cons r h =>
    cases h
    obtain ⟨a, ws, rfl, g1, g2⟩ := r
    have e := bl_map g2
    subst e
    exact ⟨a, xs, rfl, S.mh.sl g1, p _ M H S (Ex.refl _) rfl⟩
theorem f_sum {xs : List Int} (hc : X.calm = true) : CallD X (.builtin "sum") [.of xs] (.of xs.sum) := .mk (cr_sum hc) fun M0 B σ M H env ps cs S vs h Q p => by
  cases h with
  | cons r h =>
    cases h
    obtain ⟨a, ws, rfl, g1, g2⟩ := r
    have e := int_map g2
    subst e
    exact ⟨a, xs, rfl, S.mh.sl g1, p _ M H S (Ex.refl _) rfl⟩
/-- the greatest, the least of a list -/
def maxL (xs : List Int) : Int := xs.max?.getD 0
def minL (xs : List Int) : Int := xs.min?.getD 0
theorem maxL_eq {xs : List Int} {m : Int} (h : m ∈ xs) (h' : ∀ y ∈ xs, y ≤ m) : maxL xs = m := by
  unfold maxL
  rw [(List.max?_eq_some_iff (α := Int)).mpr ⟨h, h'⟩]
  rfl
theorem minL_eq {xs : List Int} {m : Int} (h : m ∈ xs) (h' : ∀ y ∈ xs, m ≤ y) : minL xs = m := by
  unfold minL
  rw [(List.min?_eq_some_iff (α := Int)).mpr ⟨h, h'⟩]
  rfl
theorem f_max {xs : List Int} (hc : X.calm = true) (hn : 0 < xs.length) : CallD X (.builtin "max") [.of xs] (.of (maxL xs)) := .mk (cr_max hc) fun M0 B σ M H env ps cs S vs h Q p => by
  cases h with
  | cons r h =>
    cases h
    obtain ⟨a, ws, rfl, g1, g2⟩ := r
    have e := int_map g2
    subst e
    exact ⟨a, xs, rfl, S.mh.sl g1, hn, fun m h1 h2 => p _ M H S (Ex.refl _) (by rw [maxL_eq h1 h2]; rfl)⟩
theorem f_min {xs : List Int} (hc : X.calm = true) (hn : 0 < xs.length) : CallD X (.builtin "min") [.of xs] (.of (minL xs)) := .mk (cr_min hc) fun M0 B σ M H env ps cs S vs h Q p => by
  cases h with
  | cons r h =>
    cases h
    obtain ⟨a, ws, rfl, g1, g2⟩ := r
    have e := int_map g2
    subst e
    exact ⟨a, xs, rfl, S.mh.sl g1, hn, fun m h1 h2 => p _ M H S (Ex.refl _) (by rw [minL_eq h1 h2]; rfl)⟩
theorem f_max2 (hc : X.calm = true) : CallD X (.builtin "max") [.of i, .of j] (.of (max i j)) := .mk (call_max2 hc) fun M0 B σ M H env ps cs S vs h Q p => by
  cases h with
  | cons r h =>
    cases h with
    | cons r2 h =>
      cases h
      cases r; cases r2
      refine ⟨i, j, rfl, p _ M H S (Ex.refl _) ?_⟩
      show V.int _ = V.int _
      congr 1
      split <;> omega
theorem f_min2 (hc : X.calm = true) : CallD X (.builtin "min") [.of i, .of j] (.of (min i j)) := .mk (call_min2 hc) fun M0 B σ M H env ps cs S vs h Q p => by
  cases h with
  | cons r h =>
    cases h with
    | cons r2 h =>
      cases h
      cases r; cases r2
      refine ⟨i, j, rfl, p _ M H S (Ex.refl _) ?_⟩
      show V.int _ = V.int _
      congr 1
      split <;> omega
theorem f_abs : CallD X (.builtin "abs") [.of i] (.of (i.natAbs : Int)) := .mk call_abs fun M0 B σ M H env ps cs S vs h Q p => by
  cases h with
  | cons r h =>
    cases h
    cases r
    refine ⟨i, rfl, p _ M H S (Ex.refl _) ?_⟩
    show V.int _ = V.int _
    congr 1
    split <;> omega
theorem f_int : CallD X (.type "int") [.of i] (.of i) := .mk call_int1 fun M0 B σ M H env ps cs S vs h Q p => by
  cases h with
  | cons r h =>
    cases h
    cases r
    exact .inl ⟨i, rfl, p _ M H S (Ex.refl _) rfl⟩
/-! ### sorted -/
theorem each_of_pr {α : Type} {F : V → α → Prop} {R : Value → V × α → Prop} (hR : ∀ v u a, RelV v u → F v a → R u (v, a)) : ∀ {vs : List V} {us : List Value} {xs : List α}, Vals vs us → Pr F vs xs → PySem.W.EachIs R us (vs.zip xs)
  | _, _, _, .nil, .nil => .nil
  | _, _, _, .cons r rr, .cons q qq => .cons (hR _ _ _ r q) (each_of_pr hR rr qq)
theorem vals_of_each {α : Type} : ∀ {us : List Value} {zs : List (V × α)}, PySem.W.EachIs (fun u z => RelV z.1 u) us zs → Vals (zs.map (·.1)) us
  | _, _, .nil => .nil
  | _, _, .cons r rr => .cons r (vals_of_each rr)
def rSortD (K : Fg) (lim : Nat) : List V → Hp → VK → Prop := fun vs H Q => ∃ (α : Type) (f : α → PyData) (a : Addr) (ws : List V) (xs : List α), vs = [.ref a] ∧ SqL K H a ws ∧ Pr (fun v x => Dp K H v (f x)) ws xs ∧ (∀ x y, PySem.W.alike (f x) (f y) = true) ∧
  ((∀ a, ∃ x r, f a = .tuple (x :: r)) ∨ ∀ a, f a ≠ .none ∧ ∀ xs, f a ≠ .tuple xs) ∧ (∀ x, (f x).depth ≤ 60) ∧ ∀ p, H p = none → Q (.ref p) (upd H p (.lst (((ws.zip xs).mergeSort fun a b => PySem.W.dataLe false f a.2 b.2).map (·.1))))
theorem cr_sortD (hr : Room k X.A) : CallR X (.builtin "sorted") (rSortD X.K k) := by
  intro pins s σ H vs us Q I r h
  obtain ⟨α, f, a, ws, xs, rfl, hs, hp, hal, hso, hdp, q⟩ := h
  obtain ⟨its, rv, hl, hz⟩ := I.list hs
  rw [Vals.ref1 r]
  have hlen := hp.len
  have hzl : (ws.zip xs).length = xs.length := by rw [List.length_zip, hlen]; exact Nat.min_self _
  have e1 : PySem.W.EachIs (fun (u : Value) (z : V × α) => RelV z.1 u) its (ws.zip xs) := each_of_pr (F := fun v x => Dp X.K H v (f x)) (fun v u a r _ => r) rv hp
  have e2 : PySem.W.EachIs (fun (u : Value) (z : V × α) => ∃ as, Reads s.heap u (f z.2) as) its (ws.zip xs) := each_of_pr (fun v u a r q => Dp.reads I (f a) v u q r) rv hp
  refine PySem.W.sorted_data (enc := fun z : V × α => f z.2) (vs := its) hl.isList e1 e2 (.of fun z z' => hal z.2 z'.2) ?_ (by rw [hzl, ← hlen]; exact hz) (fun b _ => by have h1 := hdp b.2; have h2 := hr.units; omega) fun out ho eo => ?_
  · rcases hso with h | h
    · exact .tuples fun z => h z.2
    · exact .others fun z => h z.2
  · obtain ⟨ep, he'⟩ := PyProof.Rows.sortedAll_at s.heap its (List.toArray out)
    have hv := vals_of_each eo
    refine ⟨.ref _, upd H (s.heap.objs.size + 1) (.lst (((ws.zip xs).mergeSort fun a b => PySem.W.dataLe false f a.2 b.2).map (·.1))), I.laid (t' := s.toks) (fun _ _ => PyProof.Rows.sortedAll_old) (Nat.le_succ _) ⟨?_, out, ep, hv, he'⟩, rfl, q _ (I.hok.fresh (Nat.le_succ _))⟩
    rw [List.length_map, List.length_mergeSort, hzl, ← hlen]
    exact hz
theorem pr_sort {α : Type} {F : V → α → Prop} (le : α → α → Bool) {ws : List V} {xs : List α} (h : Pr F ws xs) : Pr F (((ws.zip xs).mergeSort fun a b => le a.2 b.2).map (·.1)) (xs.mergeSort le) := by
  have e : xs.mergeSort le = ((ws.zip xs).mergeSort fun a b => le a.2 b.2).map (·.2) := by
    rw [List.map_mergeSort (s := le) (fun _ _ _ _ => rfl)]
    congr 1
    rw [List.map_snd_zip (by rw [h.len]; exact Nat.le_refl _)]
  rw [e]
  have all : ∀ z ∈ (ws.zip xs).mergeSort fun a b => le a.2 b.2, F z.1 z.2 := fun z hz => by
    have hz' : z ∈ ws.zip xs := (List.mergeSort_perm _ _).mem_iff.mp hz
    clear e hz
    induction h with
    | nil => simp at hz'
    | @cons a b l m q _ ih =>
      rcases List.mem_cons.mp hz' with rfl | hz'
      · exact q
      · exact ih hz'
  generalize ((ws.zip xs).mergeSort fun a b => le a.2 b.2) = l at all
  induction l with
  | nil => exact .nil
  | cons z l ih => exact .cons (all z List.mem_cons_self) (ih fun y hy => all y (List.mem_cons_of_mem _ hy))
theorem f_sorted {α : Type} [DecidableEq α] [Enc α] [PyOrd α] {xs : List α} (hr : Room k X.A) (hd : Py.dn α ≤ 60) : CallD X (.builtin "sorted") [.of xs] (.of (srt xs)) := .mk (cr_sortD hr) fun M0 B σ M H env ps cs S vs h Q p => by
  cases h with
  | cons r h =>
    cases h
    obtain ⟨a, ws, rfl, g1, g2⟩ := r
    refine ⟨α, Py.py, a, ws, xs, rfl, S.mh.sl g1, g2.imp fun _ _ h => Py.dp (Enc.mono S.mh h), PyOrd.al, PyOrd.srt, fun x => Nat.le_trans (Py.dep x) hd, fun l hl => p _ _ _ (S.new hl) (Ex.nw (S.mh.back hl)) ⟨l, _, rfl, upd_sq, ?_⟩⟩
    exact (pr_sort (PySem.W.dataLe false Py.py) g2).imp fun _ _ => Enc.mono (Ex.nw (S.mh.back hl))
end
end DL

set_option Elab.async false
set_option linter.all false
set_option maxRecDepth 100000
set_option maxHeartbeats 2000000
/-! DL6: defs by name, pure comprehensions, further walks; own dicts, lists, instances. -/
namespace DL
open PySem PyProof.Rows L2
/-! ### defs by name -/
/-- the module's name x is a def that keeps sw -/
structure FnR (P : Program) (w : World) (K : Fg) (mg : PySem.Str → Option Value) (base : Heap) (k : Nat) (x : PySem.Str) (pl : List PySem.Str) (sw : SpecW) : Prop where
  ex : ∃ f fd, mg x = some (.ref f) ∧ PySem.W.keepIn K (.ref f) = true ∧ FnOk P w K mg base CX0 k f fd pl (FSp K sw) ∧ Binds K fd pl []
section
variable {α β γ δ ε : Type} [Enc α] [Enc β] [Enc γ] [Enc δ] [Enc ε]
/-- pure defs -/
def sp1 (pre : α → Prop) (f : α → β) : SpecW := fun env cs Φ => ∃ x, env = [.of x] ∧ cs = [] ∧ pre x ∧ Φ (.of (f x)) []
def sp2 (pre : α → β → Prop) (f : α → β → γ) : SpecW := fun env cs Φ => ∃ x y, env = [.of x, .of y] ∧ cs = [] ∧ pre x y ∧ Φ (.of (f x y)) []
def sp3 (pre : α → β → γ → Prop) (f : α → β → γ → δ) : SpecW := fun env cs Φ => ∃ x y z, env = [.of x, .of y, .of z] ∧ cs = [] ∧ pre x y z ∧ Φ (.of (f x y z)) []
def sp4 (pre : α → β → γ → δ → Prop) (f : α → β → γ → δ → ε) : SpecW := fun env cs Φ => ∃ x y z u, env = [.of x, .of y, .of z, .of u] ∧ cs = [] ∧ pre x y z u ∧ Φ (.of (f x y z u)) []
end
section
variable {X : Cx} {K : Fg} {M0 B M M' H H' : Hp} {σ : L2.St} {env : List Slot} {ps : List Addr} {cs : List Cell} {s s1 s2 : Slot} {e a b : Expr} {es : List Expr} {k j : Nat} {x : PySem.Str} {pl : List PySem.Str} {p pos : Pos'} {Φ : Want} {ss : List Slot}
theorem we_callR {sw : SpecW} (F : FnR X.prog X.w X.K X.mg X.base k x pl sw) (hr : Room j X.A) (hj : k ≤ j) (hx : Passes CX0 X E0)
    (h : WA X env cs (e :: es) fun ss cs1 => (∀ s ∈ ss, ∃ α i a, s = .d α i a) ∧ sw ss [] fun s cs' => cs' = [] ∧ (∃ α i a, s = Slot.d α i a) ∧ Φ s cs1) (hg : Gl X x) (hd : (x == ("__debug__" : PySem.Str)) = false)
    (he : starEach (e :: es) X.env = (false, eval e X.env) :: starEach es X.env) (hpl : (backTo pos (starEach es X.env)).any (·.1) = false) : WE X env cs (.Call (.Name x p) (e :: es) [] pos) Φ := by
  obtain ⟨f, fd, h1, h2, h3, h4⟩ := F.ex
  exact we_call0 h3 (hr.mono hj) h1 h2 h4 hx h hg hd he hpl
section
variable {α β γ δ ε : Type} [Enc α] [Enc β] [Enc γ] [Enc δ] [Enc ε]
theorem de_c1 {pre : α → Prop} {f : α → β} (F : FnR X.prog X.w X.K X.mg X.base k x pl (sp1 pre f)) (hr : Room j X.A) (hj : k ≤ j) (hx : Passes CX0 X E0) (hg : Gl X x) (hd : (x == ("__debug__" : PySem.Str)) = false) (he : starEach (e :: es) X.env = (false, eval e X.env) :: starEach es X.env) (hpl : (backTo pos (starEach es X.env)).any (·.1) = false)
    {x1 : α} (h : DA X env cs (e :: es) [.of x1]) (hp : pre x1) : DE X env cs (.Call (.Name x p) (e :: es) [] pos) (.of (f x1)) := fun Φ q =>
  we_callR F hr hj hx (h _ ⟨by simp, x1, rfl, rfl, hp, rfl, ⟨_, _, _, rfl⟩, q⟩) hg hd he hpl
theorem de_c2 {pre : α → β → Prop} {f : α → β → γ} (F : FnR X.prog X.w X.K X.mg X.base k x pl (sp2 pre f)) (hr : Room j X.A) (hj : k ≤ j) (hx : Passes CX0 X E0) (hg : Gl X x) (hd : (x == ("__debug__" : PySem.Str)) = false) (he : starEach (e :: es) X.env = (false, eval e X.env) :: starEach es X.env) (hpl : (backTo pos (starEach es X.env)).any (·.1) = false)
    {x1 : α} {x2 : β} (h : DA X env cs (e :: es) [.of x1, .of x2]) (hp : pre x1 x2) : DE X env cs (.Call (.Name x p) (e :: es) [] pos) (.of (f x1 x2)) := fun Φ q =>
  we_callR F hr hj hx (h _ ⟨by simp, x1, x2, rfl, rfl, hp, rfl, ⟨_, _, _, rfl⟩, q⟩) hg hd he hpl
theorem de_c3 {pre : α → β → γ → Prop} {f : α → β → γ → δ} (F : FnR X.prog X.w X.K X.mg X.base k x pl (sp3 pre f)) (hr : Room j X.A) (hj : k ≤ j) (hx : Passes CX0 X E0) (hg : Gl X x) (hd : (x == ("__debug__" : PySem.Str)) = false) (he : starEach (e :: es) X.env = (false, eval e X.env) :: starEach es X.env) (hpl : (backTo pos (starEach es X.env)).any (·.1) = false)
    {x1 : α} {x2 : β} {x3 : γ} (h : DA X env cs (e :: es) [.of x1, .of x2, .of x3]) (hp : pre x1 x2 x3) : DE X env cs (.Call (.Name x p) (e :: es) [] pos) (.of (f x1 x2 x3)) := fun Φ q =>
  we_callR F hr hj hx (h _ ⟨by simp, x1, x2, x3, rfl, rfl, hp, rfl, ⟨_, _, _, rfl⟩, q⟩) hg hd he hpl
theorem de_c4 {pre : α → β → γ → δ → Prop} {f : α → β → γ → δ → ε} (F : FnR X.prog X.w X.K X.mg X.base k x pl (sp4 pre f)) (hr : Room j X.A) (hj : k ≤ j) (hx : Passes CX0 X E0) (hg : Gl X x) (hd : (x == ("__debug__" : PySem.Str)) = false) (he : starEach (e :: es) X.env = (false, eval e X.env) :: starEach es X.env) (hpl : (backTo pos (starEach es X.env)).any (·.1) = false)
    {x1 : α} {x2 : β} {x3 : γ} {x4 : δ} (h : DA X env cs (e :: es) [.of x1, .of x2, .of x3, .of x4]) (hp : pre x1 x2 x3 x4) : DE X env cs (.Call (.Name x p) (e :: es) [] pos) (.of (f x1 x2 x3 x4)) := fun Φ q =>
  we_callR F hr hj hx (h _ ⟨by simp, x1, x2, x3, x4, rfl, rfl, hp, rfl, ⟨_, _, _, rfl⟩, q⟩) hg hd he hpl
end
/-- a name, by its place -/
theorem dv (i : Nat) {x : PySem.Str} (hN : X.N[i]? = some x) (h : env[i]? = some s) (hn : s ≠ .no) (hv : Vis X.env.scope x) (hd : (x == ("__debug__" : PySem.Str)) = false) (hcd : (x == ("__classdict__" : PySem.Str)) = false) :
    DE X env cs (.Name x pos) s := de_var i h hn hN hv hd hcd
theorem slot_ne {α : Type} [i : Enc α] {a : α} : Slot.of a ≠ .no := nofun
theorem slot_neC {j : Nat} : Slot.c j ≠ .no := nofun
/-! ### pure walks, comprehensions -/
/-- iter is walked: these items, nothing changes -/
def DI (X : Cx) (tg iter : Expr) (env : List Slot) (cs : List Cell) {α : Type} [Enc α] (xs : List α) : Prop := ∀ Φ : WantI, Φ (xs.map Slot.of) cs → WI X tg iter env cs Φ
def DTs (X : Cx) (env : List Slot) (cs : List Cell) (ifs : List Expr) (b : Bool) : Prop := ∀ Φ : WantB, Φ b cs → WTs X env cs ifs Φ
theorem dts_nil : DTs X env cs [] true := fun Φ q => wts_nil q
theorem dts_one {c : Expr} {b : Bool} (h : DT X env cs c b) : DTs X env cs [c] b := fun Φ q => wts_one (h Φ q)
section
variable {α β γ : Type} [Enc α] [Enc β] [Enc γ] {tg iter elt : Expr} {xs : List α} {ys : List β}
theorem filt_true {δ : Type} {l : List δ} : l.filter (fun _ => true) = l := List.filter_eq_self.mpr fun _ _ => rfl
theorem di_list (h : DE X env cs iter (.of xs)) : DI X tg iter env cs xs := fun Φ q => wi_list (h _ ⟨xs, rfl, q⟩)
theorem di_tup {xs : Tup α} (h : DE X env cs iter (.of xs)) : DI X tg iter env cs xs.l := fun Φ q => wi_tup (h _ ⟨xs, rfl, q⟩)
theorem di_range1 {j : Int} (hm : X.mg "range" = none) (h : DA X env cs [a] [.of j]) (h1 : j ≤ 16777216) (h2 : -(2 ^ 62) ≤ j) (hg : Gl X "range") (hs : starEach [a] X.env = [(false, eval a X.env)]) : DI X tg (.Call (.Name "range" p) [a] [] pos) env cs (rngL 0 j.toNat) :=
  fun Φ q => wi_range1 hm (h _ ⟨j, rfl, h1, h2, q⟩) hg hs
theorem di_range2 {i j : Int} (hm : X.mg "range" = none) (h : DA X env cs [a, b] [.of i, .of j]) (h1 : j - i ≤ 16777216) (h2 : -(2 ^ 62) ≤ i ∧ i < 2 ^ 62 ∧ -(2 ^ 62) ≤ j ∧ j < 2 ^ 62) (hg : Gl X "range")
    (hs : starEach [a, b] X.env = [(false, eval a X.env), (false, eval b X.env)]) (hs2 : starEach [b] X.env = [(false, eval b X.env)]) : DI X tg (.Call (.Name "range" p) [a, b] [] pos) env cs (rngL i (j - i).toNat) :=
  fun Φ q => wi_range2 hm (h _ ⟨i, j, rfl, h1, h2, q⟩) hg hs hs2
/-- (0, x), (1, y), .. -/
def enumL (xs : List α) : List (Int × α) := xs.zipIdx.map fun p => ((p.2 : Int), p.1)
theorem enum_len {xs : List α} : (enumL xs).length = xs.length := by simp [enumL]
theorem enum_get {xs : List α} {i : Nat} {y : Int × α} (h : (enumL xs)[i]? = some y) : xs[i]? = some y.2 ∧ y.1 = (i : Int) := by
  simp only [enumL, List.getElem?_map, List.getElem?_zipIdx, Option.map_map] at h
  cases e : xs[i]? with
  | none => rw [e] at h; cases h
  | some x => rw [e] at h; simp at h; subst h; exact ⟨rfl, rfl⟩
theorem wi_enum {elts : List Expr} {kk : Nat} {tpos : Pos'} {Φ : WantI} (hm : X.mg "enumerate" = none) (h : WA X env cs [a] fun ss cs' => ∃ xs : List α, ss = [.of xs] ∧ xs.length ≤ sizeLine ∧ Φ ((enumL xs).map Slot.of) cs') (hg : Gl X "enumerate") (hs : starEach [a] X.env = [(false, eval a X.env)]) :
    WI X (.Tuple elts kk tpos) (.Call (.Name "enumerate" p) [a] [] pos) env cs Φ := fun M0 B σ M H ps S R p =>
  wi_of (pi_enum hg hm pa_wa hs) (h M0 B σ M H ps S _ fun vs ss M' H' ps' cs' q S' e f ok => by
    obtain ⟨xs, rfl, hl, q⟩ := q
    cases ok with
    | cons r ok =>
      cases ok
      obtain ⟨ad, ws, rfl, h1, h2⟩ := r
      refine ⟨ad, ws, rfl, S'.mh.sl h1, p _ _ M' H' ps' cs' q S' e f ⟨by rw [List.length_map, enum_len]; exact hl, fun i M1 H1 hi e1 g1 => ?_, fun M1 H1 e1 g1 => ⟨ws, g1.sl (e1.sl h1), by rw [List.length_map, enum_len, h2.len]; exact Nat.le_refl _⟩, fun i M1 H1 x H2 s hss e1 g1 hy => ?_⟩⟩
      · rw [List.length_map, enum_len, ← h2.len] at hi
        exact ⟨ws, ws[i], g1.sl (e1.sl h1), by simp [hi]⟩
      · obtain ⟨T, y, rfl, hT, rfl, hy⟩ := hy
        obtain ⟨z, hz, rfl⟩ := slots_get hss
        obtain ⟨hz1, hz2⟩ := enum_get hz
        obtain ⟨v, hv1, hv2⟩ := h2.get hz1
        have := hy ws (g1.sl (e1.sl h1))
        rw [hv1] at this
        cases this
        have hTM : M1 T = none := g1.back hT
        refine ⟨upd M1 T (.tup [.int (i : Nat), y]), Ex.nw hTM, Ex.nw hT, g1.upd2 T _, fun q h3 h4 => ?_, T, _, _, rfl, upd_st, by rw [hz2]; rfl, Enc.mono (e1.trans (Ex.nw hTM)) hv2⟩
        have : q ≠ T := fun z => h3 (by rw [z]; exact hT)
        rw [upd_ne this]; exact h4)
theorem di_enum {elts : List Expr} {kk : Nat} {tpos : Pos'} (hm : X.mg "enumerate" = none) (h : DA X env cs [a] [.of xs]) (hl : xs.length ≤ sizeLine) (hg : Gl X "enumerate") (hs : starEach [a] X.env = [(false, eval a X.env)]) : DI X (.Tuple elts kk tpos) (.Call (.Name "enumerate" p) [a] [] pos) env cs (enumL xs) :=
  fun Φ q => wi_enum hm (h _ ⟨xs, rfl, hl, q⟩) hg hs
theorem zip_get {xs : List α} {ys : List β} {i : Nat} {z : α × β} (h : (xs.zip ys)[i]? = some z) : xs[i]? = some z.1 ∧ ys[i]? = some z.2 := by
  rw [List.getElem?_zip_eq_some] at h
  exact h
theorem wi_zip {elts : List Expr} {kk : Nat} {tpos : Pos'} {Φ : WantI} (hm : X.mg "zip" = none) (h : WA X env cs [a, b] fun ss cs' => ∃ (xs : List α) (ys : List β), ss = [.of xs, .of ys] ∧ xs.length ≤ sizeLine ∧ Φ ((xs.zip ys).map Slot.of) cs') (hg : Gl X "zip")
    (hs : starEach [a, b] X.env = (false, eval a X.env) :: starEach [b] X.env) (hpl : (backTo pos (starEach [b] X.env)).any (·.1) = false) :
    WI X (.Tuple elts kk tpos) (.Call (.Name "zip" p) [a, b] [] pos) env cs Φ := fun M0 B σ M H ps S R p =>
  wi_of (pi_zip hg hm pa_wa hs hpl) (h M0 B σ M H ps S _ fun vs ss M' H' ps' cs' q S' e f ok => by
    obtain ⟨xs, ys, rfl, hl, q⟩ := q
    cases ok with
    | cons r ok =>
      cases ok with
      | cons r2 ok =>
        cases ok
        obtain ⟨ad, ws, rfl, h1, h2⟩ := r
        obtain ⟨bd, us, rfl, k1, k2⟩ := r2
        have hzl : (xs.zip ys).length = min xs.length ys.length := List.length_zip
        refine ⟨ad, bd, ws, us, rfl, S'.mh.sl h1, S'.mh.sl k1, p _ _ M' H' ps' cs' q S' e f ⟨by rw [List.length_map, hzl]; exact Nat.le_trans (Nat.min_le_left _ _) hl, fun i M1 H1 hi e1 g1 => ?_, fun M1 H1 e1 g1 => ⟨ws, us, g1.sl (e1.sl h1), g1.sl (e1.sl k1), by rw [List.length_map, hzl, h2.len, k2.len]; omega⟩, fun i M1 H1 x H2 s hss e1 g1 hy => ?_⟩⟩
        · rw [List.length_map, hzl, ← h2.len, ← k2.len] at hi
          have i1 : i < ws.length := by omega
          have i2 : i < us.length := by omega
          exact ⟨ws, us, ws[i], us[i], g1.sl (e1.sl h1), g1.sl (e1.sl k1), by simp [i1], by simp [i2]⟩
        · obtain ⟨T, y, y2, rfl, hT, rfl, hy, hy2⟩ := hy
          obtain ⟨z, hz, rfl⟩ := slots_get hss
          obtain ⟨hz1, hz2⟩ := zip_get hz
          obtain ⟨v, hv1, hv2⟩ := h2.get hz1
          obtain ⟨v', hv1', hv2'⟩ := k2.get hz2
          have := hy ws (g1.sl (e1.sl h1))
          rw [hv1] at this
          cases this
          have := hy2 us (g1.sl (e1.sl k1))
          rw [hv1'] at this
          cases this
          have hTM : M1 T = none := g1.back hT
          refine ⟨upd M1 T (.tup [y, y2]), Ex.nw hTM, Ex.nw hT, g1.upd2 T _, fun q h3 h4 => ?_, T, _, _, rfl, upd_st, Enc.mono (e1.trans (Ex.nw hTM)) hv2, Enc.mono (e1.trans (Ex.nw hTM)) hv2'⟩
          have : q ≠ T := fun z => h3 (by rw [z]; exact hT)
          rw [upd_ne this]; exact h4)
theorem di_zip {elts : List Expr} {kk : Nat} {tpos : Pos'} (hm : X.mg "zip" = none) (h : DA X env cs [a, b] [.of xs, .of ys]) (hl : xs.length ≤ sizeLine) (hg : Gl X "zip") (hs : starEach [a, b] X.env = (false, eval a X.env) :: starEach [b] X.env) (hpl : (backTo pos (starEach [b] X.env)).any (·.1) = false) :
    DI X (.Tuple elts kk tpos) (.Call (.Name "zip" p) [a, b] [] pos) env cs (xs.zip ys) := fun Φ q => wi_zip hm (h _ ⟨xs, ys, rfl, hl, q⟩) hg hs hpl
/-- the turn of a pure comprehension -/
def LcP (X : Cx) (env : List Slot) (cs : List Cell) (elt tg : Expr) (ifs : List Expr) (scope : Scope) (vs is : List Nat) (x : α) (p : Bool) (y : β) : Prop :=
  Blk X scope fun Y => WG Y is tg (.of x) (wipeE env vs) cs fun env2 cs2 => cs2 = cs ∧ (Blk X scope fun Y => DTs Y env2 cs ifs p) ∧ (p = true → Blk X scope fun Y => DE Y env2 cs elt (.of y))
theorem lc_pure {xs : List α} {ifs : List Expr} {scope : Scope} {vs is : List Nat} {f : α → β} {p : α → Bool} (h : ∀ x ∈ xs, LcP X env cs elt tg ifs scope vs is x (p x) (f x)) (q : Φ (.of ((xs.filter p).map f)) cs) : LcD X env elt tg ifs scope vs is (xs.map Slot.of) cs Φ := by
  refine ⟨β, inferInstance, fun i acc cs' => acc = ((xs.take i).filter p).map f ∧ cs' = cs, ⟨by simp, rfl⟩, ?_, ?_⟩
  · rintro i acc cs' s hs ⟨rfl, rfl⟩
    obtain ⟨x, hx, rfl⟩ := slots_get hs
    have hm : x ∈ xs := List.mem_of_getElem? hx
    intro bs bH bC bcl bfp M0 B σ M H ps S v ok Q k
    refine h x hm bs bH bC bcl bfp M0 B σ M H ps S v ok Q fun σ' M' H' ps' env' cs' ⟨e1, e2, e3⟩ => k σ' M' H' ps' env' cs' ?_
    subst e1
    intro cs1 cH cC ccl cfp
    have ht : xs.take (i + 1) = xs.take i ++ [x] := by rw [List.take_add_one, hx]; rfl
    refine e2 cs1 cH cC ccl cfp _ ?_
    cases hp : p x with
    | false =>
      rw [if_neg Bool.false_ne_true]
      refine ⟨?_, rfl⟩
      rw [ht, List.filter_append, List.filter_cons, hp]
      simp
    | true =>
      rw [if_pos rfl]
      intro ds dH dC dcl dfp
      refine e3 hp ds dH dC dcl dfp _ ⟨f x, rfl, ?_, rfl⟩
      rw [ht, List.filter_append, List.filter_cons, hp]
      simp
  · rintro acc cs' ⟨rfl, rfl⟩
    rw [List.length_map, List.take_length]
    exact q
theorem de_lc {ifs : List Expr} {scope : Scope} (own : List (PySem.Str × Nat)) {is : List Nat} {f : α → β} {p : α → Bool} (hi : DI X tg iter env cs xs) (h : ∀ x ∈ xs, LcP X env cs elt tg ifs scope (own.map (·.2)) is x (p x) (f x)) (hs : ∀ i ∈ is, i ∈ own.map (·.2)) (hc : X.calm = true) (hN : X.N.Nodup) (ok : BlkOk X.N X.env.scope scope own)
    (hf : ∀ x, foldedSetIterable iter X.env x = pure x) : DE X env cs (.ListComp elt [⟨tg, iter, ifs, 0⟩] scope pos) (.of ((xs.filter p).map f)) := fun Φ q => we_lc hs hc hN ok (hi _ (lc_pure h q)) hf
theorem de_lc0 {scope : Scope} (own : List (PySem.Str × Nat)) {is : List Nat} {f : α → β} (hi : DI X tg iter env cs xs) (h : ∀ x ∈ xs, LcP X env cs elt tg [] scope (own.map (·.2)) is x true (f x)) (hs : ∀ i ∈ is, i ∈ own.map (·.2)) (hc : X.calm = true) (hN : X.N.Nodup) (ok : BlkOk X.N X.env.scope scope own)
    (hf : ∀ x, foldedSetIterable iter X.env x = pure x) : DE X env cs (.ListComp elt [⟨tg, iter, [], 0⟩] scope pos) (.of (xs.map f)) := fun Φ q => we_lc hs hc hN ok (hi _ (lc_pure (p := fun _ => true) h (by rw [filt_true]; exact q))) hf
/-- name = [..] -/
theorem w1_lc {D : EndsD} {ifs : List Expr} {scope : Scope} (own : List (PySem.Str × Nat)) (i : Nat) {spos py : Pos'} {y : PySem.Str} {is : List Nat} {f : α → β} {p : α → Bool} (hi : DI X tg iter env cs xs) (h : ∀ x ∈ xs, LcP X env cs elt tg ifs scope (own.map (·.2)) is x (p x) (f x)) (q : D.nx (env.set i (.of ((xs.filter p).map f))) cs)
    (hs : ∀ i ∈ is, i ∈ own.map (·.2)) (hc : X.calm = true) (hN : X.N.Nodup) (hy : X.N[i]? = some y) (hyl : X.env.scope.names.lookup y = some .local) (hsw : swapsWith (.ListComp elt [⟨tg, iter, ifs, 0⟩] scope pos) (some (.Name y py)) spos.line X.env = pure true)
    (ok : BlkOk X.N X.env.scope scope own) (hf : ∀ x, foldedSetIterable iter X.env x = pure x) : W1 X (.Assign [.Name y py] (.ListComp elt [⟨tg, iter, ifs, 0⟩] scope pos) spos) env cs D := w1_setLc i hs hc hN hy hyl hsw ok (hi _ (lc_pure h q)) hf
theorem w1_lc0 {D : EndsD} {scope : Scope} (own : List (PySem.Str × Nat)) (i : Nat) {spos py : Pos'} {y : PySem.Str} {is : List Nat} {f : α → β} (hi : DI X tg iter env cs xs) (h : ∀ x ∈ xs, LcP X env cs elt tg [] scope (own.map (·.2)) is x true (f x)) (q : D.nx (env.set i (.of (xs.map f))) cs)
    (hs : ∀ i ∈ is, i ∈ own.map (·.2)) (hc : X.calm = true) (hN : X.N.Nodup) (hy : X.N[i]? = some y) (hyl : X.env.scope.names.lookup y = some .local) (hsw : swapsWith (.ListComp elt [⟨tg, iter, [], 0⟩] scope pos) (some (.Name y py)) spos.line X.env = pure true)
    (ok : BlkOk X.N X.env.scope scope own) (hf : ∀ x, foldedSetIterable iter X.env x = pure x) : W1 X (.Assign [.Name y py] (.ListComp elt [⟨tg, iter, [], 0⟩] scope pos) spos) env cs D := w1_setLc i hs hc hN hy hyl hsw ok (hi _ (lc_pure (p := fun _ => true) h (by rw [filt_true]; exact q))) hf
end
/-! ### lists glued, cut -/
theorem cut_rep {α : Type} [Enc α] {vs : List V} {xs : List α} (r : Pr (Enc.rep K M) vs xs) (lo hi : Option Int) : Pr (Enc.rep K M) (cutV vs lo hi) ((xs.drop (HT.sIx xs.length 0 lo)).take (HT.sIx xs.length xs.length hi - HT.sIx xs.length 0 lo)) := by
  unfold cutV
  rw [r.len]
  exact (r.drop _).take _
def cutL {α : Type} (xs : List α) (lo hi : Option Int) : List α := (xs.drop (HT.sIx xs.length 0 lo)).take (HT.sIx xs.length xs.length hi - HT.sIx xs.length 0 lo)
def Wo (X : Cx) (e : Option Expr) : TO := fun σ H Q => ∃ t, PO X e t ∧ t σ H Q
theorem po_w {e : Option Expr} : PO X e (Wo X e) := ⟨fun pins s σ H Q I ⟨t, h, q⟩ => h.run pins s σ H Q I q⟩
def DO (X : Cx) (env : List Slot) (cs : List Cell) (e : Option Expr) (o : Option Int) : Prop := match e with
  | none => o = none
  | some e => ∃ i : Int, o = some i ∧ DE X env cs e (.of i)
theorem do_none : DO X env cs none none := rfl
theorem do_some {i : Int} (h : DE X env cs e (.of i)) : DO X env cs (some e) (some i) := ⟨i, rfl, h⟩
theorem DO.run {e : Option Expr} {o : Option Int} (h : DO X env cs e o) (S : Sta X.K M0 B σ M H env ps cs) {Q : Option Int → Hp → Prop} (p : ∀ M' H' ps', Sta X.K M0 B σ M' H' env ps' cs → Ex M M' → Pre ps ps' → Q o H') : Wo X e σ H Q := by
  cases e with
  | none => cases h; exact ⟨_, po_none, p M H ps S (Ex.refl _) (Pre.refl _)⟩
  | some e =>
    obtain ⟨i, rfl, h⟩ := h
    exact ⟨_, po_some pe_wp, h.run S fun v M' H' ps' S' e f ok => ⟨i, ok, p M' H' ps' S' e f⟩⟩
theorem de_cut {α : Type} [Enc α] {xs : List α} {lo hi : Option Expr} {l h : Option Int} {p2 : Pos'} (ha : DE X env cs a (.of xs)) (hl : DO X env cs lo l) (hh : DO X env cs hi h) : DE X env cs (.Subscript a (.Slice lo hi none p2) pos) (.of (cutL xs l h)) := fun Φ q M0 B σ M H ps S Q p =>
  wp_of (pe_slice sl_list pe_wp po_w po_w) (ha.run S fun v M1 H1 ps1 S1 e1 f1 ok => hl.run S1 fun M2 H2 ps2 S2 e2 f2 => hh.run S2 fun M3 H3 ps3 S3 e3 f3 => by
    obtain ⟨ad, ws, rfl, g1, g2⟩ := ok
    have e23 := e2.trans e3
    exact ⟨ad, ws, rfl, S3.mh.sl (e23.sl g1), fun l hl => (p.on (e1.trans e23) ((f1.trans f2).trans f3)).new S3 hl q ⟨l, _, rfl, upd_sq, cut_rep (g2.imp fun _ _ => Enc.mono (e23.trans (Ex.nw (S3.mh.back hl)))) _ _⟩⟩)
end
end DL

set_option Elab.async false
set_option linter.all false
set_option maxRecDepth 100000
set_option maxHeartbeats 2000000
/-! DL7: glued lists; objects of one's own: lists, dicts, instances. -/
namespace DL
open PySem PyProof.Rows L2
section
variable {X : Cx} {K : Fg} {M0 B M M' H H' : Hp} {σ : L2.St} {env : List Slot} {ps : List Addr} {cs : List Cell} {s s1 s2 : Slot} {e a b o : Expr} {es : List Expr} {k j : Nat} {x : PySem.Str} {p pos apos cpos : Pos'} {Φ : Want} {ss : List Slot} {D : EndsD}
/-! ### glued lists, tuples -/
def rCatS (K : Fg) : R2 := fun x y H Q => ∃ l b xs zs, x = .ref l ∧ y = .ref b ∧ SqL K H l xs ∧ SqL K H b zs ∧ xs.length + zs.length ≤ sizeLine ∧ ∀ p, H p = none → Q (.ref p) (upd H p (.lst (xs ++ zs)))
theorem op_catS : OpR X (binaryOp .Add) (rCatS X.K) := by
  intro pins s σ H x y v u Q I rx ry h
  obtain ⟨l, b, xs, zs, rfl, rfl, hH, hB, hz, q⟩ := h
  cases rx
  cases ry
  obtain ⟨its, r, ⟨⟨c1, d1, t1, sl1⟩, n, ho, hc, hd, hs⟩, z⟩ := I.list hH
  obtain ⟨its2, r2, ⟨⟨c2, d2, t2, sl2⟩, n2, ho2, hc2, hd2, hs2⟩, z2⟩ := I.list hB
  simp only at hc hd hs hc2 hd2 hs2
  subst hc hd hs hc2 hd2 hs2
  have l1 := r.length
  have l2 := r2.length
  have e : its.toArray ++ its2.toArray = (its ++ its2).toArray := by simp
  refine concat_meets ⟨_, ho, rfl⟩ ⟨_, ho2, rfl⟩ noFill_list_add seq_list_add PySem.F.slot_list_add PySem.F.entry_list_add (PySem.F.args_list_add_2 _ _) (list_addW l b its.toArray its2.toArray n n2 none none sl1 sl2 (by rw [List.size_toArray, List.size_toArray]; omega)) ⟨ho, ho2, ?_⟩
  rw [e]
  exact ⟨.ref _, _, I.lnew (t' := s.toks) (r.append r2) (by rw [List.length_append]; omega), rfl, q _ I.fresh⟩
theorem b_catL {α : Type} {i : Enc α} {xs ys : List α} (h : xs.length + ys.length ≤ sizeLine) : BinD X .Add (.of xs) (.of ys) (.of (xs ++ ys)) := .mk op_catS fun M0 B σ M H env ps cs S v1 v2 h1 h2 Q p => by
  obtain ⟨a, vs, rfl, g1, g2⟩ := h1
  obtain ⟨b, us, rfl, k1, k2⟩ := h2
  exact ⟨a, b, vs, us, rfl, rfl, S.mh.sl g1, S.mh.sl k1, by rw [g2.len, k2.len]; exact h, fun l hl => p _ _ _ (S.new hl) (Ex.nw (S.mh.back hl)) ⟨l, _, rfl, upd_sq, (g2.app k2).imp fun _ _ => Enc.mono (Ex.nw (S.mh.back hl))⟩⟩
theorem b_catS {i j : PySem.Str} (h : i.length + j.length ≤ sizeLine) : BinD X .Add (.of i) (.of j) (.of (i ++ j)) := .mk op_add_str fun M0 B σ M H env ps cs S v1 v2 h1 h2 Q p => ⟨i, j, h1, h2, h, p _ M H S (Ex.refl _) rfl⟩
/-! ### own lists -/
theorem we_nil (α : Type) [i : Enc α] (h : Φ (.c cs.length) (cs ++ [.tl α i []])) : WE X env cs (.List [] pos) Φ := we_lstC (wa_nil ⟨_, ⟨Nat.zero_le _, fun M ps vs r => by cases r; exact ⟨[], rfl, .nil⟩⟩, h⟩)
theorem sta_tl {α : Type} {i : Enc α} {xs ys : List α} {n : Nat} (S : Sta K M0 B σ M H env ps cs) (hc : cs[n]? = some (.tl α i xs)) {q : Addr} (hq : ps[n]? = some q) {ws : List V} (r : Pr (i.rep K M) ws ys) : Sta K M0 B σ M (upd H q (.lst ws)) env ps (cs.set n (.tl α i ys)) :=
  S.write hq hc (fun z => nomatch z) ⟨ws, rfl, r⟩
theorem tyV_tl {α : Type} {i : Enc α} {xs : List α} {n : Nat} (S : Sta K M0 B σ M H env ps cs) (hc : cs[n]? = some (.tl α i xs)) {v : V} (h : SlotOk K M ps (.c n) v) : tyV K "list" v H := by
  obtain ⟨p, vs, rfl, _, h1, h2⟩ := cell_tl S hc h
  exact .inl ⟨rfl, vs, .inl (.inl h1)⟩
theorem we_append (n : Nat) {α : Type} {i : Enc α} {xs0 : List α} (hc0 : cs[n]? = some (.tl α i xs0)) (ho : DE X env cs o (.c n)) (h : WE X env cs e fun s2 cs2 => ∃ (xs : List α) (x : α), cs2[n]? = some (.tl α i xs) ∧ s2 = .d α i x ∧ xs.length < sizeLine ∧ Φ (.of ()) (cs2.set n (.tl α i (xs ++ [x]))))
    (hbase : attributeBase o "append" X.env (eval o X.env) = eval o X.env)
    (hfew : ((backTo cpos (starEach [e] X.env)).all (fun x => !x.1) && (backToKw cpos (keywordEach [] X.env)).all (fun x => x.1.isSome) && decide ([e].length + ([] : List Keyword).length + (if ([] : List Keyword).isEmpty then 0 else 1) < 30)) = true)
    (hline : (apos.endLine == cpos.line) = true) (hs : starEach [e] X.env = (false, eval e X.env) :: starEach [] X.env) (hpl : (backTo cpos (starEach [] X.env)).any (·.1) = false) : WE X env cs (.Call (.Attribute o "append" apos) [e] [] cpos) Φ := fun M0 B σ M H ps S Q p =>
  wp_of (pe_bm PySem.F.plainAttrs_list PySem.F.slot_list_append PySem.F.type_list_append mt_append pe_wp (pa_cons pe_wp pa_nil hs) hbase hfew hline hs hpl) (ho.run S fun v M1 H1 ps1 S1 e1 f1 ok => by
    refine ⟨tyV_tl S1 hc0 ok, h M0 B σ M1 H1 ps1 S1 _ fun v2 s2 M2 H2 ps2 cs2 q S2 e2 f2 ok2 => ?_⟩
    obtain ⟨xs, x, hc, rfl, hl, q⟩ := q
    obtain ⟨l, ws, rfl, g1, g2, g3⟩ := cell_tl S2 hc (ok.mono e2 f2)
    exact ⟨l, ws, v2, rfl, rfl, g2, by rw [g3.len]; exact hl, p _ _ M2 _ ps2 _ q (sta_tl S2 hc g1 (g3.snoc ok2)) (e1.trans e2) (f1.trans f2) rfl⟩)
theorem insAt_take {α β : Type} {F : α → β → Prop} {l : List α} {m : List β} (h : Pr F l m) {a : α} {b : β} (q : F a b) (n : Nat) : Pr F (l.take n ++ [a] ++ l.drop n) (m.take n ++ [b] ++ m.drop n) := ((h.take n).app (.cons q .nil)).app (h.drop n)
theorem we_insert (n : Nat) {α : Type} {i : Enc α} {xs0 : List α} (hc0 : cs[n]? = some (.tl α i xs0)) (ho : DE X env cs o (.c n)) (h : WA X env cs [a, b] fun ss cs2 => ∃ (xs : List α) (x : α) (z : Int), cs2[n]? = some (.tl α i xs) ∧ ss = [.of z, .d α i x] ∧ xs.length < sizeLine ∧ 0 ≤ z ∧ z < 2 ^ 63 ∧ Φ (.of ()) (cs2.set n (.tl α i (xs.take z.toNat ++ [x] ++ xs.drop z.toNat))))
    (hbase : attributeBase o "insert" X.env (eval o X.env) = eval o X.env)
    (hfew : ((backTo cpos (starEach [a, b] X.env)).all (fun x => !x.1) && (backToKw cpos (keywordEach [] X.env)).all (fun x => x.1.isSome) && decide ([a, b].length + ([] : List Keyword).length + (if ([] : List Keyword).isEmpty then 0 else 1) < 30)) = true)
    (hline : (apos.endLine == cpos.line) = true) (hs : starEach [a, b] X.env = (false, eval a X.env) :: starEach [b] X.env) (hpl : (backTo cpos (starEach [b] X.env)).any (·.1) = false) : WE X env cs (.Call (.Attribute o "insert" apos) [a, b] [] cpos) Φ := fun M0 B σ M H ps S Q p =>
  wp_of (pe_bm PySem.F.plainAttrs_list PySem.F.slot_list_insert PySem.F.type_list_insert mt_insert pe_wp pa_wa hbase hfew hline hs hpl) (ho.run S fun v M1 H1 ps1 S1 e1 f1 ok => by
    refine ⟨tyV_tl S1 hc0 ok, h M0 B σ M1 H1 ps1 S1 _ fun vs ss M2 H2 ps2 cs2 q S2 e2 f2 ok2 => ?_⟩
    obtain ⟨xs, x, z, hc, rfl, hl, h0, h1, q⟩ := q
    obtain ⟨l, ws, rfl, g1, g2, g3⟩ := cell_tl S2 hc (ok.mono e2 f2)
    cases ok2 with
    | cons r1 ok2 =>
      cases ok2 with
      | cons r2 ok2 =>
        cases ok2
        exact ⟨l, ws, z, _, rfl, by rw [show _ = _ from r1], g2, by rw [g3.len]; exact hl, h0, h1, p _ _ M2 _ ps2 _ q (sta_tl S2 hc g1 (insAt_take g3 r2 _)) (e1.trans e2) (f1.trans f2) rfl⟩)
/-! ### own dicts -/
section
variable {κ : Type} [DecidableEq κ]
def valS (kvs : List (κ × Slot)) (k : κ) : Option Slot := (kvs.find? fun kv => decide (kv.1 = k)).map (·.2)
def putS (kvs : List (κ × Slot)) (k : κ) (v : Slot) : List (κ × Slot) := if kvs.any (fun kv => decide (kv.1 = k)) then kvs.map fun kv => if kv.1 = k then (kv.1, v) else kv else kvs ++ [(k, v)]
abbrev KvOk (K : Fg) (M : Hp) (ps : List Addr) : κ × V → κ × Slot → Prop := fun w s => w.1 = s.1 ∧ SlotOk K M ps s.2 w.2
theorem kv_val {ws : List (κ × V)} {kvs : List (κ × Slot)} (r : Pr (KvOk K M ps) ws kvs) (k : κ) : match valS kvs k with
    | some s => ∃ v, valV ws k = some v ∧ SlotOk K M ps s v
    | none => valV ws k = none := by
  induction r with
  | nil => rfl
  | @cons w t l m q _ ih =>
    obtain ⟨q1, q2⟩ := q
    unfold valS valV at ih ⊢
    rw [List.find?_cons, List.find?_cons, q1]
    cases h : decide (t.1 = k) with
    | true => exact ⟨w.2, rfl, q2⟩
    | false => exact ih
theorem kv_get {ws : List (κ × V)} {kvs : List (κ × Slot)} (r : Pr (KvOk K M ps) ws kvs) {k : κ} {s : Slot} (h : valS kvs k = some s) : ∃ v, valV ws k = some v ∧ SlotOk K M ps s v := by
  have q := kv_val r k
  rw [h] at q
  exact q
theorem kv_any {ws : List (κ × V)} {kvs : List (κ × Slot)} (r : Pr (KvOk K M ps) ws kvs) (k : κ) : (ws.any fun kv => decide (kv.1 = k)) = kvs.any fun kv => decide (kv.1 = k) := by
  induction r with
  | nil => rfl
  | @cons w t l m q _ ih => rw [List.any_cons, List.any_cons, ih, q.1]
theorem kv_put {ws : List (κ × V)} {kvs : List (κ × Slot)} (r : Pr (KvOk K M ps) ws kvs) {k : κ} {s : Slot} {v : V} (h : SlotOk K M ps s v) : Pr (KvOk K M ps) (putK ws k v) (putS kvs k s) := by
  unfold putK putS
  rw [kv_any r k]
  split
  · rename_i hh
    clear hh
    induction r with
    | nil => exact .nil
    | @cons w t l m q _ ih =>
      rw [List.map_cons, List.map_cons]
      refine .cons ?_ ih
      rw [q.1]
      split
      · exact ⟨rfl, h⟩
      · exact ⟨q.1, q.2⟩
  · exact r.snoc ⟨rfl, h⟩
end
theorem cell_dk {kvs : List (Key × Slot)} {n : Nat} (S : Sta K M0 B σ M H env ps cs) (hc : cs[n]? = some (.dk kvs)) {v : V} (h : SlotOk K M ps (.c n) v) : ∃ p ws, v = .ref p ∧ ps[n]? = some p ∧ H p = some (.dK ws) ∧ Pr (KvOk K M ps) ws kvs := by
  obtain ⟨p, h1, rfl⟩ := h
  obtain ⟨p', o, g1, g2, g3, g4, vs, rfl, g5⟩ := S.cell hc (fun z => nomatch z)
  rw [h1] at g1
  cases g1
  exact ⟨p, vs, rfl, h1, g4, g5⟩
/-- how a slot's value is a key -/
def IsKey (K : Fg) (s : Slot) (k : Key) : Prop := ∀ M ps v, SlotOk K M ps s v → v = kV k
theorem key_int {i : Int} : IsKey K (.of i) (.inl i) := fun M ps v h => h
theorem key_str {i : PySem.Str} : IsKey K (.of i) (.inr i) := fun M ps v h => h
theorem we_dgetC {kvs : List (Key × Slot)} {n : Nat} {key : Key} (hr : Room k X.A) (hc : cs[n]? = some (.dk kvs)) (ho : DE X env cs o (.c n)) (ha : DE X env cs a s1) (hk : IsKey X.K s1 key) (hg : valS kvs key = some s) (hs : NoSl a) : DE X env cs (.Subscript o a pos) s := fun Φ q M0 B σ M H ps S Q p =>
  wp_of (pe_dget (hu_of hr) pe_wp pe_wp hs) (ho.run S fun v M1 H1 ps1 S1 e1 f1 ok => ha.run S1 fun v2 M2 H2 ps2 S2 e2 f2 ok2 => by
    obtain ⟨d, ws, rfl, g1, g2, g3⟩ := cell_dk S2 hc (ok.mono e2 f2)
    obtain ⟨y, hy, oky⟩ := kv_get g3 hg
    rw [hk _ _ _ ok2]
    exact ⟨d, y, rfl, .inl ⟨ws, key, .inl g2, rfl, hy.symm⟩, p y s M2 H2 ps2 cs q S2 (e1.trans e2) (f1.trans f2) oky⟩)
theorem w1_dputC {n : Nat} {key : Key} {pos' : Pos'} (hr : Room k X.A) (h : WE X env cs e fun sv cs1 => ∃ kvs s1, cs1[n]? = some (.dk kvs) ∧ DE X env cs1 o (.c n) ∧ DE X env cs1 a s1 ∧ IsKey X.K s1 key ∧ kvs.length < sizeLine ∧ D.nx env (cs1.set n (.dk (putS kvs key sv)))) (hs : swapsWith e (some (.Subscript o a pos')) pos.line X.env = pure false) :
    W1 X (.Assign [.Subscript o a pos'] e pos) env cs D := fun M0 B σ M H ps S D' p =>
  ws1_of (ps_dput (hu_of hr) pe_wp pe_wp pe_wp hs) (h M0 B σ M H ps S _ fun v sv M1 H1 ps1 cs1 q S1 e1 f1 ok => by
    obtain ⟨kvs, s1, hc, ho, ha, hk, hl, q⟩ := q
    refine ho.run S1 fun v2 M2 H2 ps2 S2 e2 f2 ok2 => ha.run S2 fun v3 M3 H3 ps3 S3 e3 f3 ok3 => ?_
    obtain ⟨d, ws, rfl, g1, g2, g3⟩ := cell_dk S3 hc (ok2.mono e3 f3)
    rw [hk _ _ _ ok3]
    refine ⟨d, _, rfl, DPut.k g2 (by rw [g3.len]; exact hl), p.nx σ M3 _ env ps3 _ q (S3.write g1 hc (fun z => nomatch z) ⟨_, rfl, kv_put g3 (ok.mono (e2.trans e3) (f2.trans f3))⟩) ((e1.trans e2).trans e3) ((f1.trans f2).trans f3)⟩)
/-! ### instances -/
def lookS (fs : List (PySem.Str × Slot)) (f : PySem.Str) : Option Slot := fs.lookup f
def putFS (f : PySem.Str) (v : Slot) : List (PySem.Str × Slot) → List (PySem.Str × Slot)
  | [] => [(f, v)]
  | (g, x) :: r => if g = f then (g, v) :: r else (g, x) :: putFS f v r
theorem fs_get {ws : List (PySem.Str × V)} {fs : List (PySem.Str × Slot)} (r : Pr (KvOk K M ps) ws fs) {f : PySem.Str} {s : Slot} (h : fs.lookup f = some s) : ∃ v, ws.lookup f = some v ∧ SlotOk K M ps s v := by
  induction r with
  | nil => cases h
  | @cons w t l m q _ ih =>
    obtain ⟨a, b⟩ := w
    obtain ⟨c, d⟩ := t
    obtain ⟨q1, q2⟩ := q
    cases q1
    rw [List.lookup_cons] at h ⊢
    cases hb : f == a with
    | true => rw [hb] at h; cases h; exact ⟨b, rfl, q2⟩
    | false => rw [hb] at h; exact ih h
theorem fs_none {ws : List (PySem.Str × V)} {fs : List (PySem.Str × Slot)} (r : Pr (KvOk K M ps) ws fs) {f : PySem.Str} (h : fs.lookup f = none) : ws.lookup f = none := by
  induction r with
  | nil => rfl
  | @cons w t l m q _ ih =>
    obtain ⟨a, b⟩ := w
    obtain ⟨c, d⟩ := t
    obtain ⟨q1, q2⟩ := q
    cases q1
    rw [List.lookup_cons] at h ⊢
    cases hb : f == a with
    | true => rw [hb] at h; cases h
    | false => rw [hb] at h; exact ih h
theorem fs_put {ws : List (PySem.Str × V)} {fs : List (PySem.Str × Slot)} (r : Pr (KvOk K M ps) ws fs) {f : PySem.Str} {s : Slot} {v : V} (h : SlotOk K M ps s v) : Pr (KvOk K M ps) (putF f v ws) (putFS f s fs) := by
  induction r with
  | nil => exact .cons ⟨rfl, h⟩ .nil
  | @cons w t l m q rr ih =>
    obtain ⟨a, b⟩ := w
    obtain ⟨c, d⟩ := t
    obtain ⟨q1, q2⟩ := q
    cases q1
    show Pr _ (if a = f then (a, v) :: l else (a, b) :: putF f v l) (if a = f then (a, s) :: m else (a, d) :: putFS f s m)
    split
    · exact .cons ⟨rfl, h⟩ rr
    · exact .cons ⟨rfl, q2⟩ ih
theorem cell_ins {C : Addr} {fs : List (PySem.Str × Slot)} {n : Nat} (S : Sta K M0 B σ M H env ps cs) (hc : cs[n]? = some (.ins C fs)) {v : V} (h : SlotOk K M ps (.c n) v) : ∃ p dx ws, v = .ref p ∧ ps[n]? = some p ∧ H p = some (.ins C dx ws) ∧ Pr (KvOk K M ps) ws fs := by
  obtain ⟨p, h1, rfl⟩ := h
  obtain ⟨p', o, g1, g2, g3, g4, dx, vs, rfl, g5⟩ := S.cell hc (fun z => nomatch z)
  rw [h1] at g1
  cases g1
  exact ⟨p, dx, vs, rfl, h1, g4, g5⟩
theorem de_fld {C : Addr} {fs : List (PySem.Str × Slot)} {n : Nat} {f : PySem.Str} (c : Cls X.K C) (na : NoAttr X.K C f) (hc : cs[n]? = some (.ins C fs)) (ho : DE X env cs o (.c n)) (hl : fs.lookup f = some s) (hb : attributeBase o f X.env (eval o X.env) = eval o X.env) : DE X env cs (.Attribute o f pos) s := fun Φ q M0 B σ M H ps S Q p =>
  wp_of (pe_fld pe_wp hb) (ho.run S fun v M1 H1 ps1 S1 e1 f1 ok => by
    obtain ⟨d, dx, ws, rfl, g1, g2, g3⟩ := cell_ins S1 hc ok
    obtain ⟨y, hy, oky⟩ := fs_get g3 hl
    exact ⟨d, C, dx, ws, y, rfl, g2, c, na, hy, p y s M1 H1 ps1 cs q S1 e1 f1 oky⟩)
theorem w1_fld {C : Addr} {n : Nat} {f : PySem.Str} {pos' : Pos'} (c : Cls X.K C) (na : NoAttr X.K C f) (h : WE X env cs e fun sv cs1 => ∃ fs, cs1[n]? = some (.ins C fs) ∧ DE X env cs1 o (.c n) ∧ fs.length < 1000 ∧ D.nx env (cs1.set n (.ins C (putFS f sv fs)))) (hs : swapsWith e (some (.Attribute o f pos')) pos.line X.env = pure false) :
    W1 X (.Assign [.Attribute o f pos'] e pos) env cs D := fun M0 B σ M H ps S D' p =>
  ws1_of (ps_fld pe_wp pe_wp hs) (h M0 B σ M H ps S _ fun v sv M1 H1 ps1 cs1 q S1 e1 f1 ok => by
    obtain ⟨fs, hc, ho, hl, q⟩ := q
    refine ho.run S1 fun v2 M2 H2 ps2 S2 e2 f2 ok2 => ?_
    obtain ⟨d, dx, ws, rfl, g1, g2, g3⟩ := cell_ins S2 hc ok2
    exact ⟨d, C, dx, ws, rfl, g2, c, na, by rw [g3.len]; exact hl, p.nx σ M2 _ env ps2 _ q (S2.write g1 hc (fun z => nomatch z) ⟨dx, _, rfl, fs_put g3 (ok.mono e2 f2)⟩) (e1.trans e2) (f1.trans f2)⟩)
theorem inop_of {op : Operator} {r : R2} (h : OpR X (inplaceOp op) r) : InOp X op r := fun pins s σ H x y u v Q I r1 r2 q => h pins s σ H x y u v Q I r1 r2 q
theorem w1_fldaug {C : Addr} {n : Nat} {f : PySem.Str} {op : Operator} {pos' : Pos'} {fs : List (PySem.Str × Slot)} {s0 : Slot} (c : Cls X.K C) (na : NoAttr X.K C f) (hc0 : cs[n]? = some (.ins C fs)) (ho : DE X env cs o (.c n)) (hl : fs.lookup f = some s0)
    (h : WE X env cs e fun sv cs1 => ∃ fs s', cs1[n]? = some (.ins C fs) ∧ AugD X op s0 sv s' ∧ fs.length < 1000 ∧ D.nx env (cs1.set n (.ins C (putFS f s' fs)))) :
    W1 X (.AugAssign (.Attribute o f pos') op e pos) env cs D := fun M0 B σ M H ps S D' p =>
  ws1_of (ps_fldaug pe_wp pe_wp (inop_of opR_sup)) (ho.run S fun v M1 H1 ps1 S1 e1 f1 ok => by
    obtain ⟨d, dx, ws, rfl, g1, g2, g3⟩ := cell_ins S1 hc0 ok
    obtain ⟨y, hy, oky⟩ := fs_get g3 hl
    refine ⟨d, C, dx, ws, y, rfl, g2, c, na, hy, h M0 B σ M1 H1 ps1 S1 _ fun v2 sv M2 H2 ps2 cs2 q S2 e2 f2 ok2 => ?_⟩
    obtain ⟨fs', s', hc, a, hl', q⟩ := q
    refine a.cont S2 (oky.mono e2 f2) ok2 fun z M3 H3 S3 e3 okz => ?_
    obtain ⟨d', dx', ws', e, g1', g2', g3'⟩ := cell_ins S3 hc (ok.mono (e2.trans e3) f2)
    cases e
    exact ⟨dx', ws', g2', by rw [g3'.len]; exact hl', p.nx σ M3 _ env ps2 _ q (S3.write g1' hc (fun z => nomatch z) ⟨dx', _, rfl, fs_put g3' okz⟩) ((e1.trans e2).trans e3) (f1.trans f2)⟩)
end
end DL

set_option Elab.async false
set_option linter.all false
set_option maxRecDepth 100000
set_option maxHeartbeats 2000000
/-! DL8: methods, instances made, calls that hand on one object of one's own. -/
namespace DL
open PySem PyProof.Rows L2
/-- the method m of the class at C keeps sw -/
structure MeR (P : Program) (w : World) (K : Fg) (mg : PySem.Str → Option Value) (base : Heap) (k : Nat) (C : Addr) (m : PySem.Str) (pl : List PySem.Str) (sw : SpecW) : Prop where
  ex : ∃ f fd, Meth K C m f ∧ FnOk P w K mg base CX0 k f fd pl (FSp K sw) ∧ Binds K fd pl []
/-- the class x stands at C, its __init__ keeps sw -/
structure MkR (P : Program) (w : World) (K : Fg) (mg : PySem.Str → Option Value) (base : Heap) (k : Nat) (x : PySem.Str) (C : Addr) (pl : List PySem.Str) (sw : SpecW) : Prop where
  ex : ∃ f fd, mg x = some (.ref C) ∧ Mk K C f ∧ FnOk P w K mg base CX0 k f fd pl (FSp K sw) ∧ Binds K fd pl []
section
variable {X : Cx} {K : Fg} {M0 B M M' H H' : Hp} {σ : L2.St} {env : List Slot} {ps : List Addr} {cs : List Cell} {s s1 s2 : Slot} {e a b o : Expr} {es : List Expr} {k j : Nat} {x : PySem.Str} {p pos apos cpos : Pos'} {Φ : Want} {ss : List Slot} {D : EndsD} {pl : List PySem.Str} {sw : SpecW}
theorem closed_tl {α : Type} {i : Enc α} {xs : List α} : Closed K (.tl α i xs) := ⟨nofun, fun _ _ _ _ h => h⟩
theorem closed_of {kvs : List (PySem.Str × Slot)} (h : ∀ z ∈ kvs, ∃ α i a, z.2 = .d α i a) {M : Hp} {p q : List Addr} {ws : List (PySem.Str × V)} (r : Pr (KvOk K M p) ws kvs) : Pr (KvOk K M q) ws kvs := by
  induction r with
  | nil => exact .nil
  | @cons w t l m q1 _ ih =>
    refine .cons ⟨q1.1, ?_⟩ (ih fun z hz => h z (List.mem_cons_of_mem _ hz))
    obtain ⟨α, i, a, e⟩ := h t List.mem_cons_self
    have := q1.2
    rw [e] at this ⊢
    exact this
theorem closed_ofK {κ : Type} {kvs : List (κ × Slot)} (h : ∀ z ∈ kvs, ∃ α i a, z.2 = .d α i a) {M : Hp} {p q : List Addr} {ws : List (κ × V)} (r : Pr (fun (w : κ × V) (s : κ × Slot) => w.1 = s.1 ∧ SlotOk K M p s.2 w.2) ws kvs) : Pr (fun (w : κ × V) (s : κ × Slot) => w.1 = s.1 ∧ SlotOk K M q s.2 w.2) ws kvs := by
  induction r with
  | nil => exact .nil
  | @cons w t l m q1 _ ih =>
    refine .cons ⟨q1.1, ?_⟩ (ih fun z hz => h z (List.mem_cons_of_mem _ hz))
    obtain ⟨α, i, a, e⟩ := h t List.mem_cons_self
    have := q1.2
    rw [e] at this ⊢
    exact this
theorem closed_ins {C : Addr} {fs : List (PySem.Str × Slot)} (h : ∀ z ∈ fs, ∃ α i a, z.2 = .d α i a) : Closed K (.ins C fs) := ⟨nofun, fun M p q o ⟨dx, ws, e, r⟩ => ⟨dx, ws, e, closed_of h r⟩⟩
theorem closed_dk {kvs : List (Key × Slot)} (h : ∀ z ∈ kvs, ∃ α i a, z.2 = .d α i a) : Closed K (.dk kvs) := ⟨nofun, fun M p q o ⟨ws, e, r⟩ => ⟨ws, e, closed_ofK h r⟩⟩
theorem we_call1R (F : FnR X.prog X.w X.K X.mg X.base k x pl sw) (hr : Room j X.A) (hj : k ≤ j) (hx : Passes CX0 X E0)
    (h : WA X env cs (e :: es) fun ss cs1 => ∃ (j : Nat) (c : Cell) (sc : List Slot), cs1[j]? = some c ∧ Closed X.K c ∧ ss = sc.map (atC j) ∧ (∀ s ∈ sc, s = .c 0 ∨ ∃ α i a, s = .d α i a) ∧ sw sc [c] fun s cs' => ∃ c' : Cell, cs' = [c'] ∧ Closed X.K c' ∧ (∃ α i a, s = Slot.d α i a) ∧ Φ s (cs1.set j c')) (hg : Gl X x) (hd : (x == ("__debug__" : PySem.Str)) = false)
    (he : starEach (e :: es) X.env = (false, eval e X.env) :: starEach es X.env) (hpl : (backTo pos (starEach es X.env)).any (·.1) = false) : WE X env cs (.Call (.Name x p) (e :: es) [] pos) Φ := by
  obtain ⟨f, fd, h1, h2, h3, h4⟩ := F.ex
  exact we_call1 h3 (hr.mono hj) h1 h2 h4 hx h hg hd he hpl
theorem we_callNR (F : FnR X.prog X.w X.K X.mg X.base k x pl sw) (hr : Room j X.A) (hj : k ≤ j) (hx : Passes CX0 X E0)
    (h : WA X env cs (e :: es) fun ss cs1 => (∀ s ∈ ss, ∃ α i a, s = .d α i a) ∧ sw ss [] fun s cs' => ∃ c : Cell, cs' = [c] ∧ s = .c 0 ∧ c ≠ .dead ∧ (∀ M p q o, CellOk X.K M p c o → CellOk X.K M q c o) ∧ Φ (.c cs1.length) (cs1 ++ [c])) (hg : Gl X x) (hd : (x == ("__debug__" : PySem.Str)) = false)
    (he : starEach (e :: es) X.env = (false, eval e X.env) :: starEach es X.env) (hpl : (backTo pos (starEach es X.env)).any (·.1) = false) : WE X env cs (.Call (.Name x p) (e :: es) [] pos) Φ := by
  obtain ⟨f, fd, h1, h2, h3, h4⟩ := F.ex
  exact we_callN h3 (hr.mono hj) h1 h2 h4 hx h hg hd he hpl
/-- o.m(e, ..) -/
theorem we_methR {C : Addr} {m : PySem.Str} {n : Nat} {fs0 : List (PySem.Str × Slot)} {pl' : Sem Bool} (c : Cls X.K C) (F : MeR X.prog X.w X.K X.mg X.base k C m pl sw) (hr : Room j X.A) (hj : k ≤ j) (hx : Passes CX0 X E0) (hc0 : cs[n]? = some (.ins C fs0)) (hm0 : fs0.lookup m = none) (ho : DE X env cs o (.c n))
    (h : WA X env cs (e :: es) fun ss cs1 => ∃ (c : Cell) (sc : List Slot), cs1[n]? = some c ∧ Closed X.K c ∧ ss = sc.map (atC n) ∧ (∀ s ∈ sc, s = .c 0 ∨ ∃ α i a, s = .d α i a) ∧ sw (.c 0 :: sc) [c] fun s cs' => ∃ c' : Cell, cs' = [c'] ∧ Closed X.K c' ∧ (∃ α i a, s = Slot.d α i a) ∧ Φ s (cs1.set n c'))
    (hst : starEach (e :: es) X.env = (false, eval e X.env) :: starEach es X.env) (hpl : (backTo pos (starEach es X.env)).any (·.1) = false)
    (ht : eval (.Call (.Attribute o m apos) (e :: es) [] pos) X.env = (do
      let ov ← eval o X.env
      standAt apos.atName
      let (f, first) ← holding [ov] (getMethod ov m pl')
      callWith pos f first (backTo pos (starEach (e :: es) X.env)) (backToKw pos (keywordEach [] X.env)))) : WE X env cs (.Call (.Attribute o m apos) (e :: es) [] pos) Φ := fun M0 B σ M H ps S Q p => by
  obtain ⟨f, fd, h1, h2, h3⟩ := F.ex
  refine wp_of (pe_meth pe_wp c h1 h2 (hr.mono hj) h3 .nil hx pa_wa hst hpl ht) (ho.run S fun v M1 H1 ps1 S1 e1 f1 ok => ?_)
  obtain ⟨d, dx, ws, rfl, g1, g2, g3⟩ := cell_ins S1 hc0 ok
  refine ⟨d, dx, ws, rfl, g2, fs_none g3 hm0, h M0 B σ M1 H1 ps1 S1 _ fun vs ss M2 H2 ps2 cs2 q S2 e2 f2 r2 => ?_⟩
  obtain ⟨c2, sc, hc, hcl, rfl, hn, q⟩ := q
  rw [List.append_nil]
  exact fsp_call1 S2 hc hcl (fun s hs => (List.mem_cons.mp hs).elim (fun z => .inl z) (hn s)) (.cons (ok.mono e2 f2) r2) q (p.on (e1.trans e2) (f1.trans f2))
theorem we_meth0R {C : Addr} {m : PySem.Str} {n : Nat} {fs0 : List (PySem.Str × Slot)} {pl' : Sem Bool} (c : Cls X.K C) (F : MeR X.prog X.w X.K X.mg X.base k C m pl sw) (hr : Room j X.A) (hj : k ≤ j) (hx : Passes CX0 X E0) (hc0 : cs[n]? = some (.ins C fs0)) (hm0 : fs0.lookup m = none) (ho : DE X env cs o (.c n))
    (hcl : Closed X.K (.ins C fs0)) (h : sw [.c 0] [.ins C fs0] fun s cs' => ∃ c' : Cell, cs' = [c'] ∧ Closed X.K c' ∧ (∃ α i a, s = Slot.d α i a) ∧ Φ s (cs.set n c'))
    (ht : eval (.Call (.Attribute o m apos) [] [] pos) X.env = (do
      let ov ← eval o X.env
      standAt apos.atName
      let (f, first) ← holding [ov] (getMethod ov m pl')
      callWith pos f first (backTo pos (starEach [] X.env)) (backToKw pos (keywordEach [] X.env)))) : WE X env cs (.Call (.Attribute o m apos) [] [] pos) Φ := fun M0 B σ M H ps S Q p => by
  obtain ⟨f, fd, h1, h2, h3⟩ := F.ex
  refine wp_of (pe_meth0 pe_wp c h1 h2 (hr.mono hj) h3 .nil hx ht) (ho.run S fun v M1 H1 ps1 S1 e1 f1 ok => ?_)
  obtain ⟨d, dx, ws, rfl, g1, g2, g3⟩ := cell_ins S1 hc0 ok
  refine ⟨d, dx, ws, rfl, g2, fs_none g3 hm0, ?_⟩
  show FSp X.K sw [V.ref d] H1 Q E0
  exact fsp_call1 S1 hc0 hcl (fun s hs => .inl (List.mem_singleton.mp hs)) (.cons ok .nil) h (p.on e1 f1)
/-- C(e, ..) -/
theorem we_makeR {C : Addr} (F : MkR X.prog X.w X.K X.mg X.base k x C pl sw) (hr : Room j X.A) (hj : k + 1 ≤ j) (hx : Passes CX0 X E0)
    (h : WA X env cs (e :: es) fun ss cs1 => (∀ s ∈ ss, ∃ α i a, s = .d α i a) ∧ sw (.c 0 :: ss) [.ins C []] fun s cs' => ∃ c' : Cell, cs' = [c'] ∧ Closed X.K c' ∧ (∃ α i a, s = Slot.d α i a) ∧ s = .of () ∧ Φ (.c cs1.length) ((cs1 ++ [Cell.ins C []]).set cs1.length c')) (hg : Gl X x) (hd : (x == ("__debug__" : PySem.Str)) = false)
    (he : starEach (e :: es) X.env = (false, eval e X.env) :: starEach es X.env) (hpl : (backTo pos (starEach es X.env)).any (·.1) = false) : WE X env cs (.Call (.Name x p) (e :: es) [] pos) Φ := fun M0 B σ M H ps S Q p => by
  obtain ⟨f, fd, h1, h2, h3, h4⟩ := F.ex
  refine wp_of (pe_make h2 h3 (hr.mono hj) hg h1 h4 .nil hx pa_wa hd he hpl) (h M0 B σ M H ps S _ fun vs ss M1 H1 ps1 cs1 q S1 e1 f1 r1 => ?_)
  obtain ⟨hn, q⟩ := q
  intro z dx hz hdx hne
  rw [List.append_nil]
  have hz' : upd H1 dx (.own z) z = none := by rw [upd_ne (Ne.symm hne)]; exact hz
  have S2 := (S1.newH (o := .own z) hdx).alloc (c := .ins C []) hz' ⟨dx, [], rfl, .nil⟩
  have pr : Pre ps1 (ps1 ++ [z]) := ⟨[z], rfl⟩
  have len := S1.cl.len
  have hat : ∀ s ∈ ss, atC cs1.length s = s := fun s hs => by
    obtain ⟨α, i, a, rfl⟩ := hn s hs
    rfl
  have hmap : ss.map (atC cs1.length) = ss := by
    rw [List.map_congr_left hat, List.map_id'']
    intro; rfl
  refine fsp_call1 (j := cs1.length) (c := .ins C []) (sc := .c 0 :: ss) (Φ := fun s cs2 => s = .of () ∧ Φ (.c cs1.length) cs2) S2 (by simp) ⟨nofun, fun M p q o ⟨dx, ws, e, r⟩ => ⟨dx, ws, e, by cases r; exact .nil⟩⟩ (fun s hs => (List.mem_cons.mp hs).elim .inl fun z => .inr (hn s z))
    (.cons ⟨z, by rw [← len]; simp, rfl⟩ (by rw [hmap]; exact r1.imp fun _ _ => SlotOk.mono (Ex.refl _) pr)) q (fun v s M3 H3 ps3 cs3 ⟨es', q3⟩ S3 e3 f3 ok => ?_)
  · subst es'
    refine ⟨ok, p _ _ M3 H3 ps3 cs3 q3 S3 (e1.trans e3) (f1.trans (pr.trans f3)) ⟨z, f3.get (by rw [← len]; simp), rfl⟩⟩
end
end DL

set_option Elab.async false
set_option linter.all false
set_option maxRecDepth 100000
set_option maxHeartbeats 2000000
/-! DL9: the rules in the form that the walk's tactics take: what is asked of names is closed. -/
namespace DL
open PySem PyProof.Rows L2
class BootB (x : PySem.Str) (id : outParam String) : Prop where
  h : bootBuiltins x = some (.builtin id)
class BootT (x : PySem.Str) (id : outParam String) : Prop where
  h : bootBuiltins x = some (.type id)
instance : BootB "len" "len" := ⟨by decide +kernel⟩
instance : BootB "sorted" "sorted" := ⟨by decide +kernel⟩
instance : BootB "max" "max" := ⟨by decide +kernel⟩
instance : BootB "min" "min" := ⟨by decide +kernel⟩
instance : BootB "sum" "sum" := ⟨by decide +kernel⟩
instance : BootB "abs" "abs" := ⟨by decide +kernel⟩
instance : BootB "all" "all" := ⟨by decide +kernel⟩
instance : BootB "any" "any" := ⟨by decide +kernel⟩
instance : BootB "isinstance" "isinstance" := ⟨by decide +kernel⟩
instance : BootT "int" "int" := ⟨by decide +kernel⟩
instance : BootT "str" "str" := ⟨by decide +kernel⟩
instance : BootT "bool" "bool" := ⟨by decide +kernel⟩
instance : BootT "list" "list" := ⟨by decide +kernel⟩
instance : BootT "tuple" "tuple" := ⟨by decide +kernel⟩
instance : BootT "set" "set" := ⟨by decide +kernel⟩
/-- the frame X, as far as its names go -/
structure CxI (P : Program) (w : World) (K : Fg) (mg : PySem.Str → Option Value) (base : Heap) (N : List PySem.Str) (sc : Scope) (k : Nat) (X : Cx) : Prop where
  prog : X.prog = P
  wo : X.w = w
  frag : X.K = K
  tab : X.mg = mg
  hbase : X.base = base
  nam : X.N = N
  scp : X.env.scope = sc
  calm : X.calm = true
  room : Room k X.A
  nd : N.Nodup
  po : PassesOwn (model X.prog X.w) X.A X.env X.xe
def FnT (X : Cx) : Prop := ∀ x, X.fn x = true
def relS (scope sc : Scope) : Scope := { scope with names := scope.names.map fun (n, k) => if k == .free && sc.kind == .function && sc.names.lookup n == some .cell then (n, .cell) else (n, k) }
def kindB (sc : Scope) (x : PySem.Str) (f : NameKind → Bool) : Bool := match sc.names.lookup x with
  | some k => f k
  | none => false
def locB (sc : Scope) (x : PySem.Str) : Bool := kindB sc x fun | .local => true | .cell => true | _ => false
def lclB (sc : Scope) (x : PySem.Str) : Bool := kindB sc x fun | .local => true | _ => false
def visB (sc : Scope) (x : PySem.Str) : Bool := (kindB sc x fun | .local => true | .cell => true | .free => true | _ => false) && !(x == ("__debug__" : PySem.Str)) && !(x == ("__classdict__" : PySem.Str))
def gloB (sc : Scope) (x : PySem.Str) : Bool := (kindB sc x fun | .globalImplicit => true | _ => false) && !(x == ("__debug__" : PySem.Str)) && !(x == ("__name__" : PySem.Str))
theorem kind_of {sc : Scope} {x : PySem.Str} {f : NameKind → Bool} (h : kindB sc x f = true) : ∃ k, sc.names.lookup x = some k ∧ f k = true := by
  unfold kindB at h
  split at h
  · exact ⟨_, by assumption, h⟩
  · cases h
theorem loc_of {sc : Scope} {x : PySem.Str} (h : locB sc x = true) : Loc sc x := by
  obtain ⟨k, h1, h2⟩ := kind_of h
  cases k <;> first | exact .inl h1 | exact .inr h1 | cases h2
theorem lcl_of {sc : Scope} {x : PySem.Str} (h : lclB sc x = true) : sc.names.lookup x = some .local := by
  obtain ⟨k, h1, h2⟩ := kind_of h
  cases k <;> first | exact h1 | cases h2
theorem vis_of {sc : Scope} {x : PySem.Str} (h : visB sc x = true) : Vis sc x ∧ (x == ("__debug__" : PySem.Str)) = false ∧ (x == ("__classdict__" : PySem.Str)) = false := by
  simp only [visB, Bool.and_eq_true, Bool.not_eq_true'] at h
  obtain ⟨k, h1, h2⟩ := kind_of h.1.1
  refine ⟨?_, h.1.2, h.2⟩
  cases k <;> first | exact .inl h1 | exact .inr (.inl h1) | exact .inr (.inr h1) | cases h2
theorem glo_of {sc : Scope} {x : PySem.Str} (h : gloB sc x = true) : sc.names.lookup x = some .globalImplicit ∧ (x == ("__debug__" : PySem.Str)) = false ∧ x ≠ "__name__" := by
  simp only [gloB, Bool.and_eq_true, Bool.not_eq_true'] at h
  obtain ⟨k, h1, h2⟩ := kind_of h.1.1
  refine ⟨?_, h.1.2, fun e => ?_⟩
  · cases k <;> first | exact h1 | cases h2
  · rw [e] at h; have := h.2; simp at this
theorem ix_of {N : List PySem.Str} {x : PySem.Str} {i : Nat} (h : N.idxOf? x = some i) : N[i]? = some x := by
  simp only [List.idxOf?] at h
  rw [List.findIdx?_eq_some_iff_getElem] at h
  obtain ⟨h1, h2, _⟩ := h
  rw [List.getElem?_eq_getElem h1]
  exact congrArg _ (by simpa using h2)
section
variable {P : Program} {w : World} {K : Fg} {mg : PySem.Str → Option Value} {base : Heap} {N : List PySem.Str} {sc : Scope}
variable {X : Cx} {env : List Slot} {cs : List Cell} {s s1 s2 : Slot} {e a b iter tg elt : Expr} {es : List Expr} {k j i : Nat} {x : PySem.Str} {pl : List PySem.Str} {p pos : Pos'} {Φ : Want} {ss : List Slot} {D : EndsD} {Ψ : WantE}
theorem CxI.glo (ci : CxI P w K mg base N sc j X) (h : gloB sc x = true) : Gl X x := by
  show X.env.scope.names.lookup x = _
  rw [ci.scp]; exact (glo_of h).1
/-- a name -/
theorem nm (ci : CxI P w K mg base N sc j X) (h : N.idxOf? x = some i) (h2 : env[i]? = some s) (hv : visB sc x = true) (hn : s ≠ .no) : DE X env cs (.Name x pos) s := by
  obtain ⟨h3, h4, h5⟩ := vis_of hv
  exact de_var i h2 hn (by rw [ci.nam]; exact ix_of h) (by rw [ci.scp]; exact h3) h4 h5
theorem CxI.st (ci : CxI P w K mg base N sc j X) (h : N.idxOf? x = some i) (hv : locB sc x = true) : X.N.Nodup ∧ X.N[i]? = some x ∧ Loc X.env.scope x := by
  have h1 := loc_of hv
  exact ⟨by rw [ci.nam]; exact ci.nd, by rw [ci.nam]; exact ix_of h, by rw [ci.scp]; exact h1⟩
theorem nmg {is : List Nat} (ci : CxI P w K mg base N sc j X) (h : N.idxOf? x = some i) (hi : is = [i]) (hv : lclB sc x = true) (q : Ψ (env.set i s) cs) : WG X is (.Name x pos) s env cs Ψ := by
  subst hi
  have h1 := lcl_of hv
  exact wg_name i q (by rw [ci.nam]; exact ci.nd) (by rw [ci.nam]; exact ix_of h) (by rw [ci.scp]; exact .inl h1) (.inr (by rw [ci.scp]; exact h1))
theorem wgt {is is' : List Nat} {k : Nat} (ci : CxI P w K mg base N sc j X) (u : UnT X.K s ss) (hn : (assignEach es X.env).length = ss.length ∧ (assignEach es X.env).findIdx? (·.1) = none) (h : WGs X is es ss env cs Ψ) (hi : is' = is) : WG X is' (.Tuple es k pos) s env cs Ψ := by
  subst hi
  exact wg_tup ci.calm u h hn.1 hn.2
theorem nmgC {is : List Nat} (ci : CxI P w K mg base N sc j X) (hf : FnT X) (h : N.idxOf? x = some i) (hi : is = [i]) (hv : locB sc x = true) (q : Ψ (env.set i s) cs) : WG X is (.Name x pos) s env cs Ψ := by
  subst hi
  obtain ⟨h1, h2, h3⟩ := ci.st h hv
  exact wg_name i q h1 h2 h3 (.inl (hf x))
theorem nms {p' : Pos'} (ci : CxI P w K mg base N sc j X) (hf : FnT X) (h : N.idxOf? x = some i) (hv : locB sc x = true) (hs : swapsWith e (some (.Name x p')) pos.line X.env = pure false) (q : WE X env cs e fun s cs' => D.nx (env.set i s) cs') : W1 X (.Assign [.Name x p'] e pos) env cs D := by
  obtain ⟨h1, h2, h3⟩ := ci.st h hv
  exact w1_set i q h1 h2 h3 hs (.inl (hf x))
theorem nma {op : Operator} {p' : Pos'} {s0 : Slot} (ci : CxI P w K mg base N sc j X) (hf : FnT X) (h : N.idxOf? x = some i) (hv : locB sc x = true) (h0 : env[i]? = some s0) (hn0 : s0 ≠ .no) (q : WE X env cs e fun s cs' => ∃ s', AugD X op s0 s s' ∧ D.nx (env.set i s') cs') :
    W1 X (.AugAssign (.Name x p') op e pos) env cs D := by
  obtain ⟨h1, h2, h3⟩ := ci.st h hv
  exact w1_aug i h0 hn0 q h1 h2 h3 (.inl (hf x))
/-- a call's arguments -/
def CallOk (X : Cx) (e : Expr) (es : List Expr) (pos : Pos') : Prop := starEach (e :: es) X.env = (false, eval e X.env) :: starEach es X.env ∧ (backTo pos (starEach es X.env)).any (·.1) = false
theorem cB {id : String} (ci : CxI P w K mg base N sc j X) (hm : mg x = none) (hv : BootB x id) (hg : gloB sc x = true) (hc : CallOk X e es pos)
    (h : DA X env cs (e :: es) ss) (d : CallD X (.builtin id) ss s) : DE X env cs (.Call (.Name x p) (e :: es) [] pos) s := de_callB (by rw [ci.tab]; exact hm) hv.h h d (ci.glo hg) (glo_of hg).2.2 (glo_of hg).2.1 hc.1 hc.2
theorem cT {id : String} (ci : CxI P w K mg base N sc j X) (hm : mg x = none) (hv : BootT x id) (hg : gloB sc x = true) (hc : CallOk X e es pos)
    (h : DA X env cs (e :: es) ss) (d : CallD X (.type id) ss s) : DE X env cs (.Call (.Name x p) (e :: es) [] pos) s := de_callTy (by rw [ci.tab]; exact hm) hv.h h d (ci.glo hg) (glo_of hg).2.2 (glo_of hg).2.1 hc.1 hc.2
theorem CxI.fnr {sw : SpecW} (ci : CxI P w K mg base N sc j X) (F : FnR P w K mg base k x pl sw) : FnR X.prog X.w X.K X.mg X.base k x pl sw := by
  rw [ci.prog, ci.wo, ci.frag, ci.tab, ci.hbase]; exact F
theorem c1 {α β : Type} {i1 : Enc α} {i2 : Enc β} {pre : α → Prop} {f : α → β} (ci : CxI P w K mg base N sc j X) (F : FnR P w K mg base k x pl (sp1 pre f)) (hj : k ≤ j) (hg : gloB sc x = true) (hc : CallOk X e es pos)
    {x1 : α} (h : DA X env cs (e :: es) [.d α i1 x1]) (hp : pre x1) : DE X env cs (.Call (.Name x p) (e :: es) [] pos) (.d β i2 (f x1)) := de_c1 (ci.fnr F) ci.room hj pass0 (ci.glo hg) (glo_of hg).2.1 hc.1 hc.2 h hp
theorem c2 {α β γ : Type} {i1 : Enc α} {i2 : Enc β} {i3 : Enc γ} {pre : α → β → Prop} {f : α → β → γ} (ci : CxI P w K mg base N sc j X) (F : FnR P w K mg base k x pl (sp2 pre f)) (hj : k ≤ j) (hg : gloB sc x = true) (hc : CallOk X e es pos)
    {x1 : α} {x2 : β} (h : DA X env cs (e :: es) [.d α i1 x1, .d β i2 x2]) (hp : pre x1 x2) : DE X env cs (.Call (.Name x p) (e :: es) [] pos) (.d γ i3 (f x1 x2)) := de_c2 (ci.fnr F) ci.room hj pass0 (ci.glo hg) (glo_of hg).2.1 hc.1 hc.2 h hp
theorem c3 {α β γ δ : Type} {i1 : Enc α} {i2 : Enc β} {i3 : Enc γ} {i4 : Enc δ} {pre : α → β → γ → Prop} {f : α → β → γ → δ} (ci : CxI P w K mg base N sc j X) (F : FnR P w K mg base k x pl (sp3 pre f)) (hj : k ≤ j) (hg : gloB sc x = true) (hc : CallOk X e es pos)
    {x1 : α} {x2 : β} {x3 : γ} (h : DA X env cs (e :: es) [.d α i1 x1, .d β i2 x2, .d γ i3 x3]) (hp : pre x1 x2 x3) : DE X env cs (.Call (.Name x p) (e :: es) [] pos) (.d δ i4 (f x1 x2 x3)) := de_c3 (ci.fnr F) ci.room hj pass0 (ci.glo hg) (glo_of hg).2.1 hc.1 hc.2 h hp
theorem r1 {n : Int} (ci : CxI P w K mg base N sc j X) (hm : mg "range" = none) (hg : gloB sc "range" = true) (hs : starEach [a] X.env = [(false, eval a X.env)]) (h : DA X env cs [a] [.of n]) (h1 : n ≤ 16777216 ∧ -(2 ^ 62) ≤ n) : DI X tg (.Call (.Name "range" p) [a] [] pos) env cs (rngL 0 n.toNat) := di_range1 (by rw [ci.tab]; exact hm) h h1.1 h1.2 (ci.glo hg) hs
theorem r2 {m n : Int} (ci : CxI P w K mg base N sc j X) (hm : mg "range" = none) (hg : gloB sc "range" = true) (hs : starEach [a, b] X.env = [(false, eval a X.env), (false, eval b X.env)]) (hs2 : starEach [b] X.env = [(false, eval b X.env)]) (h : DA X env cs [a, b] [.of m, .of n]) (h1 : n - m ≤ 16777216 ∧ -(2 ^ 62) ≤ m ∧ m < 2 ^ 62 ∧ -(2 ^ 62) ≤ n ∧ n < 2 ^ 62) : DI X tg (.Call (.Name "range" p) [a, b] [] pos) env cs (rngL m (n - m).toNat) := di_range2 (by rw [ci.tab]; exact hm) h h1.1 h1.2 (ci.glo hg) hs hs2
/-- the own names of a comprehension -/
def OwnB (N : List PySem.Str) (sc scope : Scope) (own : List (PySem.Str × Nat)) (is : List Nat) : Prop := blkC N sc scope own = true ∧ ∀ i ∈ is, i ∈ own.map (·.2)
theorem own_mk (own : List (PySem.Str × Nat)) {scope : Scope} {is : List Nat} (h : blkC N sc scope own = true) (hs : is = own.map (·.2)) : OwnB N sc scope own is := ⟨h, fun i hi => hs ▸ hi⟩
theorem CxI.blk (ci : CxI P w K mg base N sc j X) {scope : Scope} {Pr : Cx → Prop} (h : ∀ Y, CxI P w K mg base N (relS scope sc) j Y → Pr Y) : Blk X scope Pr := fun s H C cl fp => h _ ⟨ci.prog, ci.wo, ci.frag, ci.tab, ci.hbase, ci.nam, by
  show PySem.relabel scope X.env = _
  unfold PySem.relabel relS
  rw [← ci.scp]; rfl, ci.calm, ci.room, ci.nd, PassesOwn.never⟩
theorem CxI.bok (ci : CxI P w K mg base N sc j X) {scope : Scope} {own : List (PySem.Str × Nat)} (h : blkC N sc scope own = true) : BlkOk X.N X.env.scope scope own := by
  rw [ci.nam, ci.scp]; exact blkOk_by h
section
variable {α β : Type} {iα : Enc α} {iβ : Enc β} {xs : List α}
theorem dil (h : DE X env cs iter (.d (List α) (@encList α iα) xs)) : @DI X tg iter env cs α iα xs := di_list h
theorem ditp {xs : Tup α} (h : DE X env cs iter (.d (Tup α) (@encTup α iα) xs)) : @DI X tg iter env cs α iα xs.l := di_tup h
/-- a comprehension's turn that changes nothing -/
def LcT (P : Program) (w : World) (K : Fg) (mg : PySem.Str → Option Value) (base : Heap) (N : List PySem.Str) (scope : Scope) (j : Nat) (env : List Slot) (cs : List Cell) (elt tg : Expr) (ifs : List Expr) (vs is : List Nat) (x : Slot) (p : Bool) (y : Slot) : Prop :=
  ∀ Y, CxI P w K mg base N scope j Y → WG Y is tg x (wipeE env vs) cs fun env2 cs2 => cs2 = cs ∧ (∀ Y, CxI P w K mg base N scope j Y → DTs Y env2 cs ifs p) ∧ (p = true → ∀ Y, CxI P w K mg base N scope j Y → DE Y env2 cs elt y)
theorem LcT.mk' {ifs : List Expr} {scope : Scope} {vs is : List Nat} {x : Slot} {p p' : Bool} {y y' : Slot} (h : LcT P w K mg base N scope j env cs elt tg ifs vs is x p' y') (hp : p = p') (hy : p = true → y = y') : LcT P w K mg base N scope j env cs elt tg ifs vs is x p y := by
  subst hp
  intro Y cY M0 B σ M H ps S v ok Q k
  refine h Y cY M0 B σ M H ps S v ok Q fun σ' M' H' ps' env' cs' ⟨e1, e2, e3⟩ => k σ' M' H' ps' env' cs' ⟨e1, e2, fun h => ?_⟩
  rw [hy h]
  exact e3 h
theorem CxI.lcp {ifs : List Expr} {scope : Scope} {vs is : List Nat} {x : α} {p : Bool} {y : β} (ci : CxI P w K mg base N sc j X) (h : LcT P w K mg base N (relS scope sc) j env cs elt tg ifs vs is (.of x) p (.of y)) : LcP X env cs elt tg ifs scope vs is x p y := by
  refine ci.blk fun Y cY => ?_
  intro M0 B σ M H ps S v ok Q k
  exact h Y cY M0 B σ M H ps S v ok Q fun σ' M' H' ps' env' cs' ⟨e1, e2, e3⟩ => k σ' M' H' ps' env' cs' ⟨e1, ci.blk fun Z cZ => e2 Z cZ, fun h => ci.blk fun Z cZ => e3 h Z cZ⟩
theorem lc {ifs : List Expr} {scope : Scope} {own : List (PySem.Str × Nat)} {is : List Nat} {f : α → β} {p : α → Bool} (ci : CxI P w K mg base N sc j X) (ow : OwnB N sc scope own is) (hf : ∀ x, foldedSetIterable iter X.env x = pure x)
    (hi : DI X tg iter env cs xs) (h : ∀ x ∈ xs, LcT P w K mg base N (relS scope sc) j env cs elt tg ifs (own.map (·.2)) is (.of x) (p x) (.of (f x))) : DE X env cs (.ListComp elt [⟨tg, iter, ifs, 0⟩] scope pos) (.of ((xs.filter p).map f)) := de_lc own hi (fun x hx => ci.lcp (h x hx)) ow.2 ci.calm (by rw [ci.nam]; exact ci.nd) (ci.bok ow.1) hf
theorem lc0 {scope : Scope} {own : List (PySem.Str × Nat)} {is : List Nat} {f : α → β} (ci : CxI P w K mg base N sc j X) (ow : OwnB N sc scope own is) (hf : ∀ x, foldedSetIterable iter X.env x = pure x)
    (hi : DI X tg iter env cs xs) (h : ∀ x ∈ xs, LcT P w K mg base N (relS scope sc) j env cs elt tg [] (own.map (·.2)) is (.of x) true (.of (f x))) : DE X env cs (.ListComp elt [⟨tg, iter, [], 0⟩] scope pos) (.of (xs.map f)) := de_lc0 own hi (fun x hx => ci.lcp (h x hx)) ow.2 ci.calm (by rw [ci.nam]; exact ci.nd) (ci.bok ow.1) hf
/-- name = [..] -/
theorem nlc {ifs : List Expr} {scope : Scope} {own : List (PySem.Str × Nat)} {is : List Nat} {f : α → β} {p : α → Bool} {spos py : Pos'} (ci : CxI P w K mg base N sc j X) (hy : N.idxOf? x = some i) (hv : lclB sc x = true) (ow : OwnB N sc scope own is) (hf : ∀ x, foldedSetIterable iter X.env x = pure x) (hsw : swapsWith (.ListComp elt [⟨tg, iter, ifs, 0⟩] scope pos) (some (.Name x py)) spos.line X.env = pure true)
    (hi : DI X tg iter env cs xs) (h : ∀ x ∈ xs, LcT P w K mg base N (relS scope sc) j env cs elt tg ifs (own.map (·.2)) is (.of x) (p x) (.of (f x))) (q : D.nx (env.set i (.of ((xs.filter p).map f))) cs) : W1 X (.Assign [.Name x py] (.ListComp elt [⟨tg, iter, ifs, 0⟩] scope pos) spos) env cs D :=
  w1_lc own i hi (fun x hx => ci.lcp (h x hx)) q ow.2 ci.calm (by rw [ci.nam]; exact ci.nd) (by rw [ci.nam]; exact ix_of hy) (by rw [ci.scp]; exact lcl_of hv) hsw (ci.bok ow.1) hf
theorem nlc0 {scope : Scope} {own : List (PySem.Str × Nat)} {is : List Nat} {f : α → β} {spos py : Pos'} (ci : CxI P w K mg base N sc j X) (hy : N.idxOf? x = some i) (hv : lclB sc x = true) (ow : OwnB N sc scope own is) (hf : ∀ x, foldedSetIterable iter X.env x = pure x) (hsw : swapsWith (.ListComp elt [⟨tg, iter, [], 0⟩] scope pos) (some (.Name x py)) spos.line X.env = pure true)
    (hi : DI X tg iter env cs xs) (h : ∀ x ∈ xs, LcT P w K mg base N (relS scope sc) j env cs elt tg [] (own.map (·.2)) is (.of x) true (.of (f x))) (q : D.nx (env.set i (.of (xs.map f))) cs) : W1 X (.Assign [.Name x py] (.ListComp elt [⟨tg, iter, [], 0⟩] scope pos) spos) env cs D :=
  w1_lc0 own i hi (fun x hx => ci.lcp (h x hx)) q ow.2 ci.calm (by rw [ci.nam]; exact ci.nd) (by rw [ci.nam]; exact ix_of hy) (by rw [ci.scp]; exact lcl_of hv) hsw (ci.bok ow.1) hf
end
/-- on one line, the name not the comprehension's own -/
def swpB (sc scope : Scope) (t : PySem.Str) (l1 l2 : Nat) : Bool := (sc.kind == .function) && (sc.names.lookup t == some .local) && l1 == l2 && !(scope.names.any fun y => y.1 == t && (y.2 == .local || y.2 == .cell))
/-- a def from which no exception leaves -/
theorem fn_okA {qual : PySem.Str} {params : Arguments} {body : List Stmt} {scope : Scope} {dvs : List V} {kws : List (PySem.Str × V)} {f : Addr} {fd : FuncData} {sw : SpecW} (F : FunD K x qual params body scope dvs kws f fd) (SC : FnScope N pl scope)
    (len : ∀ env cs Φ, sw env cs Φ → env.length = pl.length ∧ env.length ≤ N.length)
    (hb : ∀ X, CxI P w K mg base N scope k X → FnT X → ∀ env cs Φ, sw env cs Φ → WS X body (env ++ List.replicate (N.length - env.length) .no) cs (endsF Φ)) : FnOk P w K mg base CX0 (k + 1) f fd pl (FSp K sw) :=
  fn_ok F SC len fun cdv A outer s H E hr env cs Φ hsw => hb _ ⟨rfl, rfl, rfl, rfl, rfl, rfl, rfl, rfl, hr, SC.nd, PassesOwn.never⟩ (fun _ => rfl) env cs Φ hsw
end
end DL

set_option Elab.async false
set_option linter.all false
set_option maxRecDepth 100000
set_option maxHeartbeats 2000000
/-! DL10: slots seen otherwise, constants, is None, isinstance, own dicts, instances, methods: by CxI. -/
namespace DL
open PySem PyProof.Rows L2
section
variable {P : Program} {w : World} {K : Fg} {mg : PySem.Str → Option Value} {base : Heap} {N : List PySem.Str} {sc : Scope}
variable {X : Cx} {M0 B M H : Hp} {σ : L2.St} {env : List Slot} {ps : List Addr} {cs : List Cell} {s s' s1 s2 : Slot} {e a b o iter tg elt : Expr} {es : List Expr} {k j i : Nat} {x : PySem.Str} {pl : List PySem.Str} {p pos apos : Pos'} {Φ : Want} {ss : List Slot} {D : EndsD} {Ψ : WantE}
/-! ### a slot seen otherwise -/
def SlotLe (s s' : Slot) : Prop := ∀ K M ps v, SlotOk K M ps s v → SlotOk K M ps s' v
theorem we_le (h : WE X env cs e fun s cs' => ∃ s', SlotLe s s' ∧ Φ s' cs') : WE X env cs e Φ := fun M0 B σ M H ps S Q p =>
  h M0 B σ M H ps S Q fun v s M' H' ps' cs' ⟨s', l, q⟩ S' e f ok => p v s' M' H' ps' cs' q S' e f (l _ _ _ _ ok)
theorem de_le (l : SlotLe s s') (h : DE X env cs e s) : DE X env cs e s' := fun Φ q => we_le (h _ ⟨s', l, q⟩)
/-- what is never None -/
class NN (α : Type) [Enc α] : Prop where
  nn : ∀ (K : Fg) (M : Hp) (v : V) (a : α), Enc.rep K M v a → v ≠ .non
instance : NN Int := ⟨fun K M v a h => by cases h; exact nofun⟩
instance : NN Bool := ⟨fun K M v a h => by cases h; exact nofun⟩
instance : NN PySem.Str := ⟨fun K M v a h => by cases h; exact nofun⟩
instance {α : Type} [Enc α] : NN (List α) := ⟨fun K M v a h => by obtain ⟨p, _, rfl, _⟩ := h; exact nofun⟩
instance {α : Type} [Enc α] : NN (Tup α) := ⟨fun K M v a h => by obtain ⟨p, _, rfl, _⟩ := h; exact nofun⟩
instance {α β : Type} [Enc α] [Enc β] : NN (α × β) := ⟨fun K M v a h => by obtain ⟨p, _, _, rfl, _⟩ := h; exact nofun⟩
instance {α β γ : Type} [Enc α] [Enc β] [Enc γ] : NN (T3 α β γ) := ⟨fun K M v a h => by obtain ⟨p, _, _, _, rfl, _⟩ := h; exact nofun⟩
theorem le_some {α : Type} [Enc α] [NN α] {x : α} : SlotLe (.of x) (.of (some x)) := fun K M ps v h => ⟨NN.nn K M v x h, h⟩
theorem le_none {α : Type} [Enc α] : SlotLe (.of ()) (.of (none : Option α)) := fun K M ps v h => h
theorem le_get {α : Type} [Enc α] {x : α} : SlotLe (.of (some x)) (.of x) := fun K M ps v h => h.2
theorem le_unit {α : Type} [Enc α] : SlotLe (.of (none : Option α)) (.of ()) := fun K M ps v h => h
theorem dw_orT {rest : List Expr} (h : DT X env cs a true) : DW X env cs (.BoolOp .Or (a :: b :: rest) pos) true := dw_or (k' := true) h fun e => nomatch e
theorem dw_andF {rest : List Expr} (h : DT X env cs a false) : DW X env cs (.BoolOp .And (a :: b :: rest) pos) false := dw_and (k' := false) h fun e => nomatch e
theorem de_orT {rest : List Expr} (h : DE X env cs a (.of true)) : DE X env cs (.BoolOp .Or (a :: b :: rest) pos) (.of true) := de_or (k' := true) h fun e => nomatch e
theorem de_andF {rest : List Expr} (h : DE X env cs a (.of false)) : DE X env cs (.BoolOp .And (a :: b :: rest) pos) (.of false) := de_and (k' := false) h fun e => nomatch e
/-! ### constants -/
theorem ngi {n : Int} (ci : CxI P w K mg base N sc j X) (hm : ∃ t, mg x = some (.int n t)) (hg : gloB sc x = true) : DE X env cs (.Name x pos) (.of n) :=
  let ⟨_, hm⟩ := hm; de_glob (v := .int n) (by rw [ci.tab]; exact hm) ⟨_, rfl⟩ (fun _ _ => rfl) (ci.glo hg) (glo_of hg).2.1
theorem nty {id : String} (ci : CxI P w K mg base N sc j X) (hm : mg x = none) (hv : BootT x id) (hg : gloB sc x = true) : DE X env cs (.Name x pos) (.v (.ty id)) := fun Φ q M0 B σ M H ps S Q p =>
  wp_of (pe_bltn (ci.glo hg) (by rw [ci.tab]; exact hm) hv.h (v := .ty id) rfl (glo_of hg).2.2 (glo_of hg).2.1) (p.here S q rfl)
/-- name = [..] on one line -/
theorem swp {gens : List Comprehension} {scope : Scope} {pt : Pos'} {l : Nat} (ci : CxI P w K mg base N sc j X) (h : swpB sc scope x pt.line pos.line = true) : swapsWith (.ListComp elt gens scope pos) (some (.Name x pt)) l X.env = pure true := by
  simp only [swpB, Bool.and_eq_true] at h
  obtain ⟨⟨⟨h1, h2⟩, h3⟩, h4⟩ := h
  show (pure (X.env.blockKind == .function && X.env.kindOf x == some .local && pt.line == pos.line && !(scope.names.any fun (n, k) => n == x && (k == .local || k == .cell))) : Sem Bool) = pure true
  have e1 : X.env.blockKind = .function := by
    unfold Env.blockKind
    rw [ci.scp, eq_of_beq h1]; rfl
  have e2 : X.env.kindOf x = some .local := by
    unfold Env.kindOf
    rw [ci.scp]; exact eq_of_beq h2
  rw [e1, e2, h3]
  have h4 : (!(scope.names.any fun (n, k) => n == x && (k == .local || k == .cell))) = true := h4
  rw [h4]; rfl
/-! ### is None -/
theorem c_isN_unit : CmpD X .Is (.of ()) (.of ()) true := .mk op_isN fun M0 B σ M H env ps cs S v1 v2 h1 h2 Q p => by
  cases h1; cases h2
  exact ⟨rfl, p _ M H S (Ex.refl _) (by show V.bl _ = V.bl _; simp)⟩
theorem c_isN {α : Type} [Enc α] [NN α] {x : α} : CmpD X .Is (.of x) (.of ()) false := .mk op_isN fun M0 B σ M H env ps cs S v1 v2 h1 h2 Q p => by
  cases h2
  exact ⟨rfl, p _ M H S (Ex.refl _) (by show V.bl _ = V.bl _; simp [NN.nn _ _ _ _ h1])⟩
theorem c_isNo {α : Type} [Enc α] {x : Option α} : CmpD X .Is (.of x) (.of ()) x.isNone := .mk op_isN fun M0 B σ M H env ps cs S v1 v2 h1 h2 Q p => by
  cases h2
  refine ⟨rfl, p _ M H S (Ex.refl _) ?_⟩
  show V.bl _ = V.bl _
  cases x with
  | none => have h1 : v1 = .non := h1; simp [h1]
  | some y => have h1 : v1 ≠ .non := h1.1; simp [h1]
theorem c_notN_unit : CmpD X .IsNot (.of ()) (.of ()) false := .mk op_notN fun M0 B σ M H env ps cs S v1 v2 h1 h2 Q p => by
  cases h1; cases h2
  exact ⟨rfl, p _ M H S (Ex.refl _) (by show V.bl _ = V.bl _; simp)⟩
theorem c_notN {α : Type} [Enc α] [NN α] {x : α} : CmpD X .IsNot (.of x) (.of ()) true := .mk op_notN fun M0 B σ M H env ps cs S v1 v2 h1 h2 Q p => by
  cases h2
  exact ⟨rfl, p _ M H S (Ex.refl _) (by show V.bl _ = V.bl _; simp [NN.nn _ _ _ _ h1])⟩
theorem c_notNo {α : Type} [Enc α] {x : Option α} : CmpD X .IsNot (.of x) (.of ()) x.isSome := .mk op_notN fun M0 B σ M H env ps cs S v1 v2 h1 h2 Q p => by
  cases h2
  refine ⟨rfl, p _ M H S (Ex.refl _) ?_⟩
  show V.bl _ = V.bl _
  cases x with
  | none => have h1 : v1 = .non := h1; simp [h1]
  | some y => have h1 : v1 ≠ .non := h1.1; simp [h1]
/-! ### isinstance -/
class TyN (α : Type) [Enc α] (t : outParam String) : Prop where
  ty : ∀ (K : Fg) (M : Hp) (v : V) (a : α), Enc.rep K M v a → ∀ H, Ex M H → TyX K H v (.type t)
instance : TyN Int "int" := ⟨fun K M v a h H e => by cases h; exact .base (.int a)⟩
instance : TyN Bool "bool" := ⟨fun K M v a h H e => by cases h; exact .base (.bl a)⟩
instance : TyN PySem.Str "str" := ⟨fun K M v a h H e => by cases h; exact .base (.str a)⟩
instance : TyN Unit "NoneType" := ⟨fun K M v a h H e => by cases h; exact .base .non⟩
theorem f_isi {α : Type} [Enc α] {t b : String} [TyN α t] {x : α} {r : Bool} (h : kitB t b = some r) : CallD X (.builtin "isinstance") [.of x, .v (.ty b)] (.of r) := .mk call_isi fun M0 B σ M H env ps cs S vs hv Q p => by
  cases hv with
  | cons r1 hv =>
    cases hv with
    | cons r2 hv =>
      cases hv
      cases r2
      exact ⟨_, _, _, _, r, rfl, .ty b, TyN.ty _ _ _ _ r1 _ S.mh, kit_ty h, p _ M H S (Ex.refl _) rfl⟩
/-! ### wide numbers -/
variable {n m : Int}
theorem b_mulW (h : CMulW n m) : BinD X .Mult (.of n) (.of m) (.of (n * m)) := opD_val op_mulW h fun _ _ => rfl
theorem b_divW (h : CDivW n m) : BinD X .FloorDiv (.of n) (.of m) (.of (n / m)) := opD_val op_fdivW h fun _ _ => rfl
/-! ### own dicts -/
/-- pairs that are made without a change -/
inductive DPs (X : Cx) (env : List Slot) (cs : List Cell) : List (Option Expr) → List Expr → List (Key × Slot) → Prop
  | nil : DPs X env cs [] [] []
  | cons {k v : Expr} {ks : List (Option Expr)} {vs : List Expr} {s1 s : Slot} {key : Key} {kvs : List (Key × Slot)} (h1 : DE X env cs k s1) (h2 : IsKey X.K s1 key) (h3 : DE X env cs v s) (h4 : DPs X env cs ks vs kvs) : DPs X env cs (some k :: ks) (v :: vs) ((key, s) :: kvs)
theorem dps_run {X : Cx} {env : List Slot} {cs : List Cell} {M0 B : Hp} {σ : L2.St} {pos : Pos'} {keys : List (Option Expr)} {values : List Expr} {kvs : List (Key × Slot)} (h : DPs X env cs keys values kvs) : ∃ trs, PPs X pos keys values trs ∧ keys.all (·.isSome) = true ∧ keys.length = values.length ∧ keys.length = kvs.length ∧
    ∀ {M H : Hp} {ps : List Addr}, Sta X.K M0 B σ M H env ps cs → ∀ Q : List (V × V) → Hp → Prop, (∀ vps M' H' ps', Sta X.K M0 B σ M' H' env ps' cs → Ex M M' → Pre ps ps' → ∀ ws : List (Key × V), vps = ws.map (fun kv => (kV kv.1, kv.2)) → Pr (KvOk X.K M' ps') ws kvs → Q vps H') → tPairs trs σ H Q := by
  induction h with
  | nil => exact ⟨[], pps_nil, rfl, rfl, rfl, fun S Q p => p [] _ _ _ S (Ex.refl _) (Pre.refl _) [] rfl .nil⟩
  | @cons k v ks vs s1 s key kvs h1 h2 h3 _ ih =>
    obtain ⟨trs, t1, t2, t3, t4, t5⟩ := ih
    refine ⟨_, pps_cons pe_wp pe_wp t1, by simpa using t2, by simp [t3], by simp [t4], fun S Q p => ?_⟩
    refine h1.run S fun v1 M1 H1 ps1 S1 e1 f1 ok1 => h3.run S1 fun v2 M2 H2 ps2 S2 e2 f2 ok2 => t5 S2 _ fun vps M3 H3 ps3 S3 e3 f3 ws hw r => ?_
    subst hw
    refine p _ M3 H3 ps3 S3 ((e1.trans e2).trans e3) ((f1.trans f2).trans f3) ((key, v2) :: ws) ?_ (.cons ⟨rfl, ok2.mono e3 f3⟩ r)
    rw [h2 _ _ _ ok1]; rfl
def mergeS (kvs more : List (Key × Slot)) : List (Key × Slot) := more.foldl (fun acc kv => putS acc kv.1 kv.2) kvs
theorem kv_merge {M : Hp} {ps : List Addr} {more : List (Key × V)} {m' : List (Key × Slot)} (r' : Pr (KvOk K M ps) more m') : ∀ {ws : List (Key × V)} {kvs : List (Key × Slot)}, Pr (KvOk K M ps) ws kvs → Pr (KvOk K M ps) (mergeK ws more) (mergeS kvs m') := by
  induction r' with
  | nil => intro _ _ r; exact r
  | @cons w t l m q _ ih =>
    intro ws kvs r
    obtain ⟨q1, q2⟩ := q
    have := kv_put (k := w.1) r q2
    rw [show mergeK ws (w :: l) = mergeK (putK ws w.1 w.2) l from rfl, show mergeS kvs (t :: m) = mergeS (putS kvs t.1 t.2) m from rfl, ← q1]
    exact ih this
/-- {k: v, ..}, a dict of one's own -/
theorem we_disp {keys : List (Option Expr)} {values : List Expr} {kvs : List (Key × Slot)} (h : DPs X env (cs ++ [.dk []]) keys values kvs) (h0 : keys ≠ []) (h15 : keys.length ≤ 15) (q : Φ (.c cs.length) (cs ++ [.dk (mergeS [] kvs)])) : WE X env cs (.Dict keys values pos) Φ := fun M0 B σ M H ps S Q p => by
  obtain ⟨trs, t1, t2, t3, t4, t5⟩ := dps_run (M0 := M0) (B := B) (σ := σ) (pos := pos) h
  refine wp_of (pe_disp t1 t2 t3 h0 h15) fun z hz => ?_
  have S1 := S.alloc (c := .dk []) hz ⟨[], rfl, .nil⟩
  have pr : Pre ps (ps ++ [z]) := ⟨[z], rfl⟩
  have len := S.cl.len
  refine t5 S1 _ fun vps M' H' ps' S' e f ws hw r => ?_
  have hz' : ps'[cs.length]? = some z := by
    obtain ⟨t, rfl⟩ := f
    rw [← len, List.append_assoc, List.getElem?_append_right (Nat.le_refl _)]; simp
  have hcs : (cs ++ [Cell.dk []])[cs.length]? = some (.dk []) := by simp
  obtain ⟨q1, g1, g2, _, _, g3, g4⟩ := S'.cell hcs (fun z => nomatch z)
  obtain ⟨vs, rfl, g5⟩ := g4
  cases g5
  rw [hz'] at g2
  cases g2
  refine ⟨g3, ws, hw, by rw [r.len, ← t4]; exact h15, ?_⟩
  have S2 := S'.write (o' := .dK (mergeK [] ws)) (c' := .dk (mergeS [] kvs)) hz' hcs (fun z => nomatch z) ⟨_, rfl, kv_merge r .nil⟩
  have hset : (cs ++ [Cell.dk []]).set cs.length (.dk (mergeS [] kvs)) = cs ++ [.dk (mergeS [] kvs)] := by simp
  rw [hset] at S2
  exact p _ _ M' _ ps' _ q S2 e (pr.trans f) ⟨z, hz', rfl⟩
theorem dg {kvs : List (Key × Slot)} {n : Nat} {key : Key} (ci : CxI P w K mg base N sc j X) (ho : DE X env cs o (.c n)) (hc : cs[n]? = some (.dk kvs)) (ha : DE X env cs a s1) (hk : IsKey X.K s1 key) (hg : valS kvs key = some s) (hs : NoSl a) : DE X env cs (.Subscript o a pos) s := we_dgetC ci.room hc ho ha hk hg hs
/-! ### instances -/
theorem gf {C : Addr} {fs : List (PySem.Str × Slot)} {n : Nat} {f : PySem.Str} (ci : CxI P w K mg base N sc j X) (ho : DE X env cs o (.c n)) (hc : cs[n]? = some (.ins C fs)) (c : Cls K C) (na : NoAttr K C f) (hl : fs.lookup f = some s) (hb : attributeBase o f X.env (eval o X.env) = eval o X.env) : DE X env cs (.Attribute o f pos) s :=
  de_fld (by rw [ci.frag]; exact c) (by rw [ci.frag]; exact na) hc ho hl hb
theorem sf {C : Addr} {n : Nat} {f : PySem.Str} {pos' : Pos'} (ci : CxI P w K mg base N sc j X) (c : Cls K C) (na : NoAttr K C f) (hs : swapsWith e (some (.Attribute o f pos')) pos.line X.env = pure false) (h : WE X env cs e fun sv cs1 => ∃ fs, cs1[n]? = some (.ins C fs) ∧ DE X env cs1 o (.c n) ∧ fs.length < 1000 ∧ D.nx env (cs1.set n (.ins C (putFS f sv fs)))) :
    W1 X (.Assign [.Attribute o f pos'] e pos) env cs D := w1_fld (by rw [ci.frag]; exact c) (by rw [ci.frag]; exact na) h hs
/-- o.f = e, where e is pure -/
theorem sfD {C : Addr} {n : Nat} {f : PySem.Str} {pos' : Pos'} {fs : List (PySem.Str × Slot)} (ci : CxI P w K mg base N sc j X) (ho : DE X env cs o (.c n)) (hc : cs[n]? = some (.ins C fs)) (c : Cls K C) (na : NoAttr K C f) (hs : swapsWith e (some (.Attribute o f pos')) pos.line X.env = pure false) (hl : fs.length < 1000) (h : DE X env cs e s)
    (q : D.nx env (cs.set n (.ins C (putFS f s fs)))) : W1 X (.Assign [.Attribute o f pos'] e pos) env cs D := sf ci c na hs (h _ ⟨fs, hc, ho, hl, q⟩)
theorem afD {C : Addr} {n : Nat} {f : PySem.Str} {op : Operator} {pos' : Pos'} {fs : List (PySem.Str × Slot)} {s0 s' : Slot} (ci : CxI P w K mg base N sc j X) (ho : DE X env cs o (.c n)) (hc : cs[n]? = some (.ins C fs)) (c : Cls K C) (na : NoAttr K C f) (hl : fs.lookup f = some s0) (hl2 : fs.length < 1000)
    (h : DE X env cs e s) (d : AugD X op s0 s s') (q : D.nx env (cs.set n (.ins C (putFS f s' fs)))) : W1 X (.AugAssign (.Attribute o f pos') op e pos) env cs D :=
  w1_fldaug (by rw [ci.frag]; exact c) (by rw [ci.frag]; exact na) hc ho hl (h _ ⟨fs, s', hc, d, hl2, q⟩)
end
end DL

set_option Elab.async false
set_option linter.all false
set_option maxRecDepth 100000
set_option maxHeartbeats 2000000
/-! DL11: calls that hand on or make one object of one's own, by CxI; the drawing of the laws. -/
namespace DL
open PySem PyProof.Rows L2
section
variable {P : Program} {w : World} {K : Fg} {mg : PySem.Str → Option Value} {base : Heap} {N : List PySem.Str} {sc : Scope}
variable {X : Cx} {env : List Slot} {cs : List Cell} {s s' s1 s2 : Slot} {e a b o iter tg elt : Expr} {es : List Expr} {k j i : Nat} {x : PySem.Str} {pl : List PySem.Str} {p pos apos : Pos'} {Φ : Want} {ss : List Slot} {D : EndsD} {Ψ : WantE} {sw : SpecW}
def kix (l : List Key) (k : Key) : Option Nat := l.findIdx? fun a => decide (a = k)
theorem valS_ix {kvs : List (Key × Slot)} {key : Key} : ∀ {i : Nat} {k2 : Key} {s : Slot}, kix (kvs.map (·.1)) key = some i → kvs[i]? = some (k2, s) → valS kvs key = some s := by
  intro i k2 s h1 h2
  unfold valS
  simp only [kix, List.findIdx?_eq_some_iff_getElem] at h1
  obtain ⟨g1, g2, g3⟩ := h1
  have hl : i < kvs.length := by simpa using g1
  have e : kvs.find? (fun kv => decide (kv.1 = key)) = some (k2, s) := by
    rw [List.find?_eq_some_iff_getElem]
    rw [List.getElem?_eq_getElem hl] at h2
    have h2 : kvs[i] = (k2, s) := Option.some.inj h2
    refine ⟨?_, i, hl, h2, fun j hj => ?_⟩
    · simp only [List.getElem_map] at g2
      rw [h2] at g2
      simpa using g2
    · have := g3 j hj
      simpa using this
  rw [e]; rfl
theorem putS_ix {kvs : List (Key × Slot)} {key : Key} : ∀ {i : Nat} {s : Slot}, kix (kvs.map (·.1)) key = some i → (kvs.map (·.1)).Nodup → putS kvs key s = kvs.set i (key, s) := by
  intro i s h1 hn
  simp only [kix, List.findIdx?_eq_some_iff_getElem] at h1
  obtain ⟨g1, g2, g3⟩ := h1
  have hl : i < kvs.length := by simpa using g1
  have g2 : kvs[i].1 = key := by simpa using g2
  unfold putS
  rw [if_pos (List.any_eq_true.mpr ⟨kvs[i], List.getElem_mem hl, by simpa using g2⟩)]
  apply List.ext_getElem
  · simp
  · intro n h1 h2
    rw [List.getElem_set, List.getElem_map]
    have hnl : n < kvs.length := by simpa using h1
    by_cases e : i = n
    · subst e
      rw [if_pos g2, if_pos rfl, g2]
    · rw [if_neg e, if_neg]
      intro z
      have := (List.getElem_inj (i := i) (j := n) (h₀ := by simpa using hl) (h₁ := by simpa using hnl) hn).mp (by simp [g2, z])
      exact e this
def nodupB : List Key → Bool
  | [] => true
  | a :: l => !(l.any fun b => decide (b = a)) && nodupB l
theorem nodupB_ok : ∀ {l : List Key}, nodupB l = true → l.Nodup
  | [], _ => .nil
  | a :: l, h => by
    simp only [nodupB, Bool.and_eq_true, Bool.not_eq_true', List.any_eq_false, decide_eq_true_eq] at h
    exact List.nodup_cons.mpr ⟨fun z => h.1 a z rfl, nodupB_ok h.2⟩
/-- o[key], a key that stands there -/
theorem dgx {kvs : List (Key × Slot)} {n i : Nat} {key k2 : Key} (ci : CxI P w K mg base N sc j X) (ho : DE X env cs o (.c n)) (hc : cs[n]? = some (.dk kvs)) (ha : DE X env cs a s1) (hk : IsKey X.K s1 key) (hi : kix (kvs.map (·.1)) key = some i) (hg : kvs[i]? = some (k2, s)) (hs : NoSl a) : DE X env cs (.Subscript o a pos) s := dg ci ho hc ha hk (valS_ix hi hg) hs
/-- o[key] = e, where e is pure -/
theorem sdD {kvs : List (Key × Slot)} {n : Nat} {key : Key} {pos' : Pos'} (ci : CxI P w K mg base N sc j X) (ho : DE X env cs o (.c n)) (hc : cs[n]? = some (.dk kvs)) (ha : DE X env cs a s1) (hk : IsKey X.K s1 key) (hs : swapsWith e (some (.Subscript o a pos')) pos.line X.env = pure false) (hl : kvs.length < sizeLine) (h : DE X env cs e s)
    (q : D.nx env (cs.set n (.dk (putS kvs key s)))) : W1 X (.Assign [.Subscript o a pos'] e pos) env cs D := w1_dputC ci.room (h _ ⟨kvs, s1, hc, ho, ha, hk, hl, q⟩) hs
/-- o[key] = e, where e is pure and the key stands there -/
theorem sdx {kvs : List (Key × Slot)} {n i : Nat} {key : Key} {pos' : Pos'} (ci : CxI P w K mg base N sc j X) (ho : DE X env cs o (.c n)) (hc : cs[n]? = some (.dk kvs)) (ha : DE X env cs a s1) (hk : IsKey X.K s1 key) (hs : swapsWith e (some (.Subscript o a pos')) pos.line X.env = pure false) (hl : kvs.length < sizeLine) (hi : kix (kvs.map (·.1)) key = some i) (hn : nodupB (kvs.map (·.1)) = true) (h : DE X env cs e s)
    (q : D.nx env (cs.set n (.dk (kvs.set i (key, s))))) : W1 X (.Assign [.Subscript o a pos'] e pos) env cs D := sdD ci ho hc ha hk hs hl h (by rw [putS_ix hi (nodupB_ok hn)]; exact q)
theorem CxI.mer {C : Addr} {m : PySem.Str} (ci : CxI P w K mg base N sc j X) (F : MeR P w K mg base k C m pl sw) : MeR X.prog X.w X.K X.mg X.base k C m pl sw := by
  rw [ci.prog, ci.wo, ci.frag, ci.tab, ci.hbase]; exact F
theorem CxI.mkr {C : Addr} (ci : CxI P w K mg base N sc j X) (F : MkR P w K mg base k x C pl sw) : MkR X.prog X.w X.K X.mg X.base k x C pl sw := by
  rw [ci.prog, ci.wo, ci.frag, ci.tab, ci.hbase]; exact F
/-- a call upon data, its promise any -/
theorem cfn (ci : CxI P w K mg base N sc j X) (F : FnR P w K mg base k x pl sw) (hj : k ≤ j) (hg : gloB sc x = true) (hc : CallOk X e es pos)
    (h : WA X env cs (e :: es) fun ss cs1 => (∀ s ∈ ss, ∃ α i a, s = .d α i a) ∧ sw ss [] fun s cs' => cs' = [] ∧ (∃ α i a, s = Slot.d α i a) ∧ Φ s cs1) : WE X env cs (.Call (.Name x p) (e :: es) [] pos) Φ := we_callR (ci.fnr F) ci.room hj pass0 h (ci.glo hg) (glo_of hg).2.1 hc.1 hc.2
theorem cfn1 (ci : CxI P w K mg base N sc j X) (F : FnR P w K mg base k x pl sw) (hj : k ≤ j) (hg : gloB sc x = true) (hc : CallOk X e es pos)
    (h : WA X env cs (e :: es) fun ss cs1 => ∃ (j : Nat) (c : Cell) (sc : List Slot), cs1[j]? = some c ∧ Closed X.K c ∧ ss = sc.map (atC j) ∧ (∀ s ∈ sc, s = .c 0 ∨ ∃ α i a, s = .d α i a) ∧ sw sc [c] fun s cs' => ∃ c' : Cell, cs' = [c'] ∧ Closed X.K c' ∧ (∃ α i a, s = Slot.d α i a) ∧ Φ s (cs1.set j c')) : WE X env cs (.Call (.Name x p) (e :: es) [] pos) Φ :=
  we_call1R (ci.fnr F) ci.room hj pass0 h (ci.glo hg) (glo_of hg).2.1 hc.1 hc.2
theorem cfnN (ci : CxI P w K mg base N sc j X) (F : FnR P w K mg base k x pl sw) (hj : k ≤ j) (hg : gloB sc x = true) (hc : CallOk X e es pos)
    (h : WA X env cs (e :: es) fun ss cs1 => (∀ s ∈ ss, ∃ α i a, s = .d α i a) ∧ sw ss [] fun s cs' => ∃ c : Cell, cs' = [c] ∧ s = .c 0 ∧ c ≠ .dead ∧ (∀ M p q o, CellOk X.K M p c o → CellOk X.K M q c o) ∧ Φ (.c cs1.length) (cs1 ++ [c])) : WE X env cs (.Call (.Name x p) (e :: es) [] pos) Φ :=
  we_callNR (ci.fnr F) ci.room hj pass0 h (ci.glo hg) (glo_of hg).2.1 hc.1 hc.2
theorem cmk {C : Addr} (ci : CxI P w K mg base N sc j X) (F : MkR P w K mg base k x C pl sw) (hj : k + 1 ≤ j) (hg : gloB sc x = true) (hc : CallOk X e es pos)
    (h : WA X env cs (e :: es) fun ss cs1 => (∀ s ∈ ss, ∃ α i a, s = .d α i a) ∧ sw (.c 0 :: ss) [.ins C []] fun s cs' => ∃ c' : Cell, cs' = [c'] ∧ Closed X.K c' ∧ (∃ α i a, s = Slot.d α i a) ∧ s = .of () ∧ Φ (.c cs1.length) ((cs1 ++ [Cell.ins C []]).set cs1.length c')) : WE X env cs (.Call (.Name x p) (e :: es) [] pos) Φ :=
  we_makeR (ci.mkr F) ci.room hj pass0 h (ci.glo hg) (glo_of hg).2.1 hc.1 hc.2
/-- how a method's call is read -/
def MethOk (X : Cx) (o : Expr) (m : PySem.Str) (es : List Expr) (apos pos : Pos') : Prop := ∃ pl' : Sem Bool, eval (.Call (.Attribute o m apos) es [] pos) X.env = (do
      let ov ← eval o X.env
      standAt apos.atName
      let (f, first) ← holding [ov] (getMethod ov m pl')
      callWith pos f first (backTo pos (starEach es X.env)) (backToKw pos (keywordEach [] X.env)))
theorem cme {C : Addr} {m : PySem.Str} {n : Nat} {fs0 : List (PySem.Str × Slot)} (ci : CxI P w K mg base N sc j X) (c : Cls K C) (F : MeR P w K mg base k C m pl sw) (hj : k ≤ j) (ho : DE X env cs o (.c n)) (hc0 : cs[n]? = some (.ins C fs0)) (hm0 : fs0.lookup m = none) (hc : CallOk X e es pos) (ht : MethOk X o m (e :: es) apos pos)
    (h : WA X env cs (e :: es) fun ss cs1 => ∃ (c : Cell) (sc : List Slot), cs1[n]? = some c ∧ Closed X.K c ∧ ss = sc.map (atC n) ∧ (∀ s ∈ sc, s = .c 0 ∨ ∃ α i a, s = .d α i a) ∧ sw (.c 0 :: sc) [c] fun s cs' => ∃ c' : Cell, cs' = [c'] ∧ Closed X.K c' ∧ (∃ α i a, s = Slot.d α i a) ∧ Φ s (cs1.set n c')) :
    WE X env cs (.Call (.Attribute o m apos) (e :: es) [] pos) Φ := by
  obtain ⟨pl', ht⟩ := ht
  exact we_methR (by rw [ci.frag]; exact c) (ci.mer F) ci.room hj pass0 hc0 hm0 ho h hc.1 hc.2 ht
theorem cme0 {C : Addr} {m : PySem.Str} {n : Nat} {fs0 : List (PySem.Str × Slot)} (ci : CxI P w K mg base N sc j X) (c : Cls K C) (F : MeR P w K mg base k C m pl sw) (hj : k ≤ j) (ho : DE X env cs o (.c n)) (hc0 : cs[n]? = some (.ins C fs0)) (hm0 : fs0.lookup m = none) (hcl : Closed X.K (.ins C fs0)) (ht : MethOk X o m [] apos pos)
    (h : sw [.c 0] [.ins C fs0] fun s cs' => ∃ c' : Cell, cs' = [c'] ∧ Closed X.K c' ∧ (∃ α i a, s = Slot.d α i a) ∧ Φ s (cs.set n c')) :
    WE X env cs (.Call (.Attribute o m apos) [] [] pos) Φ := by
  obtain ⟨pl', ht⟩ := ht
  exact we_meth0R (by rw [ci.frag]; exact c) (ci.mer F) ci.room hj pass0 hc0 hm0 ho hcl h ht
theorem at_get {α : Type} {xs : List α} {i : Int} (h0 : 0 ≤ i) (h : i.toNat < xs.length) : atI xs i = some xs[i.toNat] := by
  unfold atI ixN
  rw [if_pos h0, if_pos (by omega)]
  simp [h]
theorem at_mem {α : Type} {xs : List α} {i : Int} {x : α} (h : atI xs i = some x) : x ∈ xs := by
  unfold atI at h
  cases e : ixN xs.length i with
  | none => rw [e] at h; cases h
  | some j => rw [e] at h; exact List.mem_of_getElem? h
theorem at_zero {α : Type} {a : α} {l : List α} : atI (a :: l) 0 = some a := by
  rw [at_get (Int.le_refl 0) (by simp)]; rfl
theorem at_one {α : Type} {a b : α} {l : List α} : atI (a :: b :: l) 1 = some b := by
  rw [at_get (by omega) (by simp)]; rfl
theorem mkL1 {α : Type} {iα : Enc α} {a : α} : MkL K [.of a] (.of [a]) := mkL_l (by show 1 ≤ sizeLine; decide) rfl
theorem mkL2 {α : Type} {iα : Enc α} {a b : α} : MkL K [.of a, .of b] (.of [a, b]) := mkL_l (by show 2 ≤ sizeLine; decide) rfl
theorem mkL3 {α : Type} {iα : Enc α} {a b c : α} : MkL K [.of a, .of b, .of c] (.of [a, b, c]) := mkL_l (by show 3 ≤ sizeLine; decide) rfl
theorem mkL4 {α : Type} {iα : Enc α} {a b c d : α} : MkL K [.of a, .of b, .of c, .of d] (.of [a, b, c, d]) := mkL_l (by show 4 ≤ sizeLine; decide) rfl
theorem mkL5 {α : Type} {iα : Enc α} {a b c d e : α} : MkL K [.of a, .of b, .of c, .of d, .of e] (.of [a, b, c, d, e]) := mkL_l (by show 5 ≤ sizeLine; decide) rfl
theorem mkL6 {α : Type} {iα : Enc α} {a b c d e f : α} : MkL K [.of a, .of b, .of c, .of d, .of e, .of f] (.of [a, b, c, d, e, f]) := mkL_l (by show 6 ≤ sizeLine; decide) rfl
theorem at_last {α : Type} {a : α} {l : List α} : atI (a :: l) (-1) = some ((a :: l).getLast (List.cons_ne_nil _ _)) := by
  unfold atI ixN
  rw [if_neg (by omega), if_pos (by simp only [List.length_cons]; omega)]
  simp only [Option.bind_some]
  rw [List.getLast_eq_getElem]
  have e : (-1 + ((a :: l).length : Int)).toNat = (a :: l).length - 1 := by simp only [List.length_cons]; omega
  rw [e, List.getElem?_eq_getElem]
theorem cmeD {C : Addr} {m : PySem.Str} {n : Nat} {fs0 : List (PySem.Str × Slot)} (ci : CxI P w K mg base N sc j X) (c : Cls K C) (F : MeR P w K mg base k C m pl sw) (hj : k ≤ j) (ho : DE X env cs o (.c n)) (hc0 : cs[n]? = some (.ins C fs0)) (hm0 : fs0.lookup m = none) (hc : CallOk X e es pos) (ht : MethOk X o m (e :: es) apos pos) (hcl : Closed X.K (.ins C fs0))
    (h : DA X env cs (e :: es) ss) (hd : ∀ s ∈ ss, ∃ α i a, s = Slot.d α i a) (q : sw (.c 0 :: ss) [.ins C fs0] fun s cs' => ∃ c' : Cell, cs' = [c'] ∧ Closed X.K c' ∧ (∃ α i a, s = Slot.d α i a) ∧ Φ s (cs.set n c')) :
    WE X env cs (.Call (.Attribute o m apos) (e :: es) [] pos) Φ := cme ci c F hj ho hc0 hm0 hc ht (WA.da h ⟨_, ss, hc0, hcl, by
      have : ss.map (atC n) = ss := by
        rw [List.map_congr_left (g := id) (fun s hs => by obtain ⟨α, i, a, rfl⟩ := hd s hs; rfl), List.map_id]
      exact this.symm, fun s hs => .inr (hd s hs), q⟩)
/-! ### a def may leave objects of its own behind -/
theorem Pr.take' {α β : Type _} {F : α → β → Prop} {l : List α} {m : List β} (h : Pr F l m) (n : Nat) : Pr F (l.take n) (m.take n) := h.take n
theorem SlotOk.below {K : Fg} {M : Hp} {ps : List Addr} {s : Slot} {v : V} {n : Nat} (h : SlotOk K M ps s v) (hs : ∀ j, s = .c j → j < n) : SlotOk K M (ps.take n) s v := by
  cases s with
  | c j =>
    obtain ⟨p, h1, h2⟩ := h
    exact ⟨p, by rw [List.getElem?_take_of_lt (hs j rfl)]; exact h1, h2⟩
  | no => exact h
  | d α i a => exact h
  | v x => exact h
/-- the cells behind the n-th are let go -/
def dropP (K : Fg) (n0 : Nat) (Φ : Want) : Want := fun s cs' => ∃ n, n0 ≤ n ∧ (∀ j, s = .c j → j < n) ∧ (∀ c ∈ cs'.take n, c = .dead ∨ Closed K c) ∧ Φ s (cs'.take n)
def dropW (K : Fg) (sw : SpecW) : SpecW := fun env cs Φ' => ∃ Φ, sw env cs Φ ∧ Φ' = dropP K cs.length Φ
theorem own_any {M B H : Hp} {ps q : List Addr} {l : List Addr} {m : List Cell} (h : Pr (OwnOk K M B H ps) l m) (hc : ∀ c ∈ m, c = .dead ∨ Closed K c) : Pr (OwnOk K M B H q) l m := by
  induction h with
  | nil => exact .nil
  | @cons p c l m r _ ih =>
    refine .cons ?_ (ih fun c hc' => hc c (List.mem_cons_of_mem _ hc'))
    rcases r with r | ⟨r1, r2, o, r3, r4⟩
    · exact .inl r
    · rcases hc c List.mem_cons_self with z | z
      · exact .inl z
      · exact .inr ⟨r1, r2, o, r3, z.2 _ _ _ _ r4⟩
theorem sta_take {M0 B M H : Hp} {ps : List Addr} {n : Nat} (S : Sta K M0 B [] M H [] ps cs) (hc : ∀ c ∈ cs.take n, c = .dead ∨ Closed K c) : Sta K M0 B [] M H [] (ps.take n) (cs.take n) :=
  ⟨S.mh, S.m0, S.bh, S.bm, .nil, own_any (S.cl.take n) hc, fun p hp => S.hv p (List.mem_of_mem_take hp), List.Nodup.sublist (List.take_sublist n ps) S.nd⟩
theorem fsp_drop {vs : List V} {H : Hp} {Q : VK} {E : XK} (h : FSp K sw vs H Q E) : FSp K (dropW K sw) vs H Q E := by
  obtain ⟨M, ps, env, cs, Φ, h1, S, h2⟩ := h
  refine ⟨M, ps, env, cs, _, ⟨Φ, h1, rfl⟩, S, fun v s M' H' ps' cs' ⟨n, n1, n2, n3, n4⟩ S' f ok => h2 v s M' H' (ps'.take n) (cs'.take n) n4 (sta_take S' n3) ?_ (ok.below n2)⟩
  obtain ⟨t, rfl⟩ := f
  have hl : ps.length ≤ n := by rw [S.cl.len]; exact n1
  refine ⟨t.take (n - ps.length), ?_⟩
  rw [List.take_append, List.take_of_length_le hl]
/-- a def that may leave objects of its own behind -/
theorem fn_okD {qual : PySem.Str} {params : Arguments} {body : List Stmt} {scope : Scope} {dvs : List V} {kws : List (PySem.Str × V)} {base : Heap} {f : Addr} {fd : FuncData} (F : FunD K x qual params body scope dvs kws f fd) (SC : FnScope N pl scope)
    (len : ∀ env cs Φ, sw env cs Φ → env.length = pl.length ∧ env.length ≤ N.length)
    (hb : ∀ X, CxI P w K mg base N scope k X → FnT X → ∀ env cs Φ, sw env cs Φ → WS X body (env ++ List.replicate (N.length - env.length) .no) cs (endsF (dropP K cs.length Φ))) : FnOk P w K mg base CX0 (k + 1) f fd pl (FSp K sw) := by
  have h := fn_okA (sw := dropW K sw) (P := P) (w := w) (mg := mg) (base := base) (k := k) F SC (fun env cs Φ' ⟨Φ, h1, _⟩ => len env cs Φ h1) fun X ci hf env cs Φ' ⟨Φ, h1, h2⟩ => by
    subst h2
    exact hb X ci hf env cs Φ h1
  exact h.imp fun _ _ _ _ q => fsp_drop q
theorem drop0 {α : Type} {iα : Enc α} {y : α} (h : Φ (.d α iα y) []) : dropP K 0 Φ (.d α iα y) cs := ⟨0, Nat.le_refl _, nofun, fun c hc => by simp at hc, by rw [List.take_zero]; exact h⟩
theorem drop1 {α : Type} {iα : Enc α} {y : α} {c : Cell} (hc : Closed K c) (h : Φ (.d α iα y) [c]) : dropP K 1 Φ (.d α iα y) (c :: cs) := ⟨1, Nat.le_refl _, nofun, fun d hd => by
  rw [List.take_succ_cons, List.take_zero] at hd
  rw [List.mem_singleton.mp hd]; exact .inr hc, by rw [List.take_succ_cons, List.take_zero]; exact h⟩
theorem dif {α : Type} {iα : Enc α} {c : Expr} {kb : Bool} {y z : α} (h : DT X env cs c kb) (h1 : kb = true → DE X env cs a (.d α iα y)) (h2 : kb = false → DE X env cs b (.d α iα z)) : DE X env cs (.IfExp c a b pos) (.d α iα (if kb = true then y else z)) := de_if h h1 h2
theorem DT.conv {c : Expr} {b b' : Bool} (h : DT X env cs c b') (e : b' = b) : DT X env cs c b := e ▸ h
theorem DE.conv {y y' : Slot} (h : DE X env cs e y') (hy : y' = y) : DE X env cs e y := hy ▸ h
/-! ### a statement's want cut out -/
theorem w1_cut {st : Stmt} (R : WantE) (h : W1 X st env cs (D.next R)) (q : ∀ env' cs', R env' cs' → D.nx env' cs') : W1 X st env cs D := fun M0 B σ M H ps S D' p =>
  h M0 B σ M H ps S D' ⟨fun σ' M' H' env' ps' cs' r S' e f => p.nx σ' M' H' env' ps' cs' (q _ _ r) S' e f, p.rt, p.bk, p.ct⟩
def frz (j : Nat) (y : Slot) : Slot → Slot
  | .c k => if k = j then y else .c k
  | s => s
theorem wfz {sts : List Stmt} {α : Type} {iα : Enc α} {xs : List α} (n : Nat) (hc : cs[n]? = some (.tl α iα xs)) (env' : List Slot) (he : env' = env.map (frz n (.d (List α) (@encList α iα) xs))) (h : WS X sts env' (cs.set n .dead) D) : WS X sts env cs D := ws_freeze n hc env' (by rw [he]; apply List.map_congr_left; intro s _; cases s <;> rfl) h
/-- a name's slot seen otherwise -/
theorem ws_le {sts : List Stmt} (i : Nat) (h : env[i]? = some s) (hn : s ≠ .no) (l : SlotLe s s') (q : WS X sts (env.set i s') cs D) : WS X sts env cs D := fun M0 B σ M H ps S D' p => by
  refine q M0 B σ M H ps (S.names ?_) D' p
  have hp := S.sl
  clear S q p
  induction hp generalizing i with
  | nil => exact .nil
  | @cons a y la lb r rs ih =>
    cases i with
    | zero =>
      cases h
      exact .cons (r.elim (fun z => absurd z hn) fun ⟨v, h1, h2⟩ => .inr ⟨v, h1, l _ _ _ _ h2⟩) rs
    | succ i => exact .cons r (ih i h)
/-! ### loops -/
theorem wfor {body : List Stmt} {is : List Nat} (ci : CxI P w K mg base N sc j X) (hs : ∀ x, foldedSetIterable iter X.env x = pure x)
    (h : WI X tg iter env cs fun ss cs1 => ∃ I : Nat → WantE, I 0 env cs1 ∧ (∀ i env' cs' s, ss[i]? = some s → I i env' cs' → WG X is tg s env' cs' fun env2 cs2 => WS X body env2 cs2 (D.loop (I (i + 1)))) ∧ ∀ env' cs', I ss.length env' cs' → D.nx env' cs') : W1 X (.For tg iter body [] pos) env cs D := w1_for ci.po ci.calm h hs
theorem wr1 {Φ : WantI} (ci : CxI P w K mg base N sc j X) (hm : mg "range" = none) (hg : gloB sc "range" = true) (hs : starEach [e] X.env = [(false, eval e X.env)]) (h : WE X env cs e fun s cs' => ∃ n : Int, s = .of n ∧ n ≤ 16777216 ∧ -(2 ^ 62) ≤ n ∧ Φ ((rngL 0 n.toNat).map Slot.of) cs') : WI X tg (.Call (.Name "range" p) [e] [] pos) env cs Φ :=
  wi_range1 (by rw [ci.tab]; exact hm) (wa_cons (WE.imp h fun s cs' ⟨n, h1, h2, h3, h4⟩ => wa_nil ⟨n, by rw [h1], h2, h3, h4⟩) hs) (ci.glo hg) hs
theorem WI.di {α : Type} {iα : Enc α} {xs : List α} {Φ : WantI} (h : @DI X tg iter env cs α iα xs) (q : Φ (xs.map Slot.of) cs) : WI X tg iter env cs Φ := h Φ q
theorem rng_slot {lo : Int} {n i : Nat} {s : Slot} (h : ((rngL lo n).map Slot.of)[i]? = some s) : i < n ∧ s = .of (lo + (i : Int)) := by
  obtain ⟨y, h1, rfl⟩ := slots_get h
  have hl := (List.getElem?_eq_some_iff.mp h1).1
  rw [rng_len] at hl
  rw [rng_get hl] at h1
  cases h1
  exact ⟨hl, rfl⟩
/-! ### own lists -/
theorem apD {α : Type} {iα : Enc α} {xs : List α} {y : α} {n : Nat} {cpos : Pos'} (ho : DE X env cs o (.c n)) (hc : cs[n]? = some (.tl α iα xs)) (h : DE X env cs e (.d α iα y)) (hl : xs.length < sizeLine)
    (h1 : attributeBase o "append" X.env (eval o X.env) = eval o X.env)
    (h2 : ((backTo cpos (starEach [e] X.env)).all (fun x => !x.1) && (backToKw cpos (keywordEach [] X.env)).all (fun x => x.1.isSome) && decide ([e].length + ([] : List Keyword).length + (if ([] : List Keyword).isEmpty then 0 else 1) < 30)) = true)
    (h3 : (apos.endLine == cpos.line) = true) (h4 : starEach [e] X.env = (false, eval e X.env) :: starEach [] X.env) (h5 : (backTo cpos (starEach [] X.env)).any (·.1) = false)
    (q : Φ (.of ()) (cs.set n (.tl α iα (xs ++ [y])))) : WE X env cs (.Call (.Attribute o "append" apos) [e] [] cpos) Φ := we_append n hc ho (h _ ⟨xs, y, hc, rfl, hl, q⟩) h1 h2 h3 h4 h5
/-! ### the laws' draws -/
structure LSt where
  cells : List Int
  i : Int
  left : Int
  mix : Int
abbrev stC (t : LSt) : Cell := .dk [(.inr "cells", .of t.cells), (.inr "at", .of t.i), (.inr "left", .of t.left), (.inr "mix", .of t.mix)]
structure LOk (t : LSt) : Prop where
  c : ∀ x ∈ t.cells, 0 ≤ x
  i : 0 ≤ t.i
  left : 0 ≤ t.left
  mix : 0 ≤ t.mix ∧ t.mix < 2147483647
theorem closed_st {t : LSt} : Closed K (stC t) := closed_dk (by
  intro z hz
  simp only [List.mem_cons, List.not_mem_nil, or_false] at hz
  rcases hz with rfl | rfl | rfl | rfl <;> exact ⟨_, _, _, rfl⟩)
/-- a bound that the draw takes -/
def DBd (n : Int) : Prop := 0 < n ∧ n < 2 ^ 200
theorem DBd.wide {n m : Int} (h : DBd n) : CDivW m n := ⟨h.1, by
  obtain ⟨h1, h2⟩ := h
  have h3 : n.natAbs < 2 ^ 200 := by omega
  have h4 := (Nat.log2_lt (by omega : n.natAbs ≠ 0)).mpr h3
  omega⟩
def swStart : SpecW := fun env cs Φ => ∃ xs : List Int, env = [.of xs] ∧ cs = [] ∧ xs.length ≤ 63 ∧ ∀ t, LOk t → Φ (.c 0) [stC t]
def swDraw : SpecW := fun env cs Φ => ∃ (t : LSt) (n : Int), env = [.c 0, .of n] ∧ cs = [stC t] ∧ LOk t ∧ DBd n ∧ ∀ (r : Int) t', 0 ≤ r → r < n → LOk t' → Φ (.of r) [stC t']
def swPick : SpecW := fun env cs Φ => ∃ (t : LSt) (α : Type) (_ : Enc α) (xs : List α), env = [.c 0, .of xs] ∧ cs = [stC t] ∧ LOk t ∧ xs ≠ [] ∧ xs.length < 2 ^ 100 ∧ ∀ x ∈ xs, ∀ t', LOk t' → Φ (.of x) [stC t']
/-- _law_draw(o, b) -/
theorem drw {pl : List PySem.Str} (ci : CxI P w K mg base N sc j X) (F : FnR P w K mg base k x pl swDraw) (hj : k ≤ j) (hg : gloB sc x = true) (hc : CallOk X o [b] pos) (hc2 : starEach [b] X.env = [(false, eval b X.env)])
    (ho : DE X env cs o (.c 0)) (h : WE X env cs b fun s cs1 => ∃ (n : Int) (t : LSt) (rest : List Cell), s = .of n ∧ cs1 = stC t :: rest ∧ LOk t ∧ DBd n ∧ ∀ (r : Int) t', 0 ≤ r → r < n → LOk t' → Φ (.of r) (stC t' :: rest)) : WE X env cs (.Call (.Name x p) (o :: [b]) [] pos) Φ := by
  refine cfn1 ci F hj hg hc (wa_cons (ho _ (wa_cons (WE.imp h ?_) hc2)) hc.1)
  rintro s cs1 ⟨n, t, rest, rfl, rfl, l, d, q⟩
  refine wa_nil ⟨0, stC t, [.c 0, .of n], rfl, closed_st, rfl, fun s hs => ?_, t, n, rfl, rfl, l, d, fun r t' h1 h2 h3 => ⟨stC t', rfl, closed_st, ⟨_, _, _, rfl⟩, q r t' h1 h2 h3⟩⟩
  simp only [List.mem_cons, List.not_mem_nil, or_false] at hs
  rcases hs with rfl | rfl
  · exact .inl rfl
  · exact .inr ⟨_, _, _, rfl⟩
theorem pck {pl : List PySem.Str} (ci : CxI P w K mg base N sc j X) (F : FnR P w K mg base k x pl swPick) (hj : k ≤ j) (hg : gloB sc x = true) (hc : CallOk X o [b] pos) (hc2 : starEach [b] X.env = [(false, eval b X.env)])
    (ho : DE X env cs o (.c 0)) (h : WE X env cs b fun s cs1 => ∃ (α : Type) (iα : Enc α) (xs : List α) (t : LSt) (rest : List Cell), s = .of xs ∧ cs1 = stC t :: rest ∧ LOk t ∧ xs ≠ [] ∧ xs.length < 2 ^ 100 ∧ ∀ x ∈ xs, ∀ t', LOk t' → Φ (.of x) (stC t' :: rest)) : WE X env cs (.Call (.Name x p) (o :: [b]) [] pos) Φ := by
  refine cfn1 ci F hj hg hc (wa_cons (ho _ (wa_cons (WE.imp h ?_) hc2)) hc.1)
  rintro s cs1 ⟨α, iα, xs, t, rest, rfl, rfl, l, d, d2, q⟩
  refine wa_nil ⟨0, stC t, [.c 0, .of xs], rfl, closed_st, rfl, fun s hs => ?_, t, α, iα, xs, rfl, rfl, l, d, d2, fun r hr t' h3 => ⟨stC t', rfl, closed_st, ⟨_, _, _, rfl⟩, q r hr t' h3⟩⟩
  simp only [List.mem_cons, List.not_mem_nil, or_false] at hs
  rcases hs with rfl | rfl
  · exact .inl rfl
  · exact .inr ⟨_, _, _, rfl⟩
end
end DL

set_option Elab.async false
set_option linter.all false
set_option maxRecDepth 100000
set_option maxHeartbeats 2000000
namespace K30
open PySem PyProof.Rows L2 DL
def top (i : Nat) : Stmt := PySem.Challenge.pw_foreverdays_k30_whole_kept_clocks.main.body.getD i (.Pass ⟨0, 0, 0, 0⟩)
abbrev s_ratio_up : Stmt := top 1
abbrev p_ratio_up : List PySem.Str := ["number", "divisor"]
abbrev N_ratio_up : List PySem.Str := ["number", "divisor"]
theorem sc_ratio_up : FnScope N_ratio_up p_ratio_up (defScope s_ratio_up) := ⟨rfl, rfl, rfl, by decide +kernel, rfl, by decide +kernel, by decide +kernel⟩
abbrev F_ratio_up (K : Fg) (f : Addr) (fd : FuncData) : Prop := FunD K "ratio_up" "ratio_up" (defArgs s_ratio_up) (defBody s_ratio_up) (defScope s_ratio_up) [] [] f fd
def d_ratio_up : He.DefD := ⟨("ratio_up", none), "ratio_up", "ratio_up", defArgs s_ratio_up, defBody s_ratio_up, defScope s_ratio_up, [], []⟩
-- slots of ratio_up: number 0, divisor 1
abbrev s_agreement : Stmt := top 4
abbrev p_agreement : List PySem.Str := ["sources", "f"]
abbrev N_agreement : List PySem.Str := ["sources", "f", "enough", "lows", "highs", "good", "low", "_", "high", "number"]
theorem sc_agreement : FnScope N_agreement p_agreement (defScope s_agreement) := ⟨rfl, rfl, rfl, by decide +kernel, rfl, by decide +kernel, by decide +kernel⟩
abbrev F_agreement (K : Fg) (f : Addr) (fd : FuncData) : Prop := FunD K "agreement" "agreement" (defArgs s_agreement) (defBody s_agreement) (defScope s_agreement) [] [] f fd
def d_agreement : He.DefD := ⟨("agreement", none), "agreement", "agreement", defArgs s_agreement, defBody s_agreement, defScope s_agreement, [], []⟩
-- slots of agreement: sources 0, f 1, enough 2, lows 3, highs 4, good 5, low 6, _ 7, high 8, number 9
-- line 10: own := [("number", 9)]
-- line 8: own := [("low", 6), ("_", 7)]
-- line 9: own := [("_", 7), ("high", 8)]
abbrev s_count_of : Stmt := top 5
abbrev p_count_of : List PySem.Str := ["sources", "number"]
abbrev N_count_of : List PySem.Str := ["sources", "number", "low", "high"]
theorem sc_count_of : FnScope N_count_of p_count_of (defScope s_count_of) := ⟨rfl, rfl, rfl, by decide +kernel, rfl, by decide +kernel, by decide +kernel⟩
abbrev F_count_of (K : Fg) (f : Addr) (fd : FuncData) : Prop := FunD K "count_of" "count_of" (defArgs s_count_of) (defBody s_count_of) (defScope s_count_of) [] [] f fd
def d_count_of : He.DefD := ⟨("count_of", none), "count_of", "count_of", defArgs s_count_of, defBody s_count_of, defScope s_count_of, [], []⟩
-- slots of count_of: sources 0, number 1, low 2, high 3
-- line 13: own := [("low", 2), ("high", 3)]
abbrev s_KeptClock_init : Stmt := inClass (top 6) 0
abbrev p_KeptClock_init : List PySem.Str := ["self", "rate", "low", "high"]
abbrev N_KeptClock_init : List PySem.Str := ["self", "rate", "low", "high"]
theorem sc_KeptClock_init : FnScope N_KeptClock_init p_KeptClock_init (defScope s_KeptClock_init) := ⟨rfl, rfl, rfl, by decide +kernel, rfl, by decide +kernel, by decide +kernel⟩
abbrev F_KeptClock_init (K : Fg) (f : Addr) (fd : FuncData) : Prop := FunD K "__init__" "KeptClock.__init__" (defArgs s_KeptClock_init) (defBody s_KeptClock_init) (defScope s_KeptClock_init) [] [] f fd
def d_KeptClock_init : He.DefD := ⟨("KeptClock", some "__init__"), "__init__", "KeptClock.__init__", defArgs s_KeptClock_init, defBody s_KeptClock_init, defScope s_KeptClock_init, [], []⟩
-- slots of __init__: self 0, rate 1, low 2, high 3
abbrev s_KeptClock_known : Stmt := inClass (top 6) 1
abbrev p_KeptClock_known : List PySem.Str := ["self"]
abbrev N_KeptClock_known : List PySem.Str := ["self"]
theorem sc_KeptClock_known : FnScope N_KeptClock_known p_KeptClock_known (defScope s_KeptClock_known) := ⟨rfl, rfl, rfl, by decide +kernel, rfl, by decide +kernel, by decide +kernel⟩
abbrev F_KeptClock_known (K : Fg) (f : Addr) (fd : FuncData) : Prop := FunD K "known" "KeptClock.known" (defArgs s_KeptClock_known) (defBody s_KeptClock_known) (defScope s_KeptClock_known) [] [] f fd
def d_KeptClock_known : He.DefD := ⟨("KeptClock", some "known"), "known", "KeptClock.known", defArgs s_KeptClock_known, defBody s_KeptClock_known, defScope s_KeptClock_known, [], []⟩
-- slots of known: self 0
abbrev s_KeptClock_count : Stmt := inClass (top 6) 2
abbrev p_KeptClock_count : List PySem.Str := ["self", "d"]
abbrev N_KeptClock_count : List PySem.Str := ["self", "d", "doubt"]
theorem sc_KeptClock_count : FnScope N_KeptClock_count p_KeptClock_count (defScope s_KeptClock_count) := ⟨rfl, rfl, rfl, by decide +kernel, rfl, by decide +kernel, by decide +kernel⟩
abbrev F_KeptClock_count (K : Fg) (f : Addr) (fd : FuncData) : Prop := FunD K "count" "KeptClock.count" (defArgs s_KeptClock_count) (defBody s_KeptClock_count) (defScope s_KeptClock_count) [] [] f fd
def d_KeptClock_count : He.DefD := ⟨("KeptClock", some "count"), "count", "KeptClock.count", defArgs s_KeptClock_count, defBody s_KeptClock_count, defScope s_KeptClock_count, [], []⟩
-- slots of count: self 0, d 1, doubt 2
abbrev s_KeptClock_hear : Stmt := inClass (top 6) 3
abbrev p_KeptClock_hear : List PySem.Str := ["self", "sources", "f"]
abbrev N_KeptClock_hear : List PySem.Str := ["self", "sources", "f", "found"]
theorem sc_KeptClock_hear : FnScope N_KeptClock_hear p_KeptClock_hear (defScope s_KeptClock_hear) := ⟨rfl, rfl, rfl, by decide +kernel, rfl, by decide +kernel, by decide +kernel⟩
abbrev F_KeptClock_hear (K : Fg) (f : Addr) (fd : FuncData) : Prop := FunD K "hear" "KeptClock.hear" (defArgs s_KeptClock_hear) (defBody s_KeptClock_hear) (defScope s_KeptClock_hear) [] [] f fd
def d_KeptClock_hear : He.DefD := ⟨("KeptClock", some "hear"), "hear", "KeptClock.hear", defArgs s_KeptClock_hear, defBody s_KeptClock_hear, defScope s_KeptClock_hear, [], []⟩
-- slots of hear: self 0, sources 1, f 2, found 3
abbrev s_law_start : Stmt := top 8
abbrev p_law_start : List PySem.Str := ["script"]
abbrev N_law_start : List PySem.Str := ["script", "cell"]
theorem sc_law_start : FnScope N_law_start p_law_start (defScope s_law_start) := ⟨rfl, rfl, rfl, by decide +kernel, rfl, by decide +kernel, by decide +kernel⟩
abbrev F_law_start (K : Fg) (f : Addr) (fd : FuncData) : Prop := FunD K "_law_start" "_law_start" (defArgs s_law_start) (defBody s_law_start) (defScope s_law_start) [] [] f fd
def d_law_start : He.DefD := ⟨("_law_start", none), "_law_start", "_law_start", defArgs s_law_start, defBody s_law_start, defScope s_law_start, [], []⟩
-- slots of _law_start: script 0, cell 1
-- line 38: own := [("cell", 1)]
abbrev s_law_draw : Stmt := top 9
abbrev p_law_draw : List PySem.Str := ["state", "bound"]
abbrev N_law_draw : List PySem.Str := ["state", "bound", "cell", "number"]
theorem sc_law_draw : FnScope N_law_draw p_law_draw (defScope s_law_draw) := ⟨rfl, rfl, rfl, by decide +kernel, rfl, by decide +kernel, by decide +kernel⟩
abbrev F_law_draw (K : Fg) (f : Addr) (fd : FuncData) : Prop := FunD K "_law_draw" "_law_draw" (defArgs s_law_draw) (defBody s_law_draw) (defScope s_law_draw) [] [] f fd
def d_law_draw : He.DefD := ⟨("_law_draw", none), "_law_draw", "_law_draw", defArgs s_law_draw, defBody s_law_draw, defScope s_law_draw, [], []⟩
-- slots of _law_draw: state 0, bound 1, cell 2, number 3
abbrev s_law_pick : Stmt := top 10
abbrev p_law_pick : List PySem.Str := ["state", "things"]
abbrev N_law_pick : List PySem.Str := ["state", "things"]
theorem sc_law_pick : FnScope N_law_pick p_law_pick (defScope s_law_pick) := ⟨rfl, rfl, rfl, by decide +kernel, rfl, by decide +kernel, by decide +kernel⟩
abbrev F_law_pick (K : Fg) (f : Addr) (fd : FuncData) : Prop := FunD K "_law_pick" "_law_pick" (defArgs s_law_pick) (defBody s_law_pick) (defScope s_law_pick) [] [] f fd
def d_law_pick : He.DefD := ⟨("_law_pick", none), "_law_pick", "_law_pick", defArgs s_law_pick, defBody s_law_pick, defScope s_law_pick, [], []⟩
-- slots of _law_pick: state 0, things 1
abbrev s_law_is : Stmt := top 11
abbrev p_law_is : List PySem.Str := ["actual", "due"]
abbrev N_law_is : List PySem.Str := ["actual", "due"]
theorem sc_law_is : FnScope N_law_is p_law_is (defScope s_law_is) := ⟨rfl, rfl, rfl, by decide +kernel, rfl, by decide +kernel, by decide +kernel⟩
abbrev F_law_is (K : Fg) (f : Addr) (fd : FuncData) : Prop := FunD K "_law_is" "_law_is" (defArgs s_law_is) (defBody s_law_is) (defScope s_law_is) [] [] f fd
def d_law_is : He.DefD := ⟨("_law_is", none), "_law_is", "_law_is", defArgs s_law_is, defBody s_law_is, defScope s_law_is, [], []⟩
-- slots of _law_is: actual 0, due 1
abbrev s_law_agreement : Stmt := top 12
abbrev p_law_agreement : List PySem.Str := ["sources", "f"]
abbrev N_law_agreement : List PySem.Str := ["sources", "f", "enough", "good", "number", "source"]
theorem sc_law_agreement : FnScope N_law_agreement p_law_agreement (defScope s_law_agreement) := ⟨rfl, rfl, rfl, by decide +kernel, rfl, by decide +kernel, by decide +kernel⟩
abbrev F_law_agreement (K : Fg) (f : Addr) (fd : FuncData) : Prop := FunD K "_law_agreement" "_law_agreement" (defArgs s_law_agreement) (defBody s_law_agreement) (defScope s_law_agreement) [] [] f fd
def d_law_agreement : He.DefD := ⟨("_law_agreement", none), "_law_agreement", "_law_agreement", defArgs s_law_agreement, defBody s_law_agreement, defScope s_law_agreement, [], []⟩
-- slots of _law_agreement: sources 0, f 1, enough 2, good 3, number 4, source 5
-- line 60: own := [("source", 5)]
-- line 60: own := [("source", 5)]
-- line 61: own := [("source", 5)]
abbrev s_law_source : Stmt := top 13
abbrev p_law_source : List PySem.Str := ["state", "time", "is_right"]
abbrev N_law_source : List PySem.Str := ["state", "time", "is_right", "low"]
theorem sc_law_source : FnScope N_law_source p_law_source (defScope s_law_source) := ⟨rfl, rfl, rfl, by decide +kernel, rfl, by decide +kernel, by decide +kernel⟩
abbrev F_law_source (K : Fg) (f : Addr) (fd : FuncData) : Prop := FunD K "_law_source" "_law_source" (defArgs s_law_source) (defBody s_law_source) (defScope s_law_source) [] [] f fd
def d_law_source : He.DefD := ⟨("_law_source", none), "_law_source", "_law_source", defArgs s_law_source, defBody s_law_source, defScope s_law_source, [], []⟩
-- slots of _law_source: state 0, time 1, is_right 2, low 3
abbrev s_law : Stmt := top 14
abbrev p_law : List PySem.Str := ["script"]
abbrev N_law : List PySem.Str := ["script", "state", "time", "rate", "mine", "clock", "other", "honest", "step", "d", "doubt", "many", "f", "wrong", "sources", "k", "due", "kept", "is_met"]
theorem sc_law : FnScope N_law p_law (defScope s_law) := ⟨rfl, rfl, rfl, by decide +kernel, rfl, by decide +kernel, by decide +kernel⟩
abbrev F_law (K : Fg) (f : Addr) (fd : FuncData) : Prop := FunD K "law" "law" (defArgs s_law) (defBody s_law) (defScope s_law) [] [] f fd
def d_law : He.DefD := ⟨("law", none), "law", "law", defArgs s_law, defBody s_law, defScope s_law, [], []⟩
-- slots of law: script 0, state 1, time 2, rate 3, mine 4, clock 5, other 6, honest 7, step 8, d 9, doubt 10, many 11, f 12, wrong 13, sources 14, k 15, due 16, kept 17, is_met 18
end K30

set_option Elab.async false
set_option linter.all false
set_option maxRecDepth 100000
set_option maxHeartbeats 2000000
namespace K30
open PySem PyProof.Rows L2 DL
/-! ### the walk's steps -/
local macro_rules | `(tactic| walk_at "nm") => `(tactic| ((with_reducible_and_instances refine' nm ?ci ?ix ?sl ?vi ?ne); (case' ci => (with_reducible_and_instances assumption)); (case' ix => exact rfl); (case' sl => exact rfl); (case' vi => decide +kernel); (case' ne => nofun)))
local macro_rules | `(tactic| walk_at "side") => `(tactic| first | assumption | decide | omega | exact .inl ⟨by omega, by omega⟩ | exact .inr ⟨by omega, by omega⟩ | exact ⟨by omega, by omega⟩)
local macro_rules | `(tactic| walk_at "bin") => `(tactic| first
  | with_reducible_and_instances exact b_add | with_reducible_and_instances exact b_sub | ((with_reducible_and_instances refine' b_mul ?sd1); (case' sd1 => (first | exact .inr ⟨by decide, by decide⟩ | exact .inl ⟨by decide, by decide⟩ | skip))) | ((with_reducible_and_instances refine' b_mod ?sd1); (case' sd1 => (first | assumption | decide | skip))) | with_reducible_and_instances refine' b_div ?side | with_reducible_and_instances refine' b_pow ?side | with_reducible_and_instances refine' b_catL ?side | with_reducible_and_instances refine' b_catS ?side)
local macro_rules | `(tactic| walk_at "cmp") => `(tactic| first
  | with_reducible_and_instances exact c_isN_unit | with_reducible_and_instances exact c_isN | with_reducible_and_instances exact c_isNo | with_reducible_and_instances exact c_notN_unit | with_reducible_and_instances exact c_notN | with_reducible_and_instances exact c_notNo
  | with_reducible_and_instances exact c_lt | with_reducible_and_instances exact c_le | with_reducible_and_instances exact c_gt | with_reducible_and_instances exact c_ge | with_reducible_and_instances exact c_eq_int | with_reducible_and_instances exact c_ne_int | with_reducible_and_instances exact c_eq_bl | with_reducible_and_instances exact c_ne_bl | with_reducible_and_instances exact c_eq_str | with_reducible_and_instances exact c_ne_str
  | ((with_reducible_and_instances refine' c_eq_py ?hr ?hd); (case' hr => (with_reducible_and_instances exact CxI.room (by assumption))); (case' hd => decide)) | ((with_reducible_and_instances refine' c_ne_py ?hr ?hd); (case' hr => (with_reducible_and_instances exact CxI.room (by assumption))); (case' hd => decide)))
local macro_rules | `(tactic| walk_at "ixd") => `(tactic| first
  | with_reducible_and_instances exact x_fst | with_reducible_and_instances exact x_snd | with_reducible_and_instances exact x_t0 | with_reducible_and_instances exact x_t1 | with_reducible_and_instances exact x_t2 | ((with_reducible_and_instances refine' x_list ?sd1); (case' sd1 => (first | assumption | exact at_zero | exact at_one | skip))) | ((with_reducible_and_instances refine' x_tup ?sd1); (case' sd1 => (first | assumption | skip))))
local macro_rules | `(tactic| walk_at "fun") => `(tactic| first
  | ((with_reducible_and_instances refine' f_isi (r := true) ?ki); (case' ki => decide +kernel)) | ((with_reducible_and_instances refine' f_isi (r := false) ?ki); (case' ki => decide +kernel))
  | with_reducible_and_instances exact f_len | with_reducible_and_instances exact f_lenT | with_reducible_and_instances exact f_tuple | with_reducible_and_instances exact f_tupleT | with_reducible_and_instances exact f_list | with_reducible_and_instances exact f_listT
  | with_reducible_and_instances exact f_all (CxI.calm (by assumption)) | with_reducible_and_instances exact f_any (CxI.calm (by assumption)) | with_reducible_and_instances exact f_sum (CxI.calm (by assumption))
  | with_reducible_and_instances refine' f_max (CxI.calm (by assumption)) ?side | with_reducible_and_instances refine' f_min (CxI.calm (by assumption)) ?side | with_reducible_and_instances exact f_max2 (CxI.calm (by assumption)) | with_reducible_and_instances exact f_min2 (CxI.calm (by assumption)) | with_reducible_and_instances exact f_abs | with_reducible_and_instances exact f_int
  | ((with_reducible_and_instances refine' f_sorted ?hr ?hd); (case' hr => (with_reducible_and_instances exact CxI.room (by assumption))); (case' hd => decide)))
local macro_rules | `(tactic| walk_at "tru") => `(tactic| first
  | with_reducible_and_instances exact t_bl | with_reducible_and_instances exact t_int | with_reducible_and_instances exact t_unit | with_reducible_and_instances exact t_list | with_reducible_and_instances exact t_tup)
local macro_rules | `(tactic| walk_at "mkt") => `(tactic| first | with_reducible_and_instances exact mkT_2 | with_reducible_and_instances exact mkT_3 | refine' @mkT_2 _ _ _ _ _ _ _ | refine' @mkT_3 _ _ _ _ _ _ _ _ _ _)
local macro_rules | `(tactic| walk_at "mkl") => `(tactic| first | with_reducible_and_instances exact mkL2 | with_reducible_and_instances exact mkL3 | with_reducible_and_instances exact mkL5 | with_reducible_and_instances exact mkL4 | with_reducible_and_instances exact mkL1 | with_reducible_and_instances exact mkL6)
local macro_rules | `(tactic| walk_at "da") => `(tactic| first
  | with_reducible_and_instances exact da_nil
  | ((with_reducible_and_instances refine' da_cons ?de1 ?da1 ?st); (case' de1 => (walk_at "de")); (case' da1 => (walk_at "da")); (case' st => rfl)))
local macro_rules | `(tactic| walk_at "callOk") => `(tactic| exact ⟨rfl, rfl⟩)
local macro_rules | `(tactic| walk_at "call") => `(tactic| first
  | ((with_reducible_and_instances refine' cB ?ci ?hm ?hv ?hg ?hc ?dac ?dop); (case' ci => (with_reducible_and_instances assumption)); (case' hm => assumption); (case' hv => infer_instance); (case' hg => decide +kernel); (case' hc => (walk_at "callOk")); (case' dac => (walk_at "da")); (case' dop => (walk_at "fun")))
  | ((with_reducible_and_instances refine' cT ?ci ?hm ?hv ?hg ?hc ?dac ?dop); (case' ci => (with_reducible_and_instances assumption)); (case' hm => assumption); (case' hv => infer_instance); (case' hg => decide +kernel); (case' hc => (walk_at "callOk")); (case' dac => (walk_at "da")); (case' dop => (walk_at "fun")))
  | ((with_reducible_and_instances refine' c1 ?ci ?hF ?hj ?hg ?hc ?dac ?side); (case' ci => (with_reducible_and_instances assumption)); (case' hF => assumption); (case' hj => decide); (case' hg => decide +kernel); (case' hc => (walk_at "callOk")); (case' dac => (walk_at "da")))
  | ((with_reducible_and_instances refine' c2 ?ci ?hF ?hj ?hg ?hc ?dac ?side); (case' ci => (with_reducible_and_instances assumption)); (case' hF => assumption); (case' hj => decide); (case' hg => decide +kernel); (case' hc => (walk_at "callOk")); (case' dac => (walk_at "da")))
  | ((with_reducible_and_instances refine' c3 ?ci ?hF ?hj ?hg ?hc ?dac ?side); (case' ci => (with_reducible_and_instances assumption)); (case' hF => assumption); (case' hj => decide); (case' hg => decide +kernel); (case' hc => (walk_at "callOk")); (case' dac => (walk_at "da"))))
local macro_rules | `(tactic| walk_at "dt") => `(tactic| first
  | ((with_reducible_and_instances refine' dt_cmp ?dea ?deb ?dop ?mk); (case' dea => (walk_at "de")); (case' deb => (walk_at "de")); (case' dop => (walk_at "cmp")); (case' mk => first | exact nomark _ | rfl))
  | ((with_reducible_and_instances refine' dt_chain ?dea ?deb ?dop (fun hc => ⟨?dec, ?dop2⟩) ?mk); (case' dea => (walk_at "de")); (case' deb => (walk_at "de")); (case' dop => (walk_at "cmp")); (case' dec => (walk_at "de")); (case' dop2 => (walk_at "cmp")); (case' mk => (with_unfolding_all rfl)))
  | ((with_reducible_and_instances refine' dt_not ?dta); (case' dta => (walk_at "dt")))
  | ((with_reducible_and_instances refine' dt_w ?dwa); (case' dwa => (walk_at "dw")))
  | (refine' dt_val ?dea ?dop (fun _ => rfl); (case' dea => (walk_at "de")); (case' dop => (walk_at "tru"))))
local macro_rules | `(tactic| walk_at "dw") => `(tactic| first
  | ((with_reducible_and_instances refine' dw_and1 ?dta); (case' dta => (walk_at "dt")))
  | ((with_reducible_and_instances refine' dw_or1 ?dta); (case' dta => (walk_at "dt")))
  | ((with_reducible_and_instances refine' dw_orT ?dta); (case' dta => (walk_at "dt")))
  | ((with_reducible_and_instances refine' dw_andF ?dta); (case' dta => (walk_at "dt")))
  | ((with_reducible_and_instances refine' dw_and ?dta (fun hand => ?dwa)); (case' dta => (walk_at "dt")); (case' dwa => (walk_at "dw")))
  | ((with_reducible_and_instances refine' dw_or ?dta (fun hor => ?dwa)); (case' dta => (walk_at "dt")); (case' dwa => (walk_at "dw"))))
local macro_rules | `(tactic| walk_at "de") => `(tactic| first
  | with_reducible_and_instances exact de_int | with_reducible_and_instances exact de_str | with_reducible_and_instances exact de_bl | with_reducible_and_instances exact de_non
  | walk_at "nm"
  | ((with_reducible_and_instances refine' ngi ?ci ?hm ?hg); (case' ci => (with_reducible_and_instances assumption)); (case' hm => assumption); (case' hg => decide +kernel))
  | ((with_reducible_and_instances refine' nty ?ci ?hm ?hv ?hg); (case' ci => (with_reducible_and_instances assumption)); (case' hm => assumption); (case' hv => infer_instance); (case' hg => decide +kernel))
  | ((with_reducible_and_instances refine' de_bin ?dea ?deb ?dop); (case' dea => (walk_at "de")); (case' deb => (walk_at "de")); (case' dop => (walk_at "bin")))
  | ((with_reducible_and_instances refine' de_cmp ?dea ?deb ?dop ?mk); (case' dea => (walk_at "de")); (case' deb => (walk_at "de")); (case' dop => (walk_at "cmp")); (case' mk => first | exact nomark _ | rfl))
  | ((with_reducible_and_instances refine' de_chain ?dea ?deb ?dop (fun hc => ⟨?dec, ?dop2⟩) ?mk); (case' dea => (walk_at "de")); (case' deb => (walk_at "de")); (case' dop => (walk_at "cmp")); (case' dec => (walk_at "de")); (case' dop2 => (walk_at "cmp")); (case' mk => (with_unfolding_all rfl)))
  | walk_at "call"
  | ((with_reducible_and_instances refine' de_tup ?dac ?dop); (case' dac => (walk_at "da")); (case' dop => (walk_at "mkt")))
  | ((with_reducible_and_instances refine' de_lst ?dac ?dop); (case' dac => (walk_at "da")); (case' dop => (walk_at "mkl")))
  | ((with_reducible_and_instances refine' de_un ?dea ?dop); (case' dea => (walk_at "de")); (case' dop => (with_reducible_and_instances exact un_neg_int)))
  | ((with_reducible_and_instances refine' de_cut ?dea ?dol ?doh); (case' dea => (walk_at "de")); (case' dol => (walk_at "do")); (case' doh => (walk_at "do")))
  | ((with_reducible_and_instances refine' gf ?ci ?ho ?hc ?c ?na ?hl ?hb); (case' ci => (with_reducible_and_instances assumption)); (case' ho => (walk_at "de")); (case' hc => exact rfl); (case' c => assumption); (case' na => assumption); (case' hl => exact rfl); (case' hb => exact rfl))
  | ((with_reducible_and_instances refine' dgx ?ci ?ho ?hc ?ha ?hk ?hi ?hg ?hs); (case' ha => (with_reducible_and_instances exact de_str)); (case' ci => (with_reducible_and_instances assumption)); (case' ho => (walk_at "nm")); (case' hc => exact rfl); (case' hk => exact key_str); (case' hi => exact rfl); (case' hg => exact rfl); (case' hs => (walk_at "nosl")))
  | ((with_reducible_and_instances refine' de_ix ?dea ?deb ?dop ?pl); (case' dea => (walk_at "de")); (case' deb => (walk_at "de")); (case' dop => (walk_at "ixd")); (case' pl => (exact fun _ _ => rfl)))
  | ((with_reducible_and_instances refine' de_not1 ?dea); (case' dea => (walk_at "de")))
  | ((with_reducible_and_instances refine' de_and1 ?dea); (case' dea => (walk_at "de")))
  | ((with_reducible_and_instances refine' de_orT ?dea); (case' dea => (walk_at "de")))
  | ((with_reducible_and_instances refine' de_andF ?dea); (case' dea => (walk_at "de")))
  | ((with_reducible_and_instances refine' de_and ?dea (fun hand => ?deb)); (case' dea => (walk_at "de")); (case' deb => (walk_at "de")))
  | ((with_reducible_and_instances refine' de_or ?dea (fun hor => ?deb)); (case' dea => (walk_at "de")); (case' deb => (walk_at "de")))
  | ((with_reducible_and_instances refine' dif ?dtt (fun hk => ?dea) (fun hk => ?deb)); (case' dtt => (walk_at "dt")); (case' dea => (walk_at "de")); (case' deb => (walk_at "de")))
  | walk_at "comp"
  | walk_at "de more")
local macro_rules | `(tactic| walk_at "do") => `(tactic| first | with_reducible_and_instances exact do_none | ((with_reducible_and_instances refine' do_some ?dea); (case' dea => (walk_at "de"))))
local macro_rules | `(tactic| walk_at "dts") => `(tactic| first | with_reducible_and_instances exact dts_nil | ((with_reducible_and_instances refine' dts_one ?dtt); (case' dtt => (walk_at "dt"))))
local macro_rules | `(tactic| walk_at "turn") => `(tactic| (intro x hx; (refine' LcT.mk' ?h ?hp ?hy); (case' h => (intro Y cY; walk_at "tg"; (refine' ⟨rfl, ?ts, ?el⟩); (case' ts => (intro Z cZ; walk_at "dts")); (case' el => (intro hk Z cZ; walk_at "de")))); (case' hp => exact rfl); (case' hy => exact fun _ => rfl)))
local macro_rules | `(tactic| walk_at "comp") => `(tactic| first
  | ((with_reducible_and_instances refine' lc0 ?ci ?ow ?hf ?di ?turn); (case' ci => (with_reducible_and_instances assumption)); (case' ow => (walk_at "own")); (case' hf => (exact fun _ => rfl)); (case' di => (walk_at "di")); (case' turn => (walk_at "turn")))
  | ((with_reducible_and_instances refine' lc ?ci ?ow ?hf ?di ?turn); (case' ci => (with_reducible_and_instances assumption)); (case' ow => (walk_at "own")); (case' hf => (exact fun _ => rfl)); (case' di => (walk_at "di")); (case' turn => (walk_at "turn"))))
local macro_rules | `(tactic| walk_at "di") => `(tactic| first
  | ((with_reducible_and_instances refine' r1 ?ci ?hm ?hg ?hs ?dac ?side); (case' ci => (with_reducible_and_instances assumption)); (case' hm => assumption); (case' hg => decide +kernel); (case' hs => rfl); (case' dac => (walk_at "da")))
  | ((with_reducible_and_instances refine' r2 ?ci ?hm ?hg ?hs ?hs2 ?dac ?side); (case' ci => (with_reducible_and_instances assumption)); (case' hm => assumption); (case' hg => decide +kernel); (case' hs => rfl); (case' hs2 => rfl); (case' dac => (walk_at "da")))
  | ((with_reducible_and_instances refine' dil ?dea); (case' dea => (walk_at "de")))
  | ((with_reducible_and_instances refine' ditp ?dea); (case' dea => (walk_at "de"))))
local macro_rules | `(tactic| walk_at "tg") => `(tactic| first
  | ((with_reducible_and_instances refine' nmg ?ci ?ix ?hi ?vi ?q); (case' ci => (with_reducible_and_instances assumption)); (case' ix => exact rfl); (case' hi => exact rfl); (case' vi => decide +kernel))
  | ((with_reducible_and_instances refine' nmgC ?ci ?hf ?ix ?hi ?vi ?q); (case' ci => (with_reducible assumption)); (case' hf => (with_reducible assumption)); (case' ix => exact rfl); (case' hi => exact rfl); (case' vi => decide +kernel))
  | ((with_reducible_and_instances refine' wgt ?ci ?un ?hn ?q ?hi); (case' ci => (with_reducible_and_instances assumption)); (case' un => first | with_reducible_and_instances exact unT_2 | with_reducible_and_instances exact unT_3); (case' hn => (exact ⟨rfl, rfl⟩)); (case' q => (walk_at "tgs")); (case' hi => exact rfl)))
local macro_rules | `(tactic| walk_at "tgs") => `(tactic| first
  | with_reducible_and_instances refine' wgs_nil ?q
  | ((with_reducible_and_instances refine' wgs_cons ?q ?hs); (case' hs => rfl); (case' q => (walk_at "tg")); walk_at "tgs"))
local macro_rules | `(tactic| walk_at "we") => `(tactic| ((with_reducible_and_instances refine' WE.de ?dpure ?_); (case' dpure => (walk_at "de"))))
local macro_rules | `(tactic| walk_at "wt") => `(tactic| ((with_reducible_and_instances refine' WT.dt ?dpure ?_); (case' dpure => (walk_at "dt"))))
local macro_rules | `(tactic| walk_at "if") => `(tactic| ((with_reducible_and_instances refine' w1_ifD ?dpure ?_ ?_); (case' dpure => (walk_at "dt"))))
local macro_rules | `(tactic| walk_at "set") => `(tactic| ((with_reducible_and_instances refine' nms ?ci ?hf ?ix ?vi ?sw ?_); (case' ci => (with_reducible_and_instances assumption)); (case' hf => (with_reducible_and_instances assumption)); (case' ix => exact rfl); (case' vi => decide +kernel); (case' sw => rfl)))
local macro_rules | `(tactic| walk_at "setLc") => `(tactic| first
  | ((with_reducible_and_instances refine' nlc0 ?ci ?ix ?vi ?ow ?hf ?sw ?di ?turn ?_); (case' ci => (with_reducible_and_instances assumption)); (case' ix => exact rfl); (case' vi => decide +kernel); (case' ow => (walk_at "own")); (case' hf => (exact fun _ => rfl)); (case' sw => (walk_at "swp")); (case' di => (walk_at "di")); (case' turn => (walk_at "turn")))
  | ((with_reducible_and_instances refine' nlc ?ci ?ix ?vi ?ow ?hf ?sw ?di ?turn ?_); (case' ci => (with_reducible_and_instances assumption)); (case' ix => exact rfl); (case' vi => decide +kernel); (case' ow => (walk_at "own")); (case' hf => (exact fun _ => rfl)); (case' sw => (walk_at "swp")); (case' di => (walk_at "di")); (case' turn => (walk_at "turn"))))
local macro_rules | `(tactic| walk_at "sf") => `(tactic| first
  | ((with_reducible_and_instances refine' sfD ?ci ?ho ?hc ?c ?na ?hs ?hl ?de1 ?_); (case' ci => (with_reducible_and_instances assumption)); (case' ho => (walk_at "nm")); (case' hc => exact rfl); (case' c => assumption); (case' na => assumption); (case' hs => exact rfl); (case' hl => (exact Nat.le_of_ble_eq_true rfl)); (case' de1 => (walk_at "de")))
  | ((with_reducible_and_instances refine' afD ?ci ?ho ?hc ?c ?na ?hl ?hl2 ?de1 ?au ?_); (case' ci => (with_reducible_and_instances assumption)); (case' ho => (walk_at "nm")); (case' hc => exact rfl); (case' c => assumption); (case' na => assumption); (case' hl => exact rfl); (case' hl2 => (exact Nat.le_of_ble_eq_true rfl)); (case' de1 => (walk_at "de")); (case' au => first | with_reducible_and_instances exact a_add | with_reducible_and_instances exact a_sub)))
local macro_rules | `(tactic| walk_at "sd") => `(tactic| ((with_reducible_and_instances refine' sdx ?ci ?ho ?hc ?ha ?hk ?hs ?hl ?hi ?hn ?de1 ?_); (case' ha => (with_reducible exact de_str)); (case' ci => (with_reducible assumption)); (case' ho => (walk_at "nm")); (case' hc => exact rfl); (case' hk => exact key_str); (case' hs => exact rfl); (case' hl => (exact Nat.le_of_ble_eq_true rfl)); (case' hi => exact rfl); (case' hn => exact rfl); (case' de1 => (walk_at "de"))))
local macro_rules | `(tactic| walk_at "nosl") => `(tactic| first | exact fun _ _ => rfl)
local macro_rules | `(tactic| walk_at "w1") => `(tactic| first
  | with_reducible_and_instances refine' w1_ret ?_ | walk_at "sf" | walk_at "sd" | walk_at "set" | walk_at "setLc" | with_reducible_and_instances refine' w1_expr ?_ rfl | with_reducible_and_instances refine' w1_retN ?_ | with_reducible_and_instances refine' w1_pass ?_ | with_reducible_and_instances refine' w1_break ?_ | with_reducible_and_instances refine' w1_cont ?_)
local macro_rules | `(tactic| walk_at "ws") => `(tactic| first | refine' ws_nil ?_ | (refine' ws_cons ?_; first | walk_at "w1" | skip))
local macro_rules | `(tactic| walk_at "swp") => `(tactic| ((with_reducible_and_instances refine' swp ?ci ?hh); (case' ci => (with_reducible assumption)); (case' hh => decide +kernel)))
local macro_rules | `(tactic| walk_at "lok") => `(tactic| first | assumption | skip)
local macro_rules | `(tactic| walk_at "dbd") => `(tactic| first | exact ⟨by decide, by decide⟩ | exact ⟨by omega, by omega⟩ | (refine ⟨?_, ?_⟩ <;> split <;> omega) | skip)
local macro_rules | `(tactic| walk_at "wa") => `(tactic| first
  | with_reducible_and_instances refine' wa_nil ?_
  | ((with_reducible_and_instances refine' wa_cons ?_ ?hs); (case' hs => exact rfl); walk_at "wx"; walk_at "wa"))
local macro_rules | `(tactic| walk_at "wx") => `(tactic| first
  | ((with_reducible_and_instances refine' drw ?ci ?hF ?hj ?hg ?hc ?hc2 ?ho ?hb); (case' ci => (with_reducible assumption)); (case' hF => assumption); (case' hj => decide); (case' hg => decide +kernel); (case' hc => (walk_at "callOk")); (case' hc2 => exact rfl); (case' ho => (walk_at "nm")); (case' hb => (walk_at "wx"; (refine' ⟨_, _, _, rfl, rfl, ?lok, ?dbd, ?_⟩); (case' lok => (walk_at "lok")); (case' dbd => (walk_at "dbd")); rotate_right; intro r t' h1 h2 h3)))
  | ((with_reducible_and_instances refine' pck ?ci ?hF ?hj ?hg ?hc ?hc2 ?ho ?hb); (case' ci => (with_reducible assumption)); (case' hF => assumption); (case' hj => decide); (case' hg => decide +kernel); (case' hc => (walk_at "callOk")); (case' hc2 => exact rfl); (case' ho => (walk_at "nm")); (case' hb => (walk_at "wx"; (refine' ⟨_, _, _, _, _, rfl, rfl, ?lok, ?ne, ?len, ?_⟩); (case' lok => (walk_at "lok")); (case' ne => (first | exact List.cons_ne_nil _ _ | skip)); (case' len => (first | exact Nat.le_of_ble_eq_true rfl | skip)); rotate_right; intro x hx t' h3)))
  | walk_at "we"
  | ((with_reducible_and_instances refine' we_bin ?_); walk_at "wx"; walk_at "wx"; (refine' ⟨_, ?op, ?_⟩); (case' op => (walk_at "bin")))
  | ((with_reducible_and_instances refine' we_cmp ?_ ?mk); (case' mk => first | exact nomark _ | rfl); walk_at "wx"; walk_at "wx"; (refine' ⟨_, ?op, ?_⟩); (case' op => (walk_at "cmp")))
  | ((with_reducible_and_instances refine' we_lst ?_); walk_at "wa"; (refine' ⟨_, ?op, ?_⟩); (case' op => (walk_at "mkl")))
  | ((with_reducible_and_instances refine' we_tup ?_); walk_at "wa"; (refine' ⟨_, ?op, ?_⟩); (case' op => (walk_at "mkt"))))
local macro_rules | `(tactic| walk_at "app") => `(tactic| ((with_reducible_and_instances refine' apD ?ho ?hc ?h ?hl ?h1 ?h2 ?h3 ?h4 ?h5 ?_); (case' ho => (walk_at "nm")); (case' hc => exact rfl); (case' h => (walk_at "de")); (case' h1 => exact rfl); (case' h2 => exact rfl); (case' h3 => exact rfl); (case' h4 => exact rfl); (case' h5 => exact rfl)))
section
variable {P : Program} {w : World} {K : Fg} {mg : PySem.Str → Option Value} {base : Heap} {f : Addr} {fd : FuncData}
/-! ### ratio_up -/
def ratioUp (n d : Int) : Int := -(-n / d)
theorem ok_ratio_up (F : F_ratio_up K f fd) : FnOk P w K mg base CX0 1 f fd p_ratio_up (FSp K (sp2 (fun _ d => 0 < d ∧ d < 1073741824) ratioUp)) := by
  refine fn_okA F sc_ratio_up ?_ fun X ci hf env cs Φ hsw => ?_
  · rintro env cs Φ ⟨x, y, rfl, _⟩; exact ⟨rfl, (by decide : 2 ≤ 2)⟩
  · obtain ⟨n, d, rfl, rfl, hp, hk⟩ := hsw
    walk_at "ws"
    walk_at "we"
    · exact hp
    exact hk
/-! ### count_of -/
def countOf (xs : List (Int × Int)) (n : Int) : Int := (((xs.filter fun x => decide (x.1 ≤ n) && decide (n ≤ x.2)).map fun _ => (1 : Int)).length : Int)
local macro_rules | `(tactic| walk_at "own") => `(tactic| first | (refine' own_mk [("low", 2), ("high", 3)] ?h rfl; decide +kernel))
theorem ok_count_of (F : F_count_of K f fd) (m_len : mg "len" = none) : FnOk P w K mg base CX0 1 f fd p_count_of (FSp K (sp2 (fun _ _ => True) countOf)) := by
  refine fn_okA F sc_count_of ?_ fun X ci hf env cs Φ hsw => ?_
  · rintro env cs Φ ⟨x, y, rfl, _⟩; exact ⟨rfl, (by decide : 2 ≤ 4)⟩
  · obtain ⟨xs, n, rfl, rfl, hp, hk⟩ := hsw
    walk_at "ws"
    walk_at "we"
    exact hk
/-! ### agreement -/
def goodOf (xs : List (Int × Int)) (f : Int) : List Int := ((srt (xs.map (·.1)) ++ srt (xs.map (·.2))).filter fun n => decide (max 1 ((xs.length : Int) - f) ≤ countOf xs n)).map fun n => n
def agreeM (xs : List (Int × Int)) (f : Int) : Option (Int × Int) := if (!(goodOf xs f).isEmpty) = true then some (minL (goodOf xs f), maxL (goodOf xs f)) else none
local macro_rules | `(tactic| walk_at "own") => `(tactic| first | (refine' own_mk [("number", 9)] ?h rfl; decide +kernel) | (refine' own_mk [("low", 6), ("_", 7)] ?h rfl; decide +kernel) | (refine' own_mk [("_", 7), ("high", 8)] ?h rfl; decide +kernel))
theorem ok_agreement (F : F_agreement K f fd) (m_len : mg "len" = none) (m_max : mg "max" = none) (m_min : mg "min" = none) (m_sorted : mg "sorted" = none) (f_count_of : FnR P w K mg base 1 "count_of" p_count_of (sp2 (fun _ _ => True) countOf)) : FnOk P w K mg base CX0 2 f fd p_agreement (FSp K (sp2 (fun xs _ => xs.length ≤ 1000) agreeM)) := by
  refine fn_okA F sc_agreement ?_ fun X ci hf env cs Φ hsw => ?_
  · rintro env cs Φ ⟨x, y, rfl, _⟩; exact ⟨rfl, (by decide : 2 ≤ 10)⟩
  · obtain ⟨xs, f, rfl, rfl, hp, hk⟩ := hsw
    walk_at "ws"
    walk_at "we"
    walk_at "ws"
    walk_at "we"
    walk_at "ws"
    walk_at "we"
    walk_at "ws"
    · trivial
    · simp only [srt, List.length_mergeSort, List.length_map, sizeLine]; omega
    walk_at "ws"
    refine' WE.de (de_if (α := Option (Int × Int)) (x := some (_, _)) (y := none) ?t (fun h => de_le le_some ?a) (fun h => de_le le_none ?b)) ?_
    case' t => walk_at "dt"
    case' a => walk_at "de"
    case' b => walk_at "de"
    all_goals first | (simp only [Bool.not_eq_true', List.isEmpty_eq_false_iff] at h; exact List.length_pos_iff.mpr h) | skip
    exact hk
/-! ### a clock -/
abbrev clk (C : Addr) (r lo hi : Int) : Cell := .ins C [("_rate", .of r), ("_low", .of lo), ("_high", .of hi)]
def swInit (C : Addr) : SpecW := fun env cs Φ => ∃ r lo hi : Int, env = [.c 0, .of r, .of lo, .of hi] ∧ cs = [.ins C []] ∧ Φ (.of ()) [clk C r lo hi]
theorem ok_KeptClock_init {C : Addr} (F : F_KeptClock_init K f fd) (c : Cls K C) (n1 : NoAttr K C "_rate") (n2 : NoAttr K C "_low") (n3 : NoAttr K C "_high") : FnOk P w K mg base CX0 1 f fd p_KeptClock_init (FSp K (swInit C)) := by
  refine fn_okA F sc_KeptClock_init ?_ fun X ci hf env cs Φ hsw => ?_
  · rintro env cs Φ ⟨x, y, z, rfl, _⟩; exact ⟨rfl, (by decide : 4 ≤ 4)⟩
  · obtain ⟨r, lo, hi, rfl, rfl, hk⟩ := hsw
    walk_at "ws"
    walk_at "ws"
    walk_at "ws"
    walk_at "ws"
    exact hk
def swKnown (C : Addr) : SpecW := fun env cs Φ => ∃ r lo hi : Int, env = [.c 0] ∧ cs = [clk C r lo hi] ∧ Φ (.of (lo, hi)) [clk C r lo hi]
theorem ok_KeptClock_known {C : Addr} (F : F_KeptClock_known K f fd) (c : Cls K C) (n1 : NoAttr K C "_rate") (n2 : NoAttr K C "_low") (n3 : NoAttr K C "_high") : FnOk P w K mg base CX0 1 f fd p_KeptClock_known (FSp K (swKnown C)) := by
  refine fn_okA F sc_KeptClock_known ?_ fun X ci hf env cs Φ hsw => ?_
  · rintro env cs Φ ⟨x, y, z, rfl, _⟩; exact ⟨rfl, (by decide : 1 ≤ 1)⟩
  · obtain ⟨r, lo, hi, rfl, rfl, hk⟩ := hsw
    walk_at "ws"
    walk_at "we"
    exact hk
def swCount (C : Addr) : SpecW := fun env cs Φ => ∃ r lo hi d : Int, env = [.c 0, .of d] ∧ cs = [clk C r lo hi] ∧ CMul d r ∧ Φ (.of ()) [clk C r (lo + (d - ratioUp (d * r) 1000000)) (hi + (d + ratioUp (d * r) 1000000))]
theorem ok_KeptClock_count {C : Addr} (F : F_KeptClock_count K f fd) (c : Cls K C) (n1 : NoAttr K C "_rate") (n2 : NoAttr K C "_low") (n3 : NoAttr K C "_high") (m_PARTS : ∃ t, mg "PARTS" = some (.int 1000000 t))
    (f_ratio_up : FnR P w K mg base 1 "ratio_up" p_ratio_up (sp2 (fun _ d => 0 < d ∧ d < 1073741824) ratioUp)) : FnOk P w K mg base CX0 2 f fd p_KeptClock_count (FSp K (swCount C)) := by
  refine fn_okA F sc_KeptClock_count ?_ fun X ci hf env cs Φ hsw => ?_
  · rintro env cs Φ ⟨x, y, z, u, rfl, _⟩; exact ⟨rfl, (by decide : 2 ≤ 3)⟩
  · obtain ⟨r, lo, hi, d, rfl, rfl, hm, hk⟩ := hsw
    walk_at "ws"
    walk_at "we"
    · exact hm
    · decide
    walk_at "ws"
    walk_at "ws"
    walk_at "ws"
    exact hk
def hearM (lo hi : Int) : Option (Int × Int) → Bool × Int × Int
  | none => (false, lo, hi)
  | some p => if p.1 > hi ∨ p.2 < lo then (false, lo, hi) else (true, max lo p.1, min hi p.2)
def swHear (C : Addr) : SpecW := fun env cs Φ => ∃ (r lo hi : Int) (xs : List (Int × Int)) (f : Int), env = [.c 0, .of xs, .of f] ∧ cs = [clk C r lo hi] ∧ xs.length ≤ 1000 ∧ Φ (.of (hearM lo hi (agreeM xs f)).1) [clk C r (hearM lo hi (agreeM xs f)).2.1 (hearM lo hi (agreeM xs f)).2.2]
theorem ok_KeptClock_hear {C : Addr} (F : F_KeptClock_hear K f fd) (c : Cls K C) (n1 : NoAttr K C "_rate") (n2 : NoAttr K C "_low") (n3 : NoAttr K C "_high") (m_max : mg "max" = none) (m_min : mg "min" = none)
    (f_agreement : FnR P w K mg base 2 "agreement" p_agreement (sp2 (fun xs _ => xs.length ≤ 1000) agreeM)) : FnOk P w K mg base CX0 3 f fd p_KeptClock_hear (FSp K (swHear C)) := by
  refine fn_okA F sc_KeptClock_hear ?_ fun X ci hf env cs Φ hsw => ?_
  · rintro env cs Φ ⟨x, y, z, u, v, rfl, _⟩; exact ⟨rfl, (by decide : 3 ≤ 4)⟩
  · obtain ⟨r, lo, hi, xs, f, rfl, rfl, hm, hk⟩ := hsw
    walk_at "ws"
    cases e : agreeM xs f with
    | none =>
      rw [e] at hk
      refine' WE.de (de_le (le_unit (α := Int × Int)) ?a) ?_
      case' a => rw [← e]; walk_at "de"
      · exact hm
      walk_at "ws"
      walk_at "if"
      · intro _
        walk_at "ws"
        walk_at "we"
        exact hk
      · exact fun h => nomatch h
    | some p =>
      rw [e] at hk
      refine' WE.de (de_le (le_get (α := Int × Int)) ?a2) ?_
      case' a2 => rw [← e]; walk_at "de"
      · exact hm
      walk_at "ws"
      walk_at "if"
      · intro h
        have h : p.1 > hi ∨ p.2 < lo := by simpa using h
        simp only [hearM, if_pos h] at hk
        walk_at "ws"
        walk_at "we"
        exact hk
      · intro h
        have h : ¬(p.1 > hi ∨ p.2 < lo) := by simpa using h
        simp only [hearM, if_neg h] at hk
        walk_at "ws"
        walk_at "ws"
        walk_at "ws"
        walk_at "ws"
        walk_at "we"
        exact hk
end
end K30

set_option Elab.async false
set_option linter.all false
set_option maxRecDepth 100000
set_option maxHeartbeats 2000000
namespace K30
open PySem PyProof.Rows L2 DL
/-! ### the walk's steps -/
local macro_rules | `(tactic| walk_at "nm") => `(tactic| ((with_reducible_and_instances refine' nm ?ci ?ix ?sl ?vi ?ne); (case' ci => (with_reducible_and_instances assumption)); (case' ix => exact rfl); (case' sl => exact rfl); (case' vi => decide +kernel); (case' ne => nofun)))
local macro_rules | `(tactic| walk_at "side") => `(tactic| first | assumption | decide | omega | exact .inl ⟨by omega, by omega⟩ | exact .inr ⟨by omega, by omega⟩ | exact ⟨by omega, by omega⟩)
local macro_rules | `(tactic| walk_at "bin") => `(tactic| first
  | with_reducible_and_instances exact b_add | with_reducible_and_instances exact b_sub | ((with_reducible_and_instances refine' b_mul ?sd1); (case' sd1 => (first | exact .inr ⟨by decide, by decide⟩ | exact .inl ⟨by decide, by decide⟩ | skip))) | ((with_reducible_and_instances refine' b_mod ?sd1); (case' sd1 => (first | assumption | decide | skip))) | with_reducible_and_instances refine' b_div ?side | with_reducible_and_instances refine' b_pow ?side | with_reducible_and_instances refine' b_catL ?side | with_reducible_and_instances refine' b_catS ?side)
local macro_rules | `(tactic| walk_at "cmp") => `(tactic| first
  | with_reducible_and_instances exact c_isN_unit | with_reducible_and_instances exact c_isN | with_reducible_and_instances exact c_isNo | with_reducible_and_instances exact c_notN_unit | with_reducible_and_instances exact c_notN | with_reducible_and_instances exact c_notNo
  | with_reducible_and_instances exact c_lt | with_reducible_and_instances exact c_le | with_reducible_and_instances exact c_gt | with_reducible_and_instances exact c_ge | with_reducible_and_instances exact c_eq_int | with_reducible_and_instances exact c_ne_int | with_reducible_and_instances exact c_eq_bl | with_reducible_and_instances exact c_ne_bl | with_reducible_and_instances exact c_eq_str | with_reducible_and_instances exact c_ne_str
  | ((with_reducible_and_instances refine' c_eq_py ?hr ?hd); (case' hr => (with_reducible_and_instances exact CxI.room (by assumption))); (case' hd => decide)) | ((with_reducible_and_instances refine' c_ne_py ?hr ?hd); (case' hr => (with_reducible_and_instances exact CxI.room (by assumption))); (case' hd => decide)))
local macro_rules | `(tactic| walk_at "ixd") => `(tactic| first
  | with_reducible_and_instances exact x_fst | with_reducible_and_instances exact x_snd | with_reducible_and_instances exact x_t0 | with_reducible_and_instances exact x_t1 | with_reducible_and_instances exact x_t2 | ((with_reducible_and_instances refine' x_list ?sd1); (case' sd1 => (first | assumption | exact at_zero | exact at_one | skip))) | ((with_reducible_and_instances refine' x_tup ?sd1); (case' sd1 => (first | assumption | skip))))
local macro_rules | `(tactic| walk_at "fun") => `(tactic| first
  | ((with_reducible_and_instances refine' f_isi (r := true) ?ki); (case' ki => decide +kernel)) | ((with_reducible_and_instances refine' f_isi (r := false) ?ki); (case' ki => decide +kernel))
  | with_reducible_and_instances exact f_len | with_reducible_and_instances exact f_lenT | with_reducible_and_instances exact f_tuple | with_reducible_and_instances exact f_tupleT | with_reducible_and_instances exact f_list | with_reducible_and_instances exact f_listT
  | with_reducible_and_instances exact f_all (CxI.calm (by assumption)) | with_reducible_and_instances exact f_any (CxI.calm (by assumption)) | with_reducible_and_instances exact f_sum (CxI.calm (by assumption))
  | with_reducible_and_instances refine' f_max (CxI.calm (by assumption)) ?side | with_reducible_and_instances refine' f_min (CxI.calm (by assumption)) ?side | with_reducible_and_instances exact f_max2 (CxI.calm (by assumption)) | with_reducible_and_instances exact f_min2 (CxI.calm (by assumption)) | with_reducible_and_instances exact f_abs | with_reducible_and_instances exact f_int
  | ((with_reducible_and_instances refine' f_sorted ?hr ?hd); (case' hr => (with_reducible_and_instances exact CxI.room (by assumption))); (case' hd => decide)))
local macro_rules | `(tactic| walk_at "tru") => `(tactic| first
  | with_reducible_and_instances exact t_bl | with_reducible_and_instances exact t_int | with_reducible_and_instances exact t_unit | with_reducible_and_instances exact t_list | with_reducible_and_instances exact t_tup)
local macro_rules | `(tactic| walk_at "mkt") => `(tactic| first | with_reducible_and_instances exact mkT_2 | with_reducible_and_instances exact mkT_3 | refine' @mkT_2 _ _ _ _ _ _ _ | refine' @mkT_3 _ _ _ _ _ _ _ _ _ _)
local macro_rules | `(tactic| walk_at "mkl") => `(tactic| first | with_reducible_and_instances exact mkL2 | with_reducible_and_instances exact mkL3 | with_reducible_and_instances exact mkL5 | with_reducible_and_instances exact mkL4 | with_reducible_and_instances exact mkL1 | with_reducible_and_instances exact mkL6)
local macro_rules | `(tactic| walk_at "da") => `(tactic| first
  | with_reducible_and_instances exact da_nil
  | ((with_reducible_and_instances refine' da_cons ?de1 ?da1 ?st); (case' de1 => (walk_at "de")); (case' da1 => (walk_at "da")); (case' st => rfl)))
local macro_rules | `(tactic| walk_at "callOk") => `(tactic| exact ⟨rfl, rfl⟩)
local macro_rules | `(tactic| walk_at "call") => `(tactic| first
  | ((with_reducible_and_instances refine' cB ?ci ?hm ?hv ?hg ?hc ?dac ?dop); (case' ci => (with_reducible_and_instances assumption)); (case' hm => assumption); (case' hv => infer_instance); (case' hg => decide +kernel); (case' hc => (walk_at "callOk")); (case' dac => (walk_at "da")); (case' dop => (walk_at "fun")))
  | ((with_reducible_and_instances refine' cT ?ci ?hm ?hv ?hg ?hc ?dac ?dop); (case' ci => (with_reducible_and_instances assumption)); (case' hm => assumption); (case' hv => infer_instance); (case' hg => decide +kernel); (case' hc => (walk_at "callOk")); (case' dac => (walk_at "da")); (case' dop => (walk_at "fun")))
  | ((with_reducible_and_instances refine' c1 ?ci ?hF ?hj ?hg ?hc ?dac ?side); (case' ci => (with_reducible_and_instances assumption)); (case' hF => assumption); (case' hj => decide); (case' hg => decide +kernel); (case' hc => (walk_at "callOk")); (case' dac => (walk_at "da")))
  | ((with_reducible_and_instances refine' c2 ?ci ?hF ?hj ?hg ?hc ?dac ?side); (case' ci => (with_reducible_and_instances assumption)); (case' hF => assumption); (case' hj => decide); (case' hg => decide +kernel); (case' hc => (walk_at "callOk")); (case' dac => (walk_at "da")))
  | ((with_reducible_and_instances refine' c3 ?ci ?hF ?hj ?hg ?hc ?dac ?side); (case' ci => (with_reducible_and_instances assumption)); (case' hF => assumption); (case' hj => decide); (case' hg => decide +kernel); (case' hc => (walk_at "callOk")); (case' dac => (walk_at "da"))))
local macro_rules | `(tactic| walk_at "dt") => `(tactic| first
  | ((with_reducible_and_instances refine' dt_cmp ?dea ?deb ?dop ?mk); (case' dea => (walk_at "de")); (case' deb => (walk_at "de")); (case' dop => (walk_at "cmp")); (case' mk => first | exact nomark _ | rfl))
  | ((with_reducible_and_instances refine' dt_chain ?dea ?deb ?dop (fun hc => ⟨?dec, ?dop2⟩) ?mk); (case' dea => (walk_at "de")); (case' deb => (walk_at "de")); (case' dop => (walk_at "cmp")); (case' dec => (walk_at "de")); (case' dop2 => (walk_at "cmp")); (case' mk => (with_unfolding_all rfl)))
  | ((with_reducible_and_instances refine' dt_not ?dta); (case' dta => (walk_at "dt")))
  | ((with_reducible_and_instances refine' dt_w ?dwa); (case' dwa => (walk_at "dw")))
  | (refine' dt_val ?dea ?dop (fun _ => rfl); (case' dea => (walk_at "de")); (case' dop => (walk_at "tru"))))
local macro_rules | `(tactic| walk_at "dw") => `(tactic| first
  | ((with_reducible_and_instances refine' dw_and1 ?dta); (case' dta => (walk_at "dt")))
  | ((with_reducible_and_instances refine' dw_or1 ?dta); (case' dta => (walk_at "dt")))
  | ((with_reducible_and_instances refine' dw_orT ?dta); (case' dta => (walk_at "dt")))
  | ((with_reducible_and_instances refine' dw_andF ?dta); (case' dta => (walk_at "dt")))
  | ((with_reducible_and_instances refine' dw_and ?dta (fun hand => ?dwa)); (case' dta => (walk_at "dt")); (case' dwa => (walk_at "dw")))
  | ((with_reducible_and_instances refine' dw_or ?dta (fun hor => ?dwa)); (case' dta => (walk_at "dt")); (case' dwa => (walk_at "dw"))))
local macro_rules | `(tactic| walk_at "de") => `(tactic| first
  | with_reducible_and_instances exact de_int | with_reducible_and_instances exact de_str | with_reducible_and_instances exact de_bl | with_reducible_and_instances exact de_non
  | walk_at "nm"
  | ((with_reducible_and_instances refine' ngi ?ci ?hm ?hg); (case' ci => (with_reducible_and_instances assumption)); (case' hm => assumption); (case' hg => decide +kernel))
  | ((with_reducible_and_instances refine' nty ?ci ?hm ?hv ?hg); (case' ci => (with_reducible_and_instances assumption)); (case' hm => assumption); (case' hv => infer_instance); (case' hg => decide +kernel))
  | ((with_reducible_and_instances refine' de_bin ?dea ?deb ?dop); (case' dea => (walk_at "de")); (case' deb => (walk_at "de")); (case' dop => (walk_at "bin")))
  | ((with_reducible_and_instances refine' de_cmp ?dea ?deb ?dop ?mk); (case' dea => (walk_at "de")); (case' deb => (walk_at "de")); (case' dop => (walk_at "cmp")); (case' mk => first | exact nomark _ | rfl))
  | ((with_reducible_and_instances refine' de_chain ?dea ?deb ?dop (fun hc => ⟨?dec, ?dop2⟩) ?mk); (case' dea => (walk_at "de")); (case' deb => (walk_at "de")); (case' dop => (walk_at "cmp")); (case' dec => (walk_at "de")); (case' dop2 => (walk_at "cmp")); (case' mk => (with_unfolding_all rfl)))
  | walk_at "call"
  | ((with_reducible_and_instances refine' de_tup ?dac ?dop); (case' dac => (walk_at "da")); (case' dop => (walk_at "mkt")))
  | ((with_reducible_and_instances refine' de_lst ?dac ?dop); (case' dac => (walk_at "da")); (case' dop => (walk_at "mkl")))
  | ((with_reducible_and_instances refine' de_un ?dea ?dop); (case' dea => (walk_at "de")); (case' dop => (with_reducible_and_instances exact un_neg_int)))
  | ((with_reducible_and_instances refine' de_cut ?dea ?dol ?doh); (case' dea => (walk_at "de")); (case' dol => (walk_at "do")); (case' doh => (walk_at "do")))
  | ((with_reducible_and_instances refine' gf ?ci ?ho ?hc ?c ?na ?hl ?hb); (case' ci => (with_reducible_and_instances assumption)); (case' ho => (walk_at "de")); (case' hc => exact rfl); (case' c => assumption); (case' na => assumption); (case' hl => exact rfl); (case' hb => exact rfl))
  | ((with_reducible_and_instances refine' dgx ?ci ?ho ?hc ?ha ?hk ?hi ?hg ?hs); (case' ha => (with_reducible_and_instances exact de_str)); (case' ci => (with_reducible_and_instances assumption)); (case' ho => (walk_at "nm")); (case' hc => exact rfl); (case' hk => exact key_str); (case' hi => exact rfl); (case' hg => exact rfl); (case' hs => (walk_at "nosl")))
  | ((with_reducible_and_instances refine' de_ix ?dea ?deb ?dop ?pl); (case' dea => (walk_at "de")); (case' deb => (walk_at "de")); (case' dop => (walk_at "ixd")); (case' pl => (exact fun _ _ => rfl)))
  | ((with_reducible_and_instances refine' de_not1 ?dea); (case' dea => (walk_at "de")))
  | ((with_reducible_and_instances refine' de_and1 ?dea); (case' dea => (walk_at "de")))
  | ((with_reducible_and_instances refine' de_orT ?dea); (case' dea => (walk_at "de")))
  | ((with_reducible_and_instances refine' de_andF ?dea); (case' dea => (walk_at "de")))
  | ((with_reducible_and_instances refine' de_and ?dea (fun hand => ?deb)); (case' dea => (walk_at "de")); (case' deb => (walk_at "de")))
  | ((with_reducible_and_instances refine' de_or ?dea (fun hor => ?deb)); (case' dea => (walk_at "de")); (case' deb => (walk_at "de")))
  | ((with_reducible_and_instances refine' dif ?dtt (fun hk => ?dea) (fun hk => ?deb)); (case' dtt => (walk_at "dt")); (case' dea => (walk_at "de")); (case' deb => (walk_at "de")))
  | walk_at "comp"
  | walk_at "de more")
local macro_rules | `(tactic| walk_at "do") => `(tactic| first | with_reducible_and_instances exact do_none | ((with_reducible_and_instances refine' do_some ?dea); (case' dea => (walk_at "de"))))
local macro_rules | `(tactic| walk_at "dts") => `(tactic| first | with_reducible_and_instances exact dts_nil | ((with_reducible_and_instances refine' dts_one ?dtt); (case' dtt => (walk_at "dt"))))
local macro_rules | `(tactic| walk_at "turn") => `(tactic| (intro x hx; (refine' LcT.mk' ?h ?hp ?hy); (case' h => (intro Y cY; walk_at "tg"; (refine' ⟨rfl, ?ts, ?el⟩); (case' ts => (intro Z cZ; walk_at "dts")); (case' el => (intro hk Z cZ; walk_at "de")))); (case' hp => exact rfl); (case' hy => exact fun _ => rfl)))
local macro_rules | `(tactic| walk_at "comp") => `(tactic| first
  | ((with_reducible_and_instances refine' lc0 ?ci ?ow ?hf ?di ?turn); (case' ci => (with_reducible_and_instances assumption)); (case' ow => (walk_at "own")); (case' hf => (exact fun _ => rfl)); (case' di => (walk_at "di")); (case' turn => (walk_at "turn")))
  | ((with_reducible_and_instances refine' lc ?ci ?ow ?hf ?di ?turn); (case' ci => (with_reducible_and_instances assumption)); (case' ow => (walk_at "own")); (case' hf => (exact fun _ => rfl)); (case' di => (walk_at "di")); (case' turn => (walk_at "turn"))))
local macro_rules | `(tactic| walk_at "di") => `(tactic| first
  | ((with_reducible_and_instances refine' r1 ?ci ?hm ?hg ?hs ?dac ?side); (case' ci => (with_reducible_and_instances assumption)); (case' hm => assumption); (case' hg => decide +kernel); (case' hs => rfl); (case' dac => (walk_at "da")))
  | ((with_reducible_and_instances refine' r2 ?ci ?hm ?hg ?hs ?hs2 ?dac ?side); (case' ci => (with_reducible_and_instances assumption)); (case' hm => assumption); (case' hg => decide +kernel); (case' hs => rfl); (case' hs2 => rfl); (case' dac => (walk_at "da")))
  | ((with_reducible_and_instances refine' dil ?dea); (case' dea => (walk_at "de")))
  | ((with_reducible_and_instances refine' ditp ?dea); (case' dea => (walk_at "de"))))
local macro_rules | `(tactic| walk_at "tg") => `(tactic| first
  | ((with_reducible_and_instances refine' nmg ?ci ?ix ?hi ?vi ?q); (case' ci => (with_reducible_and_instances assumption)); (case' ix => exact rfl); (case' hi => exact rfl); (case' vi => decide +kernel))
  | ((with_reducible_and_instances refine' nmgC ?ci ?hf ?ix ?hi ?vi ?q); (case' ci => (with_reducible assumption)); (case' hf => (with_reducible assumption)); (case' ix => exact rfl); (case' hi => exact rfl); (case' vi => decide +kernel))
  | ((with_reducible_and_instances refine' wgt ?ci ?un ?hn ?q ?hi); (case' ci => (with_reducible_and_instances assumption)); (case' un => first | with_reducible_and_instances exact unT_2 | with_reducible_and_instances exact unT_3); (case' hn => (exact ⟨rfl, rfl⟩)); (case' q => (walk_at "tgs")); (case' hi => exact rfl)))
local macro_rules | `(tactic| walk_at "tgs") => `(tactic| first
  | with_reducible_and_instances refine' wgs_nil ?q
  | ((with_reducible_and_instances refine' wgs_cons ?q ?hs); (case' hs => rfl); (case' q => (walk_at "tg")); walk_at "tgs"))
local macro_rules | `(tactic| walk_at "we") => `(tactic| ((with_reducible_and_instances refine' WE.de ?dpure ?_); (case' dpure => (walk_at "de"))))
local macro_rules | `(tactic| walk_at "wt") => `(tactic| ((with_reducible_and_instances refine' WT.dt ?dpure ?_); (case' dpure => (walk_at "dt"))))
local macro_rules | `(tactic| walk_at "if") => `(tactic| ((with_reducible_and_instances refine' w1_ifD ?dpure ?_ ?_); (case' dpure => (walk_at "dt"))))
local macro_rules | `(tactic| walk_at "set") => `(tactic| ((with_reducible_and_instances refine' nms ?ci ?hf ?ix ?vi ?sw ?_); (case' ci => (with_reducible_and_instances assumption)); (case' hf => (with_reducible_and_instances assumption)); (case' ix => exact rfl); (case' vi => decide +kernel); (case' sw => rfl)))
local macro_rules | `(tactic| walk_at "setLc") => `(tactic| first
  | ((with_reducible_and_instances refine' nlc0 ?ci ?ix ?vi ?ow ?hf ?sw ?di ?turn ?_); (case' ci => (with_reducible_and_instances assumption)); (case' ix => exact rfl); (case' vi => decide +kernel); (case' ow => (walk_at "own")); (case' hf => (exact fun _ => rfl)); (case' sw => (walk_at "swp")); (case' di => (walk_at "di")); (case' turn => (walk_at "turn")))
  | ((with_reducible_and_instances refine' nlc ?ci ?ix ?vi ?ow ?hf ?sw ?di ?turn ?_); (case' ci => (with_reducible_and_instances assumption)); (case' ix => exact rfl); (case' vi => decide +kernel); (case' ow => (walk_at "own")); (case' hf => (exact fun _ => rfl)); (case' sw => (walk_at "swp")); (case' di => (walk_at "di")); (case' turn => (walk_at "turn"))))
local macro_rules | `(tactic| walk_at "sf") => `(tactic| first
  | ((with_reducible_and_instances refine' sfD ?ci ?ho ?hc ?c ?na ?hs ?hl ?de1 ?_); (case' ci => (with_reducible_and_instances assumption)); (case' ho => (walk_at "nm")); (case' hc => exact rfl); (case' c => assumption); (case' na => assumption); (case' hs => exact rfl); (case' hl => (exact Nat.le_of_ble_eq_true rfl)); (case' de1 => (walk_at "de")))
  | ((with_reducible_and_instances refine' afD ?ci ?ho ?hc ?c ?na ?hl ?hl2 ?de1 ?au ?_); (case' ci => (with_reducible_and_instances assumption)); (case' ho => (walk_at "nm")); (case' hc => exact rfl); (case' c => assumption); (case' na => assumption); (case' hl => exact rfl); (case' hl2 => (exact Nat.le_of_ble_eq_true rfl)); (case' de1 => (walk_at "de")); (case' au => first | with_reducible_and_instances exact a_add | with_reducible_and_instances exact a_sub)))
local macro_rules | `(tactic| walk_at "sd") => `(tactic| ((with_reducible_and_instances refine' sdx ?ci ?ho ?hc ?ha ?hk ?hs ?hl ?hi ?hn ?de1 ?_); (case' ha => (with_reducible exact de_str)); (case' ci => (with_reducible assumption)); (case' ho => (walk_at "nm")); (case' hc => exact rfl); (case' hk => exact key_str); (case' hs => exact rfl); (case' hl => (exact Nat.le_of_ble_eq_true rfl)); (case' hi => exact rfl); (case' hn => exact rfl); (case' de1 => (walk_at "de"))))
local macro_rules | `(tactic| walk_at "nosl") => `(tactic| first | exact fun _ _ => rfl)
local macro_rules | `(tactic| walk_at "w1") => `(tactic| first
  | with_reducible_and_instances refine' w1_ret ?_ | walk_at "sf" | walk_at "sd" | walk_at "set" | walk_at "setLc" | with_reducible_and_instances refine' w1_expr ?_ rfl | with_reducible_and_instances refine' w1_retN ?_ | with_reducible_and_instances refine' w1_pass ?_ | with_reducible_and_instances refine' w1_break ?_ | with_reducible_and_instances refine' w1_cont ?_)
local macro_rules | `(tactic| walk_at "ws") => `(tactic| first | refine' ws_nil ?_ | (refine' ws_cons ?_; first | walk_at "w1" | skip))
local macro_rules | `(tactic| walk_at "swp") => `(tactic| ((with_reducible_and_instances refine' swp ?ci ?hh); (case' ci => (with_reducible assumption)); (case' hh => decide +kernel)))
local macro_rules | `(tactic| walk_at "lok") => `(tactic| first | assumption | skip)
local macro_rules | `(tactic| walk_at "dbd") => `(tactic| first | exact ⟨by decide, by decide⟩ | exact ⟨by omega, by omega⟩ | (refine ⟨?_, ?_⟩ <;> split <;> omega) | skip)
local macro_rules | `(tactic| walk_at "wa") => `(tactic| first
  | with_reducible_and_instances refine' wa_nil ?_
  | ((with_reducible_and_instances refine' wa_cons ?_ ?hs); (case' hs => exact rfl); walk_at "wx"; walk_at "wa"))
local macro_rules | `(tactic| walk_at "wx") => `(tactic| first
  | ((with_reducible_and_instances refine' drw ?ci ?hF ?hj ?hg ?hc ?hc2 ?ho ?hb); (case' ci => (with_reducible assumption)); (case' hF => assumption); (case' hj => decide); (case' hg => decide +kernel); (case' hc => (walk_at "callOk")); (case' hc2 => exact rfl); (case' ho => (walk_at "nm")); (case' hb => (walk_at "wx"; (refine' ⟨_, _, _, rfl, rfl, ?lok, ?dbd, ?_⟩); (case' lok => (walk_at "lok")); (case' dbd => (walk_at "dbd")); rotate_right; intro r t' h1 h2 h3)))
  | ((with_reducible_and_instances refine' pck ?ci ?hF ?hj ?hg ?hc ?hc2 ?ho ?hb); (case' ci => (with_reducible assumption)); (case' hF => assumption); (case' hj => decide); (case' hg => decide +kernel); (case' hc => (walk_at "callOk")); (case' hc2 => exact rfl); (case' ho => (walk_at "nm")); (case' hb => (walk_at "wx"; (refine' ⟨_, _, _, _, _, rfl, rfl, ?lok, ?ne, ?len, ?_⟩); (case' lok => (walk_at "lok")); (case' ne => (first | exact List.cons_ne_nil _ _ | skip)); (case' len => (first | exact Nat.le_of_ble_eq_true rfl | skip)); rotate_right; intro x hx t' h3)))
  | walk_at "we"
  | ((with_reducible_and_instances refine' we_bin ?_); walk_at "wx"; walk_at "wx"; (refine' ⟨_, ?op, ?_⟩); (case' op => (walk_at "bin")))
  | ((with_reducible_and_instances refine' we_cmp ?_ ?mk); (case' mk => first | exact nomark _ | rfl); walk_at "wx"; walk_at "wx"; (refine' ⟨_, ?op, ?_⟩); (case' op => (walk_at "cmp")))
  | ((with_reducible_and_instances refine' we_lst ?_); walk_at "wa"; (refine' ⟨_, ?op, ?_⟩); (case' op => (walk_at "mkl")))
  | ((with_reducible_and_instances refine' we_tup ?_); walk_at "wa"; (refine' ⟨_, ?op, ?_⟩); (case' op => (walk_at "mkt"))))
local macro_rules | `(tactic| walk_at "app") => `(tactic| ((with_reducible_and_instances refine' apD ?ho ?hc ?h ?hl ?h1 ?h2 ?h3 ?h4 ?h5 ?_); (case' ho => (walk_at "nm")); (case' hc => exact rfl); (case' h => (walk_at "de")); (case' h1 => exact rfl); (case' h2 => exact rfl); (case' h3 => exact rfl); (case' h4 => exact rfl); (case' h5 => exact rfl)))
section
variable {P : Program} {w : World} {K : Fg} {mg : PySem.Str → Option Value} {base : Heap} {f : Addr} {fd : FuncData}
/-! ### _law_start -/
local macro_rules | `(tactic| walk_at "own") => `(tactic| first | (refine' own_mk [("cell", 1)] ?h rfl; decide +kernel))
theorem ok_law_start (F : F_law_start K f fd) (m_abs : mg "abs" = none) (m_int : mg "int" = none) (m_len : mg "len" = none) : FnOk P w K mg base CX0 1 f fd p_law_start (FSp K swStart) := by
  refine fn_okA F sc_law_start ?_ fun X ci hf env cs Φ hsw => ?_
  · rintro env cs Φ ⟨x, rfl, _⟩; exact ⟨rfl, (by decide : 1 ≤ 2)⟩
  · obtain ⟨xs, rfl, rfl, hp, hk⟩ := hsw
    walk_at "ws"
    refine' we_disp (.cons de_str key_str ?v1 (.cons de_str key_str de_int (.cons de_str key_str de_int (.cons de_str key_str ?v4 .nil)))) (by exact nofun) (by decide) ?q
    case' v1 => walk_at "de"
    case' v4 => walk_at "de"
    refine hk ⟨xs.map fun c => (c.natAbs : Int), 0, 0, 7 + (xs.length : Int)⟩ ⟨?_, Int.le_refl 0, Int.le_refl 0, ?_⟩
    · intro x hx
      obtain ⟨y, _, rfl⟩ := List.mem_map.mp hx
      exact Int.natCast_nonneg _
    · show 0 ≤ 7 + (xs.length : Int) ∧ 7 + (xs.length : Int) < 2147483647
      omega
/-! ### _law_draw -/
local macro_rules | `(tactic| walk_at "bin") => `(tactic| ((with_reducible_and_instances refine' b_divW ?side)))
theorem ok_law_draw (F : F_law_draw K f fd) (m_int : mg "int" = none) (m_len : mg "len" = none) : FnOk P w K mg base CX0 1 f fd p_law_draw (FSp K swDraw) := by
  refine fn_okA F sc_law_draw ?_ fun X ci hf env cs Φ hsw => ?_
  · rintro env cs Φ ⟨t, n, rfl, _⟩; exact ⟨rfl, (by decide : 2 ≤ 4)⟩
  · obtain ⟨t, n, rfl, rfl, ok, hn, hk⟩ := hsw
    obtain ⟨okc, oki, okl, okm⟩ := ok
    refine' ws_cons ?_
    refine w1_cut (fun env' cs' => ∃ (t : LSt) (s2 s3 : Slot), LOk t ∧ env' = [.c 0, .of n, s2, s3] ∧ cs' = [stC t]) ?_ ?_
    · walk_at "if"
      · intro h
        have h : t.left = 0 ∧ t.i < (t.cells.length : Int) := by simpa using h
        obtain ⟨c, hc⟩ : ∃ c, atI t.cells t.i = some c := ⟨_, at_get oki (by omega)⟩
        have hc0 : 0 ≤ c := okc c (at_mem hc)
        walk_at "ws"
        walk_at "we"
        walk_at "ws"
        walk_at "ws"
        have hm1 := Int.emod_nonneg (t.mix * 48271 + c + 11) (by decide : (2147483647 : Int) ≠ 0)
        have hm2 := Int.emod_lt_of_pos (t.mix * 48271 + c + 11) (by decide : (0 : Int) < 2147483647)
        walk_at "ws"
        walk_at "if"
        · exact ⟨by decide, by decide, by decide⟩
        · intro h2
          walk_at "ws"
          walk_at "we"
          · exact hn.1
          exact hk _ ⟨t.cells, t.i + 1, t.left, (t.mix * 48271 + c + 11) % 2147483647⟩ (Int.emod_nonneg _ (by have := hn.1; omega)) (Int.emod_lt_of_pos _ hn.1) ⟨okc, by show 0 ≤ t.i + 1; omega, okl, hm1, hm2⟩
        · intro h2
          walk_at "ws"
          walk_at "ws"
          walk_at "ws"
          exact ⟨⟨t.cells, t.i + 1, c, (t.mix * 48271 + c + 11) % 2147483647⟩, _, _, ⟨okc, by show 0 ≤ t.i + 1; omega, hc0, hm1, hm2⟩, rfl, rfl⟩
      · intro h
        walk_at "ws"
        exact ⟨t, _, _, ⟨okc, oki, okl, okm⟩, rfl, rfl⟩
    · rintro env' cs' ⟨t, s2, s3, ⟨okc, oki, okl, okm⟩, rfl, rfl⟩
      walk_at "ws"
      walk_at "if"
      · intro h
        have h : 0 < t.left := by simpa using h
        walk_at "ws"
        walk_at "we"
        · exact hn.1
        walk_at "ws"
        · exact hn.wide
        walk_at "ws"
        walk_at "we"
        exact hk _ ⟨t.cells, t.i, t.left / n, t.mix⟩ (Int.emod_nonneg _ (by have := hn.1; omega)) (Int.emod_lt_of_pos _ hn.1) ⟨okc, oki, Int.ediv_nonneg okl (by have := hn.1; omega), okm⟩
      · intro h
        walk_at "ws"
        have hm1 := Int.emod_nonneg (t.mix * 48271 + 11) (by decide : (2147483647 : Int) ≠ 0)
        have hm2 := Int.emod_lt_of_pos (t.mix * 48271 + 11) (by decide : (0 : Int) < 2147483647)
        walk_at "ws"
        walk_at "ws"
        walk_at "we"
        · exact hn.1
        exact hk _ ⟨t.cells, t.i, t.left, (t.mix * 48271 + 11) % 2147483647⟩ (Int.emod_nonneg _ (by have := hn.1; omega)) (Int.emod_lt_of_pos _ hn.1) ⟨okc, oki, okl, hm1, hm2⟩
/-! ### _law_pick -/
theorem ok_law_pick (F : F_law_pick K f fd) (m_len : mg "len" = none) (f_law_draw : FnR P w K mg base 1 "_law_draw" p_law_draw swDraw) : FnOk P w K mg base CX0 2 f fd p_law_pick (FSp K swPick) := by
  refine fn_okA F sc_law_pick ?_ fun X ci hf env cs Φ hsw => ?_
  · rintro env cs Φ ⟨t, α, iα, xs, rfl, _⟩; exact ⟨rfl, (by decide : 2 ≤ 2)⟩
  · obtain ⟨t, α, iα, xs, rfl, rfl, ok, hx, hx2, hk⟩ := hsw
    have hpos := List.length_pos_iff.mpr hx
    walk_at "ws"
    refine' we_ix (WE.de ?ho (drw ci f_law_draw (by decide) (by decide +kernel) ⟨rfl, rfl⟩ rfl ?hs (WE.de ?hb ⟨(xs.length : Int), t, [], rfl, rfl, ok, ⟨by omega, by omega⟩, fun r t' h1 h2 h3 => ?_⟩))) (fun _ _ => rfl)
    case' ho => walk_at "nm"
    case' hs => walk_at "nm"
    case' hb => walk_at "de"
    have e := at_get h1 (by omega : r.toNat < xs.length)
    exact ⟨_, x_list e, hk _ (at_mem e) t' h3⟩
/-! ### _law_is -/
def lawIs (a b : Bool) : Bool := true && decide (a = b)
theorem ok_law_is (F : F_law_is K f fd) (m_bool : mg "bool" = none) (m_isinstance : mg "isinstance" = none) : FnOk P w K mg base CX0 1 f fd p_law_is (FSp K (sp2 (fun _ _ => True) lawIs)) := by
  refine fn_okA F sc_law_is ?_ fun X ci hf env cs Φ hsw => ?_
  · rintro env cs Φ ⟨x, y, rfl, _⟩; exact ⟨rfl, (by decide : 2 ≤ 2)⟩
  · obtain ⟨a, b, rfl, rfl, hp, hk⟩ := hsw
    walk_at "ws"
    walk_at "we"
    exact hk
end
end K30

set_option Elab.async false
set_option linter.all false
set_option maxRecDepth 100000
set_option maxHeartbeats 2000000
namespace K30
open PySem PyProof.Rows L2 DL
/-! ### the walk's steps -/
local macro_rules | `(tactic| walk_at "nm") => `(tactic| ((with_reducible_and_instances refine' nm ?ci ?ix ?sl ?vi ?ne); (case' ci => (with_reducible_and_instances assumption)); (case' ix => exact rfl); (case' sl => exact rfl); (case' vi => decide +kernel); (case' ne => nofun)))
local macro_rules | `(tactic| walk_at "side") => `(tactic| first | assumption | decide | omega | exact .inl ⟨by omega, by omega⟩ | exact .inr ⟨by omega, by omega⟩ | exact ⟨by omega, by omega⟩)
local macro_rules | `(tactic| walk_at "bin") => `(tactic| first
  | with_reducible_and_instances exact b_add | with_reducible_and_instances exact b_sub | ((with_reducible_and_instances refine' b_mul ?sd1); (case' sd1 => (first | exact .inr ⟨by decide, by decide⟩ | exact .inl ⟨by decide, by decide⟩ | skip))) | ((with_reducible_and_instances refine' b_mod ?sd1); (case' sd1 => (first | assumption | decide | skip))) | with_reducible_and_instances refine' b_div ?side | with_reducible_and_instances refine' b_pow ?side | with_reducible_and_instances refine' b_catL ?side | with_reducible_and_instances refine' b_catS ?side)
local macro_rules | `(tactic| walk_at "cmp") => `(tactic| first
  | with_reducible_and_instances exact c_isN_unit | with_reducible_and_instances exact c_isN | with_reducible_and_instances exact c_isNo | with_reducible_and_instances exact c_notN_unit | with_reducible_and_instances exact c_notN | with_reducible_and_instances exact c_notNo
  | with_reducible_and_instances exact c_lt | with_reducible_and_instances exact c_le | with_reducible_and_instances exact c_gt | with_reducible_and_instances exact c_ge | with_reducible_and_instances exact c_eq_int | with_reducible_and_instances exact c_ne_int | with_reducible_and_instances exact c_eq_bl | with_reducible_and_instances exact c_ne_bl | with_reducible_and_instances exact c_eq_str | with_reducible_and_instances exact c_ne_str
  | ((with_reducible_and_instances refine' c_eq_py ?hr ?hd); (case' hr => (with_reducible_and_instances exact CxI.room (by assumption))); (case' hd => decide)) | ((with_reducible_and_instances refine' c_ne_py ?hr ?hd); (case' hr => (with_reducible_and_instances exact CxI.room (by assumption))); (case' hd => decide)))
local macro_rules | `(tactic| walk_at "ixd") => `(tactic| first
  | with_reducible_and_instances exact x_fst | with_reducible_and_instances exact x_snd | with_reducible_and_instances exact x_t0 | with_reducible_and_instances exact x_t1 | with_reducible_and_instances exact x_t2 | ((with_reducible_and_instances refine' x_list ?sd1); (case' sd1 => (first | assumption | exact at_zero | exact at_one | skip))) | ((with_reducible_and_instances refine' x_tup ?sd1); (case' sd1 => (first | assumption | skip))))
local macro_rules | `(tactic| walk_at "fun") => `(tactic| first
  | ((with_reducible_and_instances refine' f_isi (r := true) ?ki); (case' ki => decide +kernel)) | ((with_reducible_and_instances refine' f_isi (r := false) ?ki); (case' ki => decide +kernel))
  | with_reducible_and_instances exact f_len | with_reducible_and_instances exact f_lenT | with_reducible_and_instances exact f_tuple | with_reducible_and_instances exact f_tupleT | with_reducible_and_instances exact f_list | with_reducible_and_instances exact f_listT
  | with_reducible_and_instances exact f_all (CxI.calm (by assumption)) | with_reducible_and_instances exact f_any (CxI.calm (by assumption)) | with_reducible_and_instances exact f_sum (CxI.calm (by assumption))
  | with_reducible_and_instances refine' f_max (CxI.calm (by assumption)) ?side | with_reducible_and_instances refine' f_min (CxI.calm (by assumption)) ?side | with_reducible_and_instances exact f_max2 (CxI.calm (by assumption)) | with_reducible_and_instances exact f_min2 (CxI.calm (by assumption)) | with_reducible_and_instances exact f_abs | with_reducible_and_instances exact f_int
  | ((with_reducible_and_instances refine' f_sorted ?hr ?hd); (case' hr => (with_reducible_and_instances exact CxI.room (by assumption))); (case' hd => decide)))
local macro_rules | `(tactic| walk_at "tru") => `(tactic| first
  | with_reducible_and_instances exact t_bl | with_reducible_and_instances exact t_int | with_reducible_and_instances exact t_unit | with_reducible_and_instances exact t_list | with_reducible_and_instances exact t_tup)
local macro_rules | `(tactic| walk_at "mkt") => `(tactic| first | with_reducible_and_instances exact mkT_2 | with_reducible_and_instances exact mkT_3 | refine' @mkT_2 _ _ _ _ _ _ _ | refine' @mkT_3 _ _ _ _ _ _ _ _ _ _)
local macro_rules | `(tactic| walk_at "mkl") => `(tactic| first | with_reducible_and_instances exact mkL2 | with_reducible_and_instances exact mkL3 | with_reducible_and_instances exact mkL5 | with_reducible_and_instances exact mkL4 | with_reducible_and_instances exact mkL1 | with_reducible_and_instances exact mkL6)
local macro_rules | `(tactic| walk_at "da") => `(tactic| first
  | with_reducible_and_instances exact da_nil
  | ((with_reducible_and_instances refine' da_cons ?de1 ?da1 ?st); (case' de1 => (walk_at "de")); (case' da1 => (walk_at "da")); (case' st => rfl)))
local macro_rules | `(tactic| walk_at "callOk") => `(tactic| exact ⟨rfl, rfl⟩)
local macro_rules | `(tactic| walk_at "call") => `(tactic| first
  | ((with_reducible_and_instances refine' cB ?ci ?hm ?hv ?hg ?hc ?dac ?dop); (case' ci => (with_reducible_and_instances assumption)); (case' hm => assumption); (case' hv => infer_instance); (case' hg => decide +kernel); (case' hc => (walk_at "callOk")); (case' dac => (walk_at "da")); (case' dop => (walk_at "fun")))
  | ((with_reducible_and_instances refine' cT ?ci ?hm ?hv ?hg ?hc ?dac ?dop); (case' ci => (with_reducible_and_instances assumption)); (case' hm => assumption); (case' hv => infer_instance); (case' hg => decide +kernel); (case' hc => (walk_at "callOk")); (case' dac => (walk_at "da")); (case' dop => (walk_at "fun")))
  | ((with_reducible_and_instances refine' c1 ?ci ?hF ?hj ?hg ?hc ?dac ?side); (case' ci => (with_reducible_and_instances assumption)); (case' hF => assumption); (case' hj => decide); (case' hg => decide +kernel); (case' hc => (walk_at "callOk")); (case' dac => (walk_at "da")))
  | ((with_reducible_and_instances refine' c2 ?ci ?hF ?hj ?hg ?hc ?dac ?side); (case' ci => (with_reducible_and_instances assumption)); (case' hF => assumption); (case' hj => decide); (case' hg => decide +kernel); (case' hc => (walk_at "callOk")); (case' dac => (walk_at "da")))
  | ((with_reducible_and_instances refine' c3 ?ci ?hF ?hj ?hg ?hc ?dac ?side); (case' ci => (with_reducible_and_instances assumption)); (case' hF => assumption); (case' hj => decide); (case' hg => decide +kernel); (case' hc => (walk_at "callOk")); (case' dac => (walk_at "da"))))
local macro_rules | `(tactic| walk_at "dt") => `(tactic| first
  | ((with_reducible_and_instances refine' dt_cmp ?dea ?deb ?dop ?mk); (case' dea => (walk_at "de")); (case' deb => (walk_at "de")); (case' dop => (walk_at "cmp")); (case' mk => first | exact nomark _ | rfl))
  | ((with_reducible_and_instances refine' dt_chain ?dea ?deb ?dop (fun hc => ⟨?dec, ?dop2⟩) ?mk); (case' dea => (walk_at "de")); (case' deb => (walk_at "de")); (case' dop => (walk_at "cmp")); (case' dec => (walk_at "de")); (case' dop2 => (walk_at "cmp")); (case' mk => (with_unfolding_all rfl)))
  | ((with_reducible_and_instances refine' dt_not ?dta); (case' dta => (walk_at "dt")))
  | ((with_reducible_and_instances refine' dt_w ?dwa); (case' dwa => (walk_at "dw")))
  | (refine' dt_val ?dea ?dop (fun _ => rfl); (case' dea => (walk_at "de")); (case' dop => (walk_at "tru"))))
local macro_rules | `(tactic| walk_at "dw") => `(tactic| first
  | ((with_reducible_and_instances refine' dw_and1 ?dta); (case' dta => (walk_at "dt")))
  | ((with_reducible_and_instances refine' dw_or1 ?dta); (case' dta => (walk_at "dt")))
  | ((with_reducible_and_instances refine' dw_orT ?dta); (case' dta => (walk_at "dt")))
  | ((with_reducible_and_instances refine' dw_andF ?dta); (case' dta => (walk_at "dt")))
  | ((with_reducible_and_instances refine' dw_and ?dta (fun hand => ?dwa)); (case' dta => (walk_at "dt")); (case' dwa => (walk_at "dw")))
  | ((with_reducible_and_instances refine' dw_or ?dta (fun hor => ?dwa)); (case' dta => (walk_at "dt")); (case' dwa => (walk_at "dw"))))
local macro_rules | `(tactic| walk_at "de") => `(tactic| first
  | with_reducible_and_instances exact de_int | with_reducible_and_instances exact de_str | with_reducible_and_instances exact de_bl | with_reducible_and_instances exact de_non
  | walk_at "nm"
  | ((with_reducible_and_instances refine' ngi ?ci ?hm ?hg); (case' ci => (with_reducible_and_instances assumption)); (case' hm => assumption); (case' hg => decide +kernel))
  | ((with_reducible_and_instances refine' nty ?ci ?hm ?hv ?hg); (case' ci => (with_reducible_and_instances assumption)); (case' hm => assumption); (case' hv => infer_instance); (case' hg => decide +kernel))
  | ((with_reducible_and_instances refine' de_bin ?dea ?deb ?dop); (case' dea => (walk_at "de")); (case' deb => (walk_at "de")); (case' dop => (walk_at "bin")))
  | ((with_reducible_and_instances refine' de_cmp ?dea ?deb ?dop ?mk); (case' dea => (walk_at "de")); (case' deb => (walk_at "de")); (case' dop => (walk_at "cmp")); (case' mk => first | exact nomark _ | rfl))
  | ((with_reducible_and_instances refine' de_chain ?dea ?deb ?dop (fun hc => ⟨?dec, ?dop2⟩) ?mk); (case' dea => (walk_at "de")); (case' deb => (walk_at "de")); (case' dop => (walk_at "cmp")); (case' dec => (walk_at "de")); (case' dop2 => (walk_at "cmp")); (case' mk => (with_unfolding_all rfl)))
  | walk_at "call"
  | ((with_reducible_and_instances refine' de_tup ?dac ?dop); (case' dac => (walk_at "da")); (case' dop => (walk_at "mkt")))
  | ((with_reducible_and_instances refine' de_lst ?dac ?dop); (case' dac => (walk_at "da")); (case' dop => (walk_at "mkl")))
  | ((with_reducible_and_instances refine' de_un ?dea ?dop); (case' dea => (walk_at "de")); (case' dop => (with_reducible_and_instances exact un_neg_int)))
  | ((with_reducible_and_instances refine' de_cut ?dea ?dol ?doh); (case' dea => (walk_at "de")); (case' dol => (walk_at "do")); (case' doh => (walk_at "do")))
  | ((with_reducible_and_instances refine' gf ?ci ?ho ?hc ?c ?na ?hl ?hb); (case' ci => (with_reducible_and_instances assumption)); (case' ho => (walk_at "de")); (case' hc => exact rfl); (case' c => assumption); (case' na => assumption); (case' hl => exact rfl); (case' hb => exact rfl))
  | ((with_reducible_and_instances refine' dgx ?ci ?ho ?hc ?ha ?hk ?hi ?hg ?hs); (case' ha => (with_reducible_and_instances exact de_str)); (case' ci => (with_reducible_and_instances assumption)); (case' ho => (walk_at "nm")); (case' hc => exact rfl); (case' hk => exact key_str); (case' hi => exact rfl); (case' hg => exact rfl); (case' hs => (walk_at "nosl")))
  | ((with_reducible_and_instances refine' de_ix ?dea ?deb ?dop ?pl); (case' dea => (walk_at "de")); (case' deb => (walk_at "de")); (case' dop => (walk_at "ixd")); (case' pl => (exact fun _ _ => rfl)))
  | ((with_reducible_and_instances refine' de_not1 ?dea); (case' dea => (walk_at "de")))
  | ((with_reducible_and_instances refine' de_and1 ?dea); (case' dea => (walk_at "de")))
  | ((with_reducible_and_instances refine' de_orT ?dea); (case' dea => (walk_at "de")))
  | ((with_reducible_and_instances refine' de_andF ?dea); (case' dea => (walk_at "de")))
  | ((with_reducible_and_instances refine' de_and ?dea (fun hand => ?deb)); (case' dea => (walk_at "de")); (case' deb => (walk_at "de")))
  | ((with_reducible_and_instances refine' de_or ?dea (fun hor => ?deb)); (case' dea => (walk_at "de")); (case' deb => (walk_at "de")))
  | ((with_reducible_and_instances refine' dif ?dtt (fun hk => ?dea) (fun hk => ?deb)); (case' dtt => (walk_at "dt")); (case' dea => (walk_at "de")); (case' deb => (walk_at "de")))
  | walk_at "comp"
  | walk_at "de more")
local macro_rules | `(tactic| walk_at "do") => `(tactic| first | with_reducible_and_instances exact do_none | ((with_reducible_and_instances refine' do_some ?dea); (case' dea => (walk_at "de"))))
local macro_rules | `(tactic| walk_at "dts") => `(tactic| first | with_reducible_and_instances exact dts_nil | ((with_reducible_and_instances refine' dts_one ?dtt); (case' dtt => (walk_at "dt"))))
local macro_rules | `(tactic| walk_at "turn") => `(tactic| (intro x hx; (refine' LcT.mk' ?h ?hp ?hy); (case' h => (intro Y cY; walk_at "tg"; (refine' ⟨rfl, ?ts, ?el⟩); (case' ts => (intro Z cZ; walk_at "dts")); (case' el => (intro hk Z cZ; walk_at "de")))); (case' hp => exact rfl); (case' hy => exact fun _ => rfl)))
local macro_rules | `(tactic| walk_at "comp") => `(tactic| first
  | ((with_reducible_and_instances refine' lc0 ?ci ?ow ?hf ?di ?turn); (case' ci => (with_reducible_and_instances assumption)); (case' ow => (walk_at "own")); (case' hf => (exact fun _ => rfl)); (case' di => (walk_at "di")); (case' turn => (walk_at "turn")))
  | ((with_reducible_and_instances refine' lc ?ci ?ow ?hf ?di ?turn); (case' ci => (with_reducible_and_instances assumption)); (case' ow => (walk_at "own")); (case' hf => (exact fun _ => rfl)); (case' di => (walk_at "di")); (case' turn => (walk_at "turn"))))
local macro_rules | `(tactic| walk_at "di") => `(tactic| first
  | ((with_reducible_and_instances refine' r1 ?ci ?hm ?hg ?hs ?dac ?side); (case' ci => (with_reducible_and_instances assumption)); (case' hm => assumption); (case' hg => decide +kernel); (case' hs => rfl); (case' dac => (walk_at "da")))
  | ((with_reducible_and_instances refine' r2 ?ci ?hm ?hg ?hs ?hs2 ?dac ?side); (case' ci => (with_reducible_and_instances assumption)); (case' hm => assumption); (case' hg => decide +kernel); (case' hs => rfl); (case' hs2 => rfl); (case' dac => (walk_at "da")))
  | ((with_reducible_and_instances refine' dil ?dea); (case' dea => (walk_at "de")))
  | ((with_reducible_and_instances refine' ditp ?dea); (case' dea => (walk_at "de"))))
local macro_rules | `(tactic| walk_at "tg") => `(tactic| first
  | ((with_reducible_and_instances refine' nmg ?ci ?ix ?hi ?vi ?q); (case' ci => (with_reducible_and_instances assumption)); (case' ix => exact rfl); (case' hi => exact rfl); (case' vi => decide +kernel))
  | ((with_reducible_and_instances refine' nmgC ?ci ?hf ?ix ?hi ?vi ?q); (case' ci => (with_reducible assumption)); (case' hf => (with_reducible assumption)); (case' ix => exact rfl); (case' hi => exact rfl); (case' vi => decide +kernel))
  | ((with_reducible_and_instances refine' wgt ?ci ?un ?hn ?q ?hi); (case' ci => (with_reducible_and_instances assumption)); (case' un => first | with_reducible_and_instances exact unT_2 | with_reducible_and_instances exact unT_3); (case' hn => (exact ⟨rfl, rfl⟩)); (case' q => (walk_at "tgs")); (case' hi => exact rfl)))
local macro_rules | `(tactic| walk_at "tgs") => `(tactic| first
  | with_reducible_and_instances refine' wgs_nil ?q
  | ((with_reducible_and_instances refine' wgs_cons ?q ?hs); (case' hs => rfl); (case' q => (walk_at "tg")); walk_at "tgs"))
local macro_rules | `(tactic| walk_at "we") => `(tactic| ((with_reducible_and_instances refine' WE.de ?dpure ?_); (case' dpure => (walk_at "de"))))
local macro_rules | `(tactic| walk_at "wt") => `(tactic| ((with_reducible_and_instances refine' WT.dt ?dpure ?_); (case' dpure => (walk_at "dt"))))
local macro_rules | `(tactic| walk_at "if") => `(tactic| ((with_reducible_and_instances refine' w1_ifD ?dpure ?_ ?_); (case' dpure => (walk_at "dt"))))
local macro_rules | `(tactic| walk_at "set") => `(tactic| ((with_reducible_and_instances refine' nms ?ci ?hf ?ix ?vi ?sw ?_); (case' ci => (with_reducible_and_instances assumption)); (case' hf => (with_reducible_and_instances assumption)); (case' ix => exact rfl); (case' vi => decide +kernel); (case' sw => rfl)))
local macro_rules | `(tactic| walk_at "setLc") => `(tactic| first
  | ((with_reducible_and_instances refine' nlc0 ?ci ?ix ?vi ?ow ?hf ?sw ?di ?turn ?_); (case' ci => (with_reducible_and_instances assumption)); (case' ix => exact rfl); (case' vi => decide +kernel); (case' ow => (walk_at "own")); (case' hf => (exact fun _ => rfl)); (case' sw => (walk_at "swp")); (case' di => (walk_at "di")); (case' turn => (walk_at "turn")))
  | ((with_reducible_and_instances refine' nlc ?ci ?ix ?vi ?ow ?hf ?sw ?di ?turn ?_); (case' ci => (with_reducible_and_instances assumption)); (case' ix => exact rfl); (case' vi => decide +kernel); (case' ow => (walk_at "own")); (case' hf => (exact fun _ => rfl)); (case' sw => (walk_at "swp")); (case' di => (walk_at "di")); (case' turn => (walk_at "turn"))))
local macro_rules | `(tactic| walk_at "sf") => `(tactic| first
  | ((with_reducible_and_instances refine' sfD ?ci ?ho ?hc ?c ?na ?hs ?hl ?de1 ?_); (case' ci => (with_reducible_and_instances assumption)); (case' ho => (walk_at "nm")); (case' hc => exact rfl); (case' c => assumption); (case' na => assumption); (case' hs => exact rfl); (case' hl => (exact Nat.le_of_ble_eq_true rfl)); (case' de1 => (walk_at "de")))
  | ((with_reducible_and_instances refine' afD ?ci ?ho ?hc ?c ?na ?hl ?hl2 ?de1 ?au ?_); (case' ci => (with_reducible_and_instances assumption)); (case' ho => (walk_at "nm")); (case' hc => exact rfl); (case' c => assumption); (case' na => assumption); (case' hl => exact rfl); (case' hl2 => (exact Nat.le_of_ble_eq_true rfl)); (case' de1 => (walk_at "de")); (case' au => first | with_reducible_and_instances exact a_add | with_reducible_and_instances exact a_sub)))
local macro_rules | `(tactic| walk_at "sd") => `(tactic| ((with_reducible_and_instances refine' sdx ?ci ?ho ?hc ?ha ?hk ?hs ?hl ?hi ?hn ?de1 ?_); (case' ha => (with_reducible exact de_str)); (case' ci => (with_reducible assumption)); (case' ho => (walk_at "nm")); (case' hc => exact rfl); (case' hk => exact key_str); (case' hs => exact rfl); (case' hl => (exact Nat.le_of_ble_eq_true rfl)); (case' hi => exact rfl); (case' hn => exact rfl); (case' de1 => (walk_at "de"))))
local macro_rules | `(tactic| walk_at "nosl") => `(tactic| first | exact fun _ _ => rfl)
local macro_rules | `(tactic| walk_at "w1") => `(tactic| first
  | with_reducible_and_instances refine' w1_ret ?_ | walk_at "sf" | walk_at "sd" | walk_at "set" | walk_at "setLc" | with_reducible_and_instances refine' w1_expr ?_ rfl | with_reducible_and_instances refine' w1_retN ?_ | with_reducible_and_instances refine' w1_pass ?_ | with_reducible_and_instances refine' w1_break ?_ | with_reducible_and_instances refine' w1_cont ?_)
local macro_rules | `(tactic| walk_at "ws") => `(tactic| first | refine' ws_nil ?_ | (refine' ws_cons ?_; first | walk_at "w1" | skip))
local macro_rules | `(tactic| walk_at "swp") => `(tactic| ((with_reducible_and_instances refine' swp ?ci ?hh); (case' ci => (with_reducible assumption)); (case' hh => decide +kernel)))
local macro_rules | `(tactic| walk_at "lok") => `(tactic| first | assumption | skip)
local macro_rules | `(tactic| walk_at "dbd") => `(tactic| first | exact ⟨by decide, by decide⟩ | exact ⟨by omega, by omega⟩ | (refine ⟨?_, ?_⟩ <;> split <;> omega) | skip)
local macro_rules | `(tactic| walk_at "wa") => `(tactic| first
  | with_reducible_and_instances refine' wa_nil ?_
  | ((with_reducible_and_instances refine' wa_cons ?_ ?hs); (case' hs => exact rfl); walk_at "wx"; walk_at "wa"))
local macro_rules | `(tactic| walk_at "wx") => `(tactic| first
  | ((with_reducible_and_instances refine' drw ?ci ?hF ?hj ?hg ?hc ?hc2 ?ho ?hb); (case' ci => (with_reducible assumption)); (case' hF => assumption); (case' hj => decide); (case' hg => decide +kernel); (case' hc => (walk_at "callOk")); (case' hc2 => exact rfl); (case' ho => (walk_at "nm")); (case' hb => (walk_at "wx"; (refine' ⟨_, _, _, rfl, rfl, ?lok, ?dbd, ?_⟩); (case' lok => (walk_at "lok")); (case' dbd => (walk_at "dbd")); rotate_right; intro r t' h1 h2 h3)))
  | ((with_reducible_and_instances refine' pck ?ci ?hF ?hj ?hg ?hc ?hc2 ?ho ?hb); (case' ci => (with_reducible assumption)); (case' hF => assumption); (case' hj => decide); (case' hg => decide +kernel); (case' hc => (walk_at "callOk")); (case' hc2 => exact rfl); (case' ho => (walk_at "nm")); (case' hb => (walk_at "wx"; (refine' ⟨_, _, _, _, _, rfl, rfl, ?lok, ?ne, ?len, ?_⟩); (case' lok => (walk_at "lok")); (case' ne => (first | exact List.cons_ne_nil _ _ | skip)); (case' len => (first | exact Nat.le_of_ble_eq_true rfl | skip)); rotate_right; intro x hx t' h3)))
  | walk_at "we"
  | ((with_reducible_and_instances refine' we_bin ?_); walk_at "wx"; walk_at "wx"; (refine' ⟨_, ?op, ?_⟩); (case' op => (walk_at "bin")))
  | ((with_reducible_and_instances refine' we_cmp ?_ ?mk); (case' mk => first | exact nomark _ | rfl); walk_at "wx"; walk_at "wx"; (refine' ⟨_, ?op, ?_⟩); (case' op => (walk_at "cmp")))
  | ((with_reducible_and_instances refine' we_lst ?_); walk_at "wa"; (refine' ⟨_, ?op, ?_⟩); (case' op => (walk_at "mkl")))
  | ((with_reducible_and_instances refine' we_tup ?_); walk_at "wa"; (refine' ⟨_, ?op, ?_⟩); (case' op => (walk_at "mkt"))))
local macro_rules | `(tactic| walk_at "app") => `(tactic| ((with_reducible_and_instances refine' apD ?ho ?hc ?h ?hl ?h1 ?h2 ?h3 ?h4 ?h5 ?_); (case' ho => (walk_at "nm")); (case' hc => exact rfl); (case' h => (walk_at "de")); (case' h1 => exact rfl); (case' h2 => exact rfl); (case' h3 => exact rfl); (case' h4 => exact rfl); (case' h5 => exact rfl)))
section
variable {P : Program} {w : World} {K : Fg} {mg : PySem.Str → Option Value} {base : Heap} {f : Addr} {fd : FuncData}
/-! ### _law_source -/
def swSource : SpecW := fun env cs Φ => ∃ (t : LSt) (time : Int) (b : Bool), env = [.c 0, .of time, .of b] ∧ cs = [stC t] ∧ LOk t ∧ ∀ (lo hi : Int) t', LOk t' → lo ≤ hi → time - 40 ≤ lo → hi ≤ time + 60 → (b = true → lo ≤ time ∧ time ≤ hi) → Φ (.of (lo, hi)) [stC t']
theorem ok_law_source (F : F_law_source K f fd) (f_law_draw : FnR P w K mg base 1 "_law_draw" p_law_draw swDraw) : FnOk P w K mg base CX0 2 f fd p_law_source (FSp K swSource) := by
  refine fn_okA F sc_law_source ?_ fun X ci hf env cs Φ hsw => ?_
  · rintro env cs Φ ⟨t, time, b, rfl, _⟩; exact ⟨rfl, (by decide : 3 ≤ 4)⟩
  · obtain ⟨t, time, b, rfl, rfl, ok, hk⟩ := hsw
    walk_at "ws"
    walk_at "if"
    · intro hb
      walk_at "ws"
      walk_at "wx"
      refine hk _ _ _ (by assumption) ?_ ?_ ?_ ?_ <;> omega
    · intro hb
      walk_at "ws"
      walk_at "ws"
      walk_at "wx"
      walk_at "ws"
      walk_at "wx"
      refine hk _ _ _ (by assumption) ?_ ?_ ?_ ?_
      · omega
      · omega
      · omega
      · intro h; rw [hb] at h; cases h
/-! ### _law_agreement -/
def enough (xs : List (Int × Int)) (f : Int) : Int := max 1 ((xs.length : Int) - f)
def isGood (xs : List (Int × Int)) (f n : Int) : Bool := decide (enough xs f ≤ countOf xs n)
def lawLo (xs : List (Int × Int)) : Int := minL (xs.map (·.1))
def lawHi (xs : List (Int × Int)) : Int := maxL (xs.map (·.2))
def lawGood (xs : List (Int × Int)) (f : Int) : List Int := (rngL (lawLo xs) (lawHi xs + 1 - lawLo xs).toNat).filter (isGood xs f)
def lawAgr (xs : List (Int × Int)) (f : Int) : Option (Int × Int) := match lawGood xs f with
  | [] => none
  | a :: l => some (a, (a :: l).getLast (List.cons_ne_nil _ _))
local macro_rules | `(tactic| walk_at "own") => `(tactic| first | (refine' own_mk [("source", 5)] ?h rfl; decide +kernel))
theorem ok_law_agreement (F : F_law_agreement K f fd) (m_len : mg "len" = none) (m_max : mg "max" = none) (m_min : mg "min" = none) (m_range : mg "range" = none) : FnOk P w K mg base CX0 1 f fd p_law_agreement (FSp K (sp2 (fun (xs : List (Int × Int)) (_ : Int) => xs ≠ [] ∧ lawHi xs + 1 - lawLo xs ≤ 100000 ∧ -(2 ^ 60) ≤ lawLo xs ∧ lawLo xs < 2 ^ 60 ∧ -(2 ^ 60) ≤ lawHi xs) lawAgr)) := by
  refine fn_okD F sc_law_agreement ?_ fun X ci hf env cs Φ hsw => ?_
  · rintro env cs Φ ⟨x, y, rfl, _⟩; exact ⟨rfl, (by decide : 2 ≤ 6)⟩
  · obtain ⟨xs, f, rfl, rfl, ⟨hx, h1, h2, h3, h4⟩, hk⟩ := hsw
    have hpos := List.length_pos_iff.mpr hx
    walk_at "ws"
    walk_at "we"
    walk_at "ws"
    refine' we_nil Int ?_
    refine' ws_cut (fun env' cs' => ∃ s4 s5 : Slot, env' = [.of xs, .of f, .of (enough xs f), .c 0, s4, s5] ∧ cs' = [.tl Int inferInstance (lawGood xs f)]) ?_ ?_
    · refine' wfor ci (fun _ => rfl) (WI.di ?di ⟨fun i env' cs' => ∃ s4 s5 : Slot, env' = [.of xs, .of f, .of (enough xs f), .c 0, s4, s5] ∧ cs' = [.tl Int inferInstance (((rngL (lawLo xs) (lawHi xs + 1 - lawLo xs).toNat).take i).filter (isGood xs f))], ?i0, ?turn, ?fin⟩)
      case' di => walk_at "di"
      case' turn =>
        rintro i env' cs' s hs ⟨s4, s5, rfl, rfl⟩
        obtain ⟨hi, rfl⟩ := rng_slot hs
        have hi : i < (lawHi xs + 1 - lawLo xs).toNat := hi
        have ht : (rngL (lawLo xs) (lawHi xs + 1 - lawLo xs).toNat).take (i + 1) = (rngL (lawLo xs) (lawHi xs + 1 - lawLo xs).toNat).take i ++ [lawLo xs + (i : Int)] := by rw [List.take_add_one, rng_get hi]; rfl
        walk_at "tg"
        walk_at "ws"
        walk_at "if"
        · intro hc
          have hc : isGood xs f (lawLo xs + (i : Int)) = true := hc
          walk_at "ws"
          walk_at "app"
          · refine Nat.lt_of_le_of_lt (List.length_filter_le _ _) (Nat.lt_of_le_of_lt (List.length_take_le _ _) ?_)
            show i < sizeLine
            have e : sizeLine = 16777216 ∨ 100000 < sizeLine := .inr (by decide)
            have h4 : i < 100000 := by omega
            exact Nat.lt_trans h4 (by decide)
          walk_at "ws"
          walk_at "ws"
          refine ⟨_, _, rfl, ?_⟩
          rw [ht, List.filter_append, List.filter_cons, if_pos hc]
          rfl
        · intro hc
          have hc : isGood xs f (lawLo xs + (i : Int)) = false := hc
          walk_at "ws"
          walk_at "ws"
          refine ⟨_, _, rfl, ?_⟩
          rw [ht, List.filter_append, List.filter_cons, if_neg (by rw [hc]; exact Bool.false_ne_true), List.filter_nil, List.append_nil]
      case' i0 => exact ⟨_, _, rfl, rfl⟩
      case' fin =>
        rintro env' cs' ⟨s4, s5, rfl, rfl⟩
        refine ⟨s4, s5, rfl, ?_⟩
        show [Cell.tl Int inferInstance (List.filter (isGood xs f) ((rngL (lawLo xs) (lawHi xs + 1 - lawLo xs).toNat).take ((rngL (lawLo xs) (lawHi xs + 1 - lawLo xs).toNat).map Slot.of).length))] = _
        rw [List.length_map, List.take_length]
        rfl
      · rw [List.length_map]; exact hpos
      · rw [List.length_map]; exact hpos
      · show lawHi xs + 1 - lawLo xs ≤ 16777216 ∧ -2 ^ 62 ≤ lawLo xs ∧ lawLo xs < 2 ^ 62 ∧ -2 ^ 62 ≤ lawHi xs + 1 ∧ lawHi xs + 1 < 2 ^ 62
        omega
    · rintro env' cs' ⟨s4, s5, rfl, rfl⟩
      refine' wfz 0 (α := Int) rfl [.of xs, .of f, .of (enough xs f), .of (lawGood xs f), frz 0 (.of (lawGood xs f)) s4, frz 0 (.of (lawGood xs f)) s5] rfl ?_
      walk_at "ws"
      refine' WE.de (s := .of (lawAgr xs f)) ?_ (drop0 hk)
      cases e : lawGood xs f with
      | nil =>
        have e2 : lawAgr xs f = none := by unfold lawAgr; rw [e]
        rw [e2]
        refine' de_if (k := false) (α := Option (Int × Int)) (x := none) (y := none) ?t1 (fun h => ?_) (fun h => de_le le_none ?b1)
        case' t1 =>
          refine' DT.conv ?t1a ?t1b
          case' t1a => walk_at "dt"
          case' t1b => rfl
        case' b1 => walk_at "de"
        cases h
      | cons a l =>
        have e2 : lawAgr xs f = some (a, (a :: l).getLast (List.cons_ne_nil _ _)) := by unfold lawAgr; rw [e]
        rw [e2]
        have g0 : atI (a :: l) 0 = some a := at_zero
        have g1 : atI (a :: l) (-1) = some ((a :: l).getLast (List.cons_ne_nil _ _)) := at_last
        refine' de_if (k := true) (α := Option (Int × Int)) (x := some (a, (a :: l).getLast (List.cons_ne_nil _ _))) (y := some (a, (a :: l).getLast (List.cons_ne_nil _ _))) ?t2 (fun h => de_le le_some ?a2) (fun h => nomatch h)
        case' t2 =>
          refine' DT.conv ?t2a ?t2b
          case' t2a => walk_at "dt"
          case' t2b => simp only [List.length_cons, decide_eq_true_eq]; omega
        case' a2 => walk_at "de"
end
end K30

set_option Elab.async false
set_option linter.all false
set_option maxRecDepth 100000
set_option maxHeartbeats 2000000
namespace K30
open PySem PyProof.Rows L2 DL
/-! ### the plain law -/
theorem exists_top {α : Type} (g : α → Int) : ∀ {l : List α}, l ≠ [] → ∃ m ∈ l, ∀ y ∈ l, g y ≤ g m
  | [], h => absurd rfl h
  | [a], _ => ⟨a, List.mem_cons_self, fun y hy => by rw [List.mem_singleton.mp hy]; exact Int.le_refl _⟩
  | a :: b :: l, _ => by
    obtain ⟨m, h1, h2⟩ := exists_top g (l := b :: l) (List.cons_ne_nil _ _)
    by_cases h : g a ≤ g m
    · refine ⟨m, List.mem_cons_of_mem _ h1, fun y hy => ?_⟩
      rcases List.mem_cons.mp hy with rfl | hy
      · exact h
      · exact h2 y hy
    · refine ⟨a, List.mem_cons_self, fun y hy => ?_⟩
      rcases List.mem_cons.mp hy with rfl | hy
      · exact Int.le_refl _
      · have := h2 y hy; omega
/-- p holds n -/
def hol (n : Int) (p : Int × Int) : Bool := decide (p.1 ≤ n) && decide (n ≤ p.2)
theorem hol_iff {n : Int} {p : Int × Int} : hol n p = true ↔ p.1 ≤ n ∧ n ≤ p.2 := by simp [hol]
theorem countOf_eq (xs : List (Int × Int)) (n : Int) : countOf xs n = ((xs.countP (hol n) : Nat) : Int) := by
  unfold countOf
  rw [List.length_map, ← List.countP_eq_length_filter]; rfl
theorem good_some {xs : List (Int × Int)} {f n : Int} (h : isGood xs f n = true) : xs.filter (hol n) ≠ [] := by
  intro e
  have : xs.countP (hol n) = 0 := by rw [List.countP_eq_length_filter, e]; rfl
  simp only [isGood, enough, countOf_eq, this, decide_eq_true_eq] at h
  omega
theorem good_mono {xs : List (Int × Int)} {f n m : Int} (h : isGood xs f n = true) (hm : ∀ p ∈ xs, hol n p = true → hol m p = true) : isGood xs f m = true := by
  have := List.countP_mono_left hm
  simp only [isGood, countOf_eq, decide_eq_true_eq] at h ⊢
  omega
theorem good_low {xs : List (Int × Int)} {f n : Int} (h : isGood xs f n = true) : ∃ p ∈ xs, p.1 ≤ n ∧ isGood xs f p.1 = true := by
  obtain ⟨p, h1, h2⟩ := exists_top (fun p => p.1) (good_some h)
  obtain ⟨h3, h4⟩ := List.mem_filter.mp h1
  rw [hol_iff] at h4
  refine ⟨p, h3, h4.1, good_mono h fun q hq hh => ?_⟩
  have := h2 q (List.mem_filter.mpr ⟨hq, hh⟩)
  rw [hol_iff] at hh ⊢
  omega
theorem good_high {xs : List (Int × Int)} {f n : Int} (h : isGood xs f n = true) : ∃ p ∈ xs, n ≤ p.2 ∧ isGood xs f p.2 = true := by
  obtain ⟨p, h1, h2⟩ := exists_top (fun p => -p.2) (good_some h)
  obtain ⟨h3, h4⟩ := List.mem_filter.mp h1
  rw [hol_iff] at h4
  refine ⟨p, h3, h4.2, good_mono h fun q hq hh => ?_⟩
  have := h2 q (List.mem_filter.mpr ⟨hq, hh⟩)
  rw [hol_iff] at hh ⊢
  omega
theorem maxL_spec {l : List Int} (h : l ≠ []) : maxL l ∈ l ∧ ∀ y ∈ l, y ≤ maxL l := by
  obtain ⟨m, h1, h2⟩ := exists_top (fun x : Int => x) h
  rw [maxL_eq h1 h2]; exact ⟨h1, h2⟩
theorem minL_spec {l : List Int} (h : l ≠ []) : minL l ∈ l ∧ ∀ y ∈ l, minL l ≤ y := by
  obtain ⟨m, h1, h2⟩ := exists_top (fun x : Int => -x) h
  have h2 : ∀ y ∈ l, m ≤ y := fun y hy => by have := h2 y hy; omega
  rw [minL_eq h1 h2]; exact ⟨h1, h2⟩
theorem mem_goodOf {xs : List (Int × Int)} {f n : Int} : n ∈ goodOf xs f ↔ (∃ p ∈ xs, p.1 = n ∨ p.2 = n) ∧ isGood xs f n = true := by
  unfold goodOf
  rw [List.map_id', List.mem_filter, List.mem_append]
  have e : ∀ l : List Int, n ∈ srt l ↔ n ∈ l := fun l => (List.mergeSort_perm l _).mem_iff
  rw [e, e]
  refine and_congr ⟨fun h => ?_, fun h => ?_⟩ Iff.rfl
  · rcases h with h | h <;> obtain ⟨p, h1, h2⟩ := List.mem_map.mp h
    · exact ⟨p, h1, .inl h2⟩
    · exact ⟨p, h1, .inr h2⟩
  · obtain ⟨p, h1, h2 | h2⟩ := h
    · exact .inl (List.mem_map.mpr ⟨p, h1, h2⟩)
    · exact .inr (List.mem_map.mpr ⟨p, h1, h2⟩)
theorem lawLo_le {xs : List (Int × Int)} {p : Int × Int} (h : p ∈ xs) : lawLo xs ≤ p.1 := (minL_spec (l := xs.map (·.1)) (List.ne_nil_of_mem (List.mem_map.mpr ⟨p, h, rfl⟩))).2 _ (List.mem_map.mpr ⟨p, h, rfl⟩)
theorem le_lawHi {xs : List (Int × Int)} {p : Int × Int} (h : p ∈ xs) : p.2 ≤ lawHi xs := (maxL_spec (l := xs.map (·.2)) (List.ne_nil_of_mem (List.mem_map.mpr ⟨p, h, rfl⟩))).2 _ (List.mem_map.mpr ⟨p, h, rfl⟩)
theorem mem_rng {lo : Int} {n : Nat} {x : Int} : x ∈ rngL lo n ↔ lo ≤ x ∧ x < lo + n := by
  unfold rngL
  rw [List.mem_map]
  constructor
  · rintro ⟨i, h1, rfl⟩
    rw [List.mem_range] at h1
    omega
  · rintro ⟨h1, h2⟩
    exact ⟨(x - lo).toNat, by rw [List.mem_range]; omega, by omega⟩
theorem mem_lawGood {xs : List (Int × Int)} {f n : Int} : n ∈ lawGood xs f ↔ isGood xs f n = true := by
  unfold lawGood
  rw [List.mem_filter, mem_rng]
  refine ⟨fun h => h.2, fun h => ⟨?_, h⟩⟩
  obtain ⟨p, hp, h1, _⟩ := good_low h
  obtain ⟨q, hq, h2, _⟩ := good_high h
  have := lawLo_le hp
  have := le_lawHi hq
  omega
theorem lawGood_sorted (xs : List (Int × Int)) (f : Int) : (lawGood xs f).Pairwise (· < ·) := by
  unfold lawGood rngL
  refine List.Pairwise.filter _ (List.Pairwise.map _ (fun a b h => ?_) List.pairwise_lt_range)
  omega
theorem last_ge : ∀ {a : Int} {l : List Int}, (a :: l).Pairwise (· < ·) → ∀ x ∈ a :: l, x ≤ (a :: l).getLast (List.cons_ne_nil _ _)
  | a, [], _, x, hx => by rw [List.mem_singleton.mp hx]; exact Int.le_refl _
  | a, b :: l, h, x, hx => by
    rw [List.getLast_cons (List.cons_ne_nil _ _)]
    have ih := last_ge (List.pairwise_cons.mp h).2
    rcases List.mem_cons.mp hx with rfl | hx
    · have := (List.pairwise_cons.mp h).1 b List.mem_cons_self
      have := ih b List.mem_cons_self
      omega
    · exact ih x hx
/-- what the law's agreement is -/
theorem lawAgr_iff {xs : List (Int × Int)} {f a b : Int} (ha : isGood xs f a = true) (hb : isGood xs f b = true) (h : ∀ n, isGood xs f n = true → a ≤ n ∧ n ≤ b) : lawAgr xs f = some (a, b) := by
  unfold lawAgr
  have hs := lawGood_sorted xs f
  have hm : ∀ n, n ∈ lawGood xs f ↔ isGood xs f n = true := fun n => mem_lawGood
  cases e : lawGood xs f with
  | nil => rw [e] at hm; have := (hm a).mpr ha; cases this
  | cons c l =>
    rw [e] at hm hs
    have h1 : c = a := by
      have g1 := h c ((hm c).mp List.mem_cons_self)
      rcases List.mem_cons.mp ((hm a).mpr ha) with g2 | g2
      · exact g2.symm
      · have := (List.pairwise_cons.mp hs).1 a g2; omega
    have h2 : (c :: l).getLast (List.cons_ne_nil _ _) = b := by
      have g1 := (h _ ((hm _).mp (List.getLast_mem (List.cons_ne_nil c l)))).2
      have g2 := last_ge hs b ((hm b).mpr hb)
      omega
    show some (c, _) = some (a, b)
    rw [h1] at *
    rw [h2]
theorem lawAgr_none {xs : List (Int × Int)} {f : Int} (h : ∀ n, isGood xs f n = false) : lawAgr xs f = none := by
  unfold lawAgr
  cases e : lawGood xs f with
  | nil => rfl
  | cons c l =>
    have := mem_lawGood.mp (e ▸ List.mem_cons_self : c ∈ lawGood xs f)
    rw [h c] at this; cases this
theorem agree_eq (xs : List (Int × Int)) (f : Int) : agreeM xs f = lawAgr xs f := by
  unfold agreeM
  by_cases e : goodOf xs f = []
  · rw [e, if_neg (by decide)]
    refine (lawAgr_none fun n => ?_).symm
    cases g : isGood xs f n with
    | false => rfl
    | true =>
      obtain ⟨p, h1, h2, h3⟩ := good_low g
      have := mem_goodOf.mpr ⟨⟨p, h1, .inl rfl⟩, h3⟩
      rw [e] at this; cases this
  · have hne : (!(goodOf xs f).isEmpty) = true := by
      cases h : goodOf xs f with
      | nil => exact absurd h e
      | cons a l => rfl
    rw [if_pos hne]
    obtain ⟨a1, a2⟩ := minL_spec e
    obtain ⟨b1, b2⟩ := maxL_spec e
    refine (lawAgr_iff (mem_goodOf.mp a1).2 (mem_goodOf.mp b1).2 fun n hn => ?_).symm
    obtain ⟨p, h1, h2, h3⟩ := good_low hn
    obtain ⟨q, g1, g2, g3⟩ := good_high hn
    have := a2 _ (mem_goodOf.mpr ⟨⟨p, h1, .inl rfl⟩, h3⟩)
    have := b2 _ (mem_goodOf.mpr ⟨⟨q, g1, .inr rfl⟩, g3⟩)
    omega
/-- enough sources hold the time: so does what they agree on -/
theorem agr_holds {xs : List (Int × Int)} {f n : Int} (h : isGood xs f n = true) : ∃ a b, lawAgr xs f = some (a, b) ∧ a ≤ n ∧ n ≤ b := by
  rw [← agree_eq]
  obtain ⟨p, h1, h2, h3⟩ := good_low h
  have hp := mem_goodOf.mpr ⟨⟨p, h1, .inl rfl⟩, h3⟩
  have e : goodOf xs f ≠ [] := List.ne_nil_of_mem hp
  have hne : (!(goodOf xs f).isEmpty) = true := by
    cases h : goodOf xs f with
    | nil => exact absurd h e
    | cons a l => rfl
  unfold agreeM
  rw [if_pos hne]
  obtain ⟨q, g1, g2, g3⟩ := good_high h
  have hq := mem_goodOf.mpr ⟨⟨q, g1, .inr rfl⟩, g3⟩
  have := (minL_spec e).2 _ hp
  have := (maxL_spec e).2 _ hq
  exact ⟨_, _, rfl, by omega, by omega⟩
theorem good_of_count {xs : List (Int × Int)} {f n : Int} (h1 : (xs.length : Int) - f ≤ (xs.countP (hol n) : Nat)) (h2 : 1 ≤ xs.countP (hol n)) : isGood xs f n = true := by
  simp only [isGood, enough, countOf_eq, decide_eq_true_eq]
  omega
end K30

set_option Elab.async false
set_option linter.all false
set_option maxRecDepth 100000
set_option maxHeartbeats 4000000
namespace K30
open PySem PyProof.Rows L2 DL
/-! ### the walk's steps -/
local macro_rules | `(tactic| walk_at "nm") => `(tactic| ((with_reducible_and_instances refine' nm ?ci ?ix ?sl ?vi ?ne); (case' ci => (with_reducible_and_instances assumption)); (case' ix => exact rfl); (case' sl => exact rfl); (case' vi => decide +kernel); (case' ne => nofun)))
local macro_rules | `(tactic| walk_at "side") => `(tactic| first | assumption | decide | omega | exact .inl ⟨by omega, by omega⟩ | exact .inr ⟨by omega, by omega⟩ | exact ⟨by omega, by omega⟩)
local macro_rules | `(tactic| walk_at "bin") => `(tactic| first
  | with_reducible_and_instances exact b_add | with_reducible_and_instances exact b_sub | ((with_reducible_and_instances refine' b_mul ?sd1); (case' sd1 => (first | exact .inr ⟨by decide, by decide⟩ | exact .inl ⟨by decide, by decide⟩ | skip))) | ((with_reducible_and_instances refine' b_mod ?sd1); (case' sd1 => (first | assumption | decide | skip))) | with_reducible_and_instances refine' b_div ?side | with_reducible_and_instances refine' b_pow ?side | with_reducible_and_instances refine' b_catL ?side | with_reducible_and_instances refine' b_catS ?side)
local macro_rules | `(tactic| walk_at "cmp") => `(tactic| first
  | with_reducible_and_instances exact c_isN_unit | with_reducible_and_instances exact c_isN | with_reducible_and_instances exact c_isNo | with_reducible_and_instances exact c_notN_unit | with_reducible_and_instances exact c_notN | with_reducible_and_instances exact c_notNo
  | with_reducible_and_instances exact c_lt | with_reducible_and_instances exact c_le | with_reducible_and_instances exact c_gt | with_reducible_and_instances exact c_ge | with_reducible_and_instances exact c_eq_int | with_reducible_and_instances exact c_ne_int | with_reducible_and_instances exact c_eq_bl | with_reducible_and_instances exact c_ne_bl | with_reducible_and_instances exact c_eq_str | with_reducible_and_instances exact c_ne_str
  | ((with_reducible_and_instances refine' c_eq_py ?hr ?hd); (case' hr => (with_reducible_and_instances exact CxI.room (by assumption))); (case' hd => decide)) | ((with_reducible_and_instances refine' c_ne_py ?hr ?hd); (case' hr => (with_reducible_and_instances exact CxI.room (by assumption))); (case' hd => decide)))
local macro_rules | `(tactic| walk_at "ixd") => `(tactic| first
  | with_reducible_and_instances exact x_fst | with_reducible_and_instances exact x_snd | with_reducible_and_instances exact x_t0 | with_reducible_and_instances exact x_t1 | with_reducible_and_instances exact x_t2 | ((with_reducible_and_instances refine' x_list ?sd1); (case' sd1 => (first | assumption | exact at_zero | exact at_one | skip))) | ((with_reducible_and_instances refine' x_tup ?sd1); (case' sd1 => (first | assumption | skip))))
local macro_rules | `(tactic| walk_at "fun") => `(tactic| first
  | ((with_reducible_and_instances refine' f_isi (r := true) ?ki); (case' ki => decide +kernel)) | ((with_reducible_and_instances refine' f_isi (r := false) ?ki); (case' ki => decide +kernel))
  | with_reducible_and_instances exact f_len | with_reducible_and_instances exact f_lenT | with_reducible_and_instances exact f_tuple | with_reducible_and_instances exact f_tupleT | with_reducible_and_instances exact f_list | with_reducible_and_instances exact f_listT
  | with_reducible_and_instances exact f_all (CxI.calm (by assumption)) | with_reducible_and_instances exact f_any (CxI.calm (by assumption)) | with_reducible_and_instances exact f_sum (CxI.calm (by assumption))
  | with_reducible_and_instances refine' f_max (CxI.calm (by assumption)) ?side | with_reducible_and_instances refine' f_min (CxI.calm (by assumption)) ?side | with_reducible_and_instances exact f_max2 (CxI.calm (by assumption)) | with_reducible_and_instances exact f_min2 (CxI.calm (by assumption)) | with_reducible_and_instances exact f_abs | with_reducible_and_instances exact f_int
  | ((with_reducible_and_instances refine' f_sorted ?hr ?hd); (case' hr => (with_reducible_and_instances exact CxI.room (by assumption))); (case' hd => decide)))
local macro_rules | `(tactic| walk_at "tru") => `(tactic| first
  | with_reducible_and_instances exact t_bl | with_reducible_and_instances exact t_int | with_reducible_and_instances exact t_unit | with_reducible_and_instances exact t_list | with_reducible_and_instances exact t_tup)
local macro_rules | `(tactic| walk_at "mkt") => `(tactic| first | with_reducible_and_instances exact mkT_2 | with_reducible_and_instances exact mkT_3 | refine' @mkT_2 _ _ _ _ _ _ _ | refine' @mkT_3 _ _ _ _ _ _ _ _ _ _)
local macro_rules | `(tactic| walk_at "mkl") => `(tactic| first | with_reducible_and_instances exact mkL2 | with_reducible_and_instances exact mkL3 | with_reducible_and_instances exact mkL5 | with_reducible_and_instances exact mkL4 | with_reducible_and_instances exact mkL1 | with_reducible_and_instances exact mkL6)
local macro_rules | `(tactic| walk_at "da") => `(tactic| first
  | with_reducible_and_instances exact da_nil
  | ((with_reducible_and_instances refine' da_cons ?de1 ?da1 ?st); (case' de1 => (walk_at "de")); (case' da1 => (walk_at "da")); (case' st => rfl)))
local macro_rules | `(tactic| walk_at "callOk") => `(tactic| exact ⟨rfl, rfl⟩)
local macro_rules | `(tactic| walk_at "call") => `(tactic| first
  | ((with_reducible_and_instances refine' cB ?ci ?hm ?hv ?hg ?hc ?dac ?dop); (case' ci => (with_reducible_and_instances assumption)); (case' hm => assumption); (case' hv => infer_instance); (case' hg => decide +kernel); (case' hc => (walk_at "callOk")); (case' dac => (walk_at "da")); (case' dop => (walk_at "fun")))
  | ((with_reducible_and_instances refine' cT ?ci ?hm ?hv ?hg ?hc ?dac ?dop); (case' ci => (with_reducible_and_instances assumption)); (case' hm => assumption); (case' hv => infer_instance); (case' hg => decide +kernel); (case' hc => (walk_at "callOk")); (case' dac => (walk_at "da")); (case' dop => (walk_at "fun")))
  | ((with_reducible_and_instances refine' c1 ?ci ?hF ?hj ?hg ?hc ?dac ?side); (case' ci => (with_reducible_and_instances assumption)); (case' hF => assumption); (case' hj => decide); (case' hg => decide +kernel); (case' hc => (walk_at "callOk")); (case' dac => (walk_at "da")))
  | ((with_reducible_and_instances refine' c2 ?ci ?hF ?hj ?hg ?hc ?dac ?side); (case' ci => (with_reducible_and_instances assumption)); (case' hF => assumption); (case' hj => decide); (case' hg => decide +kernel); (case' hc => (walk_at "callOk")); (case' dac => (walk_at "da")))
  | ((with_reducible_and_instances refine' c3 ?ci ?hF ?hj ?hg ?hc ?dac ?side); (case' ci => (with_reducible_and_instances assumption)); (case' hF => assumption); (case' hj => decide); (case' hg => decide +kernel); (case' hc => (walk_at "callOk")); (case' dac => (walk_at "da"))))
local macro_rules | `(tactic| walk_at "dt") => `(tactic| first
  | ((with_reducible_and_instances refine' dt_cmp ?dea ?deb ?dop ?mk); (case' dea => (walk_at "de")); (case' deb => (walk_at "de")); (case' dop => (walk_at "cmp")); (case' mk => first | exact nomark _ | rfl))
  | ((with_reducible_and_instances refine' dt_chain ?dea ?deb ?dop (fun hc => ⟨?dec, ?dop2⟩) ?mk); (case' dea => (walk_at "de")); (case' deb => (walk_at "de")); (case' dop => (walk_at "cmp")); (case' dec => (walk_at "de")); (case' dop2 => (walk_at "cmp")); (case' mk => (with_unfolding_all rfl)))
  | ((with_reducible_and_instances refine' dt_not ?dta); (case' dta => (walk_at "dt")))
  | ((with_reducible_and_instances refine' dt_w ?dwa); (case' dwa => (walk_at "dw")))
  | (refine' dt_val ?dea ?dop (fun _ => rfl); (case' dea => (walk_at "de")); (case' dop => (walk_at "tru"))))
local macro_rules | `(tactic| walk_at "dw") => `(tactic| first
  | ((with_reducible_and_instances refine' dw_and1 ?dta); (case' dta => (walk_at "dt")))
  | ((with_reducible_and_instances refine' dw_or1 ?dta); (case' dta => (walk_at "dt")))
  | ((with_reducible_and_instances refine' dw_orT ?dta); (case' dta => (walk_at "dt")))
  | ((with_reducible_and_instances refine' dw_andF ?dta); (case' dta => (walk_at "dt")))
  | ((with_reducible_and_instances refine' dw_and ?dta (fun hand => ?dwa)); (case' dta => (walk_at "dt")); (case' dwa => (walk_at "dw")))
  | ((with_reducible_and_instances refine' dw_or ?dta (fun hor => ?dwa)); (case' dta => (walk_at "dt")); (case' dwa => (walk_at "dw"))))
local macro_rules | `(tactic| walk_at "de") => `(tactic| first
  | with_reducible_and_instances exact de_int | with_reducible_and_instances exact de_str | with_reducible_and_instances exact de_bl | with_reducible_and_instances exact de_non
  | walk_at "nm"
  | ((with_reducible_and_instances refine' ngi ?ci ?hm ?hg); (case' ci => (with_reducible_and_instances assumption)); (case' hm => assumption); (case' hg => decide +kernel))
  | ((with_reducible_and_instances refine' nty ?ci ?hm ?hv ?hg); (case' ci => (with_reducible_and_instances assumption)); (case' hm => assumption); (case' hv => infer_instance); (case' hg => decide +kernel))
  | ((with_reducible_and_instances refine' de_bin ?dea ?deb ?dop); (case' dea => (walk_at "de")); (case' deb => (walk_at "de")); (case' dop => (walk_at "bin")))
  | ((with_reducible_and_instances refine' de_cmp ?dea ?deb ?dop ?mk); (case' dea => (walk_at "de")); (case' deb => (walk_at "de")); (case' dop => (walk_at "cmp")); (case' mk => first | exact nomark _ | rfl))
  | ((with_reducible_and_instances refine' de_chain ?dea ?deb ?dop (fun hc => ⟨?dec, ?dop2⟩) ?mk); (case' dea => (walk_at "de")); (case' deb => (walk_at "de")); (case' dop => (walk_at "cmp")); (case' dec => (walk_at "de")); (case' dop2 => (walk_at "cmp")); (case' mk => (with_unfolding_all rfl)))
  | walk_at "call"
  | ((with_reducible_and_instances refine' de_tup ?dac ?dop); (case' dac => (walk_at "da")); (case' dop => (walk_at "mkt")))
  | ((with_reducible_and_instances refine' de_lst ?dac ?dop); (case' dac => (walk_at "da")); (case' dop => (walk_at "mkl")))
  | ((with_reducible_and_instances refine' de_un ?dea ?dop); (case' dea => (walk_at "de")); (case' dop => (with_reducible_and_instances exact un_neg_int)))
  | ((with_reducible_and_instances refine' de_cut ?dea ?dol ?doh); (case' dea => (walk_at "de")); (case' dol => (walk_at "do")); (case' doh => (walk_at "do")))
  | ((with_reducible_and_instances refine' gf ?ci ?ho ?hc ?c ?na ?hl ?hb); (case' ci => (with_reducible_and_instances assumption)); (case' ho => (walk_at "de")); (case' hc => exact rfl); (case' c => assumption); (case' na => assumption); (case' hl => exact rfl); (case' hb => exact rfl))
  | ((with_reducible_and_instances refine' dgx ?ci ?ho ?hc ?ha ?hk ?hi ?hg ?hs); (case' ha => (with_reducible_and_instances exact de_str)); (case' ci => (with_reducible_and_instances assumption)); (case' ho => (walk_at "nm")); (case' hc => exact rfl); (case' hk => exact key_str); (case' hi => exact rfl); (case' hg => exact rfl); (case' hs => (walk_at "nosl")))
  | ((with_reducible_and_instances refine' de_ix ?dea ?deb ?dop ?pl); (case' dea => (walk_at "de")); (case' deb => (walk_at "de")); (case' dop => (walk_at "ixd")); (case' pl => (exact fun _ _ => rfl)))
  | ((with_reducible_and_instances refine' de_not1 ?dea); (case' dea => (walk_at "de")))
  | ((with_reducible_and_instances refine' de_and1 ?dea); (case' dea => (walk_at "de")))
  | ((with_reducible_and_instances refine' de_orT ?dea); (case' dea => (walk_at "de")))
  | ((with_reducible_and_instances refine' de_andF ?dea); (case' dea => (walk_at "de")))
  | ((with_reducible_and_instances refine' de_and ?dea (fun hand => ?deb)); (case' dea => (walk_at "de")); (case' deb => (walk_at "de")))
  | ((with_reducible_and_instances refine' de_or ?dea (fun hor => ?deb)); (case' dea => (walk_at "de")); (case' deb => (walk_at "de")))
  | ((with_reducible_and_instances refine' dif ?dtt (fun hk => ?dea) (fun hk => ?deb)); (case' dtt => (walk_at "dt")); (case' dea => (walk_at "de")); (case' deb => (walk_at "de")))
  | walk_at "comp"
  | walk_at "de more")
local macro_rules | `(tactic| walk_at "do") => `(tactic| first | with_reducible_and_instances exact do_none | ((with_reducible_and_instances refine' do_some ?dea); (case' dea => (walk_at "de"))))
local macro_rules | `(tactic| walk_at "dts") => `(tactic| first | with_reducible_and_instances exact dts_nil | ((with_reducible_and_instances refine' dts_one ?dtt); (case' dtt => (walk_at "dt"))))
local macro_rules | `(tactic| walk_at "turn") => `(tactic| (intro x hx; (refine' LcT.mk' ?h ?hp ?hy); (case' h => (intro Y cY; walk_at "tg"; (refine' ⟨rfl, ?ts, ?el⟩); (case' ts => (intro Z cZ; walk_at "dts")); (case' el => (intro hk Z cZ; walk_at "de")))); (case' hp => exact rfl); (case' hy => exact fun _ => rfl)))
local macro_rules | `(tactic| walk_at "comp") => `(tactic| first
  | ((with_reducible_and_instances refine' lc0 ?ci ?ow ?hf ?di ?turn); (case' ci => (with_reducible_and_instances assumption)); (case' ow => (walk_at "own")); (case' hf => (exact fun _ => rfl)); (case' di => (walk_at "di")); (case' turn => (walk_at "turn")))
  | ((with_reducible_and_instances refine' lc ?ci ?ow ?hf ?di ?turn); (case' ci => (with_reducible_and_instances assumption)); (case' ow => (walk_at "own")); (case' hf => (exact fun _ => rfl)); (case' di => (walk_at "di")); (case' turn => (walk_at "turn"))))
local macro_rules | `(tactic| walk_at "di") => `(tactic| first
  | ((with_reducible_and_instances refine' r1 ?ci ?hm ?hg ?hs ?dac ?side); (case' ci => (with_reducible_and_instances assumption)); (case' hm => assumption); (case' hg => decide +kernel); (case' hs => rfl); (case' dac => (walk_at "da")))
  | ((with_reducible_and_instances refine' r2 ?ci ?hm ?hg ?hs ?hs2 ?dac ?side); (case' ci => (with_reducible_and_instances assumption)); (case' hm => assumption); (case' hg => decide +kernel); (case' hs => rfl); (case' hs2 => rfl); (case' dac => (walk_at "da")))
  | ((with_reducible_and_instances refine' dil ?dea); (case' dea => (walk_at "de")))
  | ((with_reducible_and_instances refine' ditp ?dea); (case' dea => (walk_at "de"))))
local macro_rules | `(tactic| walk_at "tg") => `(tactic| first
  | ((with_reducible_and_instances refine' nmg ?ci ?ix ?hi ?vi ?q); (case' ci => (with_reducible_and_instances assumption)); (case' ix => exact rfl); (case' hi => exact rfl); (case' vi => decide +kernel))
  | ((with_reducible_and_instances refine' nmgC ?ci ?hf ?ix ?hi ?vi ?q); (case' ci => (with_reducible assumption)); (case' hf => (with_reducible assumption)); (case' ix => exact rfl); (case' hi => exact rfl); (case' vi => decide +kernel))
  | ((with_reducible_and_instances refine' wgt ?ci ?un ?hn ?q ?hi); (case' ci => (with_reducible_and_instances assumption)); (case' un => first | with_reducible_and_instances exact unT_2 | with_reducible_and_instances exact unT_3); (case' hn => (exact ⟨rfl, rfl⟩)); (case' q => (walk_at "tgs")); (case' hi => exact rfl)))
local macro_rules | `(tactic| walk_at "tgs") => `(tactic| first
  | with_reducible_and_instances refine' wgs_nil ?q
  | ((with_reducible_and_instances refine' wgs_cons ?q ?hs); (case' hs => rfl); (case' q => (walk_at "tg")); walk_at "tgs"))
local macro_rules | `(tactic| walk_at "we") => `(tactic| ((with_reducible_and_instances refine' WE.de ?dpure ?_); (case' dpure => (walk_at "de"))))
local macro_rules | `(tactic| walk_at "wt") => `(tactic| ((with_reducible_and_instances refine' WT.dt ?dpure ?_); (case' dpure => (walk_at "dt"))))
local macro_rules | `(tactic| walk_at "if") => `(tactic| ((with_reducible_and_instances refine' w1_ifD ?dpure ?_ ?_); (case' dpure => (walk_at "dt"))))
local macro_rules | `(tactic| walk_at "set") => `(tactic| ((with_reducible_and_instances refine' nms ?ci ?hf ?ix ?vi ?sw ?_); (case' ci => (with_reducible_and_instances assumption)); (case' hf => (with_reducible_and_instances assumption)); (case' ix => exact rfl); (case' vi => decide +kernel); (case' sw => rfl)))
local macro_rules | `(tactic| walk_at "setLc") => `(tactic| first
  | ((with_reducible_and_instances refine' nlc0 ?ci ?ix ?vi ?ow ?hf ?sw ?di ?turn ?_); (case' ci => (with_reducible_and_instances assumption)); (case' ix => exact rfl); (case' vi => decide +kernel); (case' ow => (walk_at "own")); (case' hf => (exact fun _ => rfl)); (case' sw => (walk_at "swp")); (case' di => (walk_at "di")); (case' turn => (walk_at "turn")))
  | ((with_reducible_and_instances refine' nlc ?ci ?ix ?vi ?ow ?hf ?sw ?di ?turn ?_); (case' ci => (with_reducible_and_instances assumption)); (case' ix => exact rfl); (case' vi => decide +kernel); (case' ow => (walk_at "own")); (case' hf => (exact fun _ => rfl)); (case' sw => (walk_at "swp")); (case' di => (walk_at "di")); (case' turn => (walk_at "turn"))))
local macro_rules | `(tactic| walk_at "sf") => `(tactic| first
  | ((with_reducible_and_instances refine' sfD ?ci ?ho ?hc ?c ?na ?hs ?hl ?de1 ?_); (case' ci => (with_reducible_and_instances assumption)); (case' ho => (walk_at "nm")); (case' hc => exact rfl); (case' c => assumption); (case' na => assumption); (case' hs => exact rfl); (case' hl => (exact Nat.le_of_ble_eq_true rfl)); (case' de1 => (walk_at "de")))
  | ((with_reducible_and_instances refine' afD ?ci ?ho ?hc ?c ?na ?hl ?hl2 ?de1 ?au ?_); (case' ci => (with_reducible_and_instances assumption)); (case' ho => (walk_at "nm")); (case' hc => exact rfl); (case' c => assumption); (case' na => assumption); (case' hl => exact rfl); (case' hl2 => (exact Nat.le_of_ble_eq_true rfl)); (case' de1 => (walk_at "de")); (case' au => first | with_reducible_and_instances exact a_add | with_reducible_and_instances exact a_sub)))
local macro_rules | `(tactic| walk_at "sd") => `(tactic| ((with_reducible_and_instances refine' sdx ?ci ?ho ?hc ?ha ?hk ?hs ?hl ?hi ?hn ?de1 ?_); (case' ha => (with_reducible exact de_str)); (case' ci => (with_reducible assumption)); (case' ho => (walk_at "nm")); (case' hc => exact rfl); (case' hk => exact key_str); (case' hs => exact rfl); (case' hl => (exact Nat.le_of_ble_eq_true rfl)); (case' hi => exact rfl); (case' hn => exact rfl); (case' de1 => (walk_at "de"))))
local macro_rules | `(tactic| walk_at "nosl") => `(tactic| first | exact fun _ _ => rfl)
local macro_rules | `(tactic| walk_at "w1") => `(tactic| first
  | with_reducible_and_instances refine' w1_ret ?_ | walk_at "sf" | walk_at "sd" | walk_at "set" | walk_at "setLc" | with_reducible_and_instances refine' w1_expr ?_ rfl | with_reducible_and_instances refine' w1_retN ?_ | with_reducible_and_instances refine' w1_pass ?_ | with_reducible_and_instances refine' w1_break ?_ | with_reducible_and_instances refine' w1_cont ?_)
local macro_rules | `(tactic| walk_at "ws") => `(tactic| first | refine' ws_nil ?_ | (refine' ws_cons ?_; first | walk_at "w1" | skip))
local macro_rules | `(tactic| walk_at "swp") => `(tactic| ((with_reducible_and_instances refine' swp ?ci ?hh); (case' ci => (with_reducible assumption)); (case' hh => decide +kernel)))
local macro_rules | `(tactic| walk_at "lok") => `(tactic| first | assumption | skip)
local macro_rules | `(tactic| walk_at "dbd") => `(tactic| first | exact ⟨by decide, by decide⟩ | exact ⟨by omega, by omega⟩ | (refine ⟨?_, ?_⟩ <;> split <;> omega) | skip)
local macro_rules | `(tactic| walk_at "wa") => `(tactic| first
  | with_reducible_and_instances refine' wa_nil ?_
  | ((with_reducible_and_instances refine' wa_cons ?_ ?hs); (case' hs => exact rfl); walk_at "wx"; walk_at "wa"))
local macro_rules | `(tactic| walk_at "wx") => `(tactic| first
  | ((with_reducible_and_instances refine' drw ?ci ?hF ?hj ?hg ?hc ?hc2 ?ho ?hb); (case' ci => (with_reducible assumption)); (case' hF => assumption); (case' hj => decide); (case' hg => decide +kernel); (case' hc => (walk_at "callOk")); (case' hc2 => exact rfl); (case' ho => (walk_at "nm")); (case' hb => (walk_at "wx"; (refine' ⟨_, _, _, rfl, rfl, ?lok, ?dbd, ?_⟩); (case' lok => (walk_at "lok")); (case' dbd => (walk_at "dbd")); rotate_right; intro r t' h1 h2 h3)))
  | ((with_reducible_and_instances refine' pck ?ci ?hF ?hj ?hg ?hc ?hc2 ?ho ?hb); (case' ci => (with_reducible assumption)); (case' hF => assumption); (case' hj => decide); (case' hg => decide +kernel); (case' hc => (walk_at "callOk")); (case' hc2 => exact rfl); (case' ho => (walk_at "nm")); (case' hb => (walk_at "wx"; (refine' ⟨_, _, _, _, _, rfl, rfl, ?lok, ?ne, ?len, ?_⟩); (case' lok => (walk_at "lok")); (case' ne => (first | exact List.cons_ne_nil _ _ | skip)); (case' len => (first | exact Nat.le_of_ble_eq_true rfl | skip)); rotate_right; intro x hx t' h3)))
  | walk_at "we"
  | ((with_reducible_and_instances refine' we_bin ?_); walk_at "wx"; walk_at "wx"; (refine' ⟨_, ?op, ?_⟩); (case' op => (walk_at "bin")))
  | ((with_reducible_and_instances refine' we_cmp ?_ ?mk); (case' mk => first | exact nomark _ | rfl); walk_at "wx"; walk_at "wx"; (refine' ⟨_, ?op, ?_⟩); (case' op => (walk_at "cmp")))
  | ((with_reducible_and_instances refine' we_lst ?_); walk_at "wa"; (refine' ⟨_, ?op, ?_⟩); (case' op => (walk_at "mkl")))
  | ((with_reducible_and_instances refine' we_tup ?_); walk_at "wa"; (refine' ⟨_, ?op, ?_⟩); (case' op => (walk_at "mkt"))))
local macro_rules | `(tactic| walk_at "app") => `(tactic| ((with_reducible_and_instances refine' apD ?ho ?hc ?h ?hl ?h1 ?h2 ?h3 ?h4 ?h5 ?_); (case' ho => (walk_at "nm")); (case' hc => exact rfl); (case' h => (walk_at "de")); (case' h1 => exact rfl); (case' h2 => exact rfl); (case' h3 => exact rfl); (case' h4 => exact rfl); (case' h5 => exact rfl)))
section
variable {P : Program} {w : World} {K : Fg} {mg : PySem.Str → Option Value} {base : Heap} {f : Addr} {fd : FuncData}
theorem closed_clk {C : Addr} {r lo hi : Int} : Closed K (clk C r lo hi) := closed_ins (by
  intro z hz
  simp only [List.mem_cons, List.not_mem_nil, or_false] at hz
  rcases hz with rfl | rfl | rfl <;> exact ⟨_, _, _, rfl⟩)
theorem dat1 {α : Type} {i : Enc α} {a : α} : ∀ s ∈ [Slot.d α i a], ∃ α i a, s = .d α i a := fun s hs => by
  rw [List.mem_singleton.mp hs]; exact ⟨_, _, _, rfl⟩
theorem dat2 {α β : Type} {i : Enc α} {i' : Enc β} {a : α} {b : β} : ∀ s ∈ [Slot.d α i a, Slot.d β i' b], ∃ α i a, s = .d α i a := fun s hs => by
  rcases List.mem_cons.mp hs with rfl | hs
  · exact ⟨_, _, _, rfl⟩
  · exact dat1 s hs
theorem dat3 {α β γ : Type} {i : Enc α} {i' : Enc β} {i2 : Enc γ} {a : α} {b : β} {c : γ} : ∀ s ∈ [Slot.d α i a, Slot.d β i' b, Slot.d γ i2 c], ∃ α i a, s = .d α i a := fun s hs => by
  rcases List.mem_cons.mp hs with rfl | hs
  · exact ⟨_, _, _, rfl⟩
  · exact dat2 s hs
theorem orC {ss : List Slot} (h : ∀ s ∈ ss, ∃ α i a, s = Slot.d α i a) : ∀ s ∈ ss, s = .c 0 ∨ ∃ α i a, s = Slot.d α i a := fun s hs => .inr (h s hs)
structure Facts (P : Program) (w : World) (K : Fg) (mg : PySem.Str → Option Value) (base : Heap) (C : Addr) : Prop where
  cls : Cls K C
  start : FnR P w K mg base 1 "_law_start" p_law_start swStart
  draw : FnR P w K mg base 1 "_law_draw" p_law_draw swDraw
  pick : FnR P w K mg base 2 "_law_pick" p_law_pick swPick
  lis : FnR P w K mg base 1 "_law_is" p_law_is (sp2 (fun _ _ => True) lawIs)
  agr : FnR P w K mg base 1 "_law_agreement" p_law_agreement (sp2 (fun (xs : List (Int × Int)) (_ : Int) => xs ≠ [] ∧ lawHi xs + 1 - lawLo xs ≤ 100000 ∧ -(2 ^ 60) ≤ lawLo xs ∧ lawLo xs < 2 ^ 60 ∧ -(2 ^ 60) ≤ lawHi xs) lawAgr)
  src : FnR P w K mg base 2 "_law_source" p_law_source swSource
  agreement : FnR P w K mg base 2 "agreement" p_agreement (sp2 (fun xs _ => xs.length ≤ 1000) agreeM)
  mak : MkR P w K mg base 1 "KeptClock" C p_KeptClock_init (swInit C)
  known : MeR P w K mg base 1 C "known" p_KeptClock_known (swKnown C)
  count : MeR P w K mg base 2 C "count" p_KeptClock_count (swCount C)
  hear : MeR P w K mg base 3 C "hear" p_KeptClock_hear (swHear C)
  m_range : mg "range" = none
  m_list : mg "list" = none
  m_max : mg "max" = none
  m_min : mg "min" = none
theorem srcw {X : Cx} {N : List PySem.Str} {sc : Scope} {j : Nat} {env : List Slot} {o a b : Expr} {p pos : Pos'} {rest : List Cell} {t : LSt} {time : Int} {bb : Bool} {Φ : Want} (ci : CxI P w K mg base N sc j X) (F : FnR P w K mg base 2 "_law_source" p_law_source swSource) (hj : 2 ≤ j) (hg : gloB sc "_law_source" = true) (hc : CallOk X o [a, b] pos) (hc2 : starEach [a, b] X.env = (false, eval a X.env) :: starEach [b] X.env) (hc3 : starEach [b] X.env = [(false, eval b X.env)])
    (ho : DE X env (stC t :: rest) o (.c 0)) (ha : DE X env (stC t :: rest) a (.of time)) (hb : DE X env (stC t :: rest) b (.of bb)) (ok : LOk t) (q : ∀ (lo hi : Int) t', LOk t' → lo ≤ hi → time - 40 ≤ lo → hi ≤ time + 60 → (bb = true → lo ≤ time ∧ time ≤ hi) → Φ (.of (lo, hi)) (stC t' :: rest)) :
    WE X env (stC t :: rest) (.Call (.Name "_law_source" p) [o, a, b] [] pos) Φ := by
  refine cfn1 ci F hj hg hc (wa_cons (ho _ (wa_cons (ha _ (wa_cons (hb _ (wa_nil ⟨0, stC t, [.c 0, .of time, .of bb], rfl, closed_st, rfl, fun s hs => ?_, t, time, bb, rfl, rfl, ok, fun lo hi t' h1 h2 h3 h4 h5 => ⟨_, rfl, closed_st, ⟨_, _, _, rfl⟩, q lo hi t' h1 h2 h3 h4 h5⟩⟩)) hc3)) hc2)) hc.1)
  rcases List.mem_cons.mp hs with rfl | hs
  · exact .inl rfl
  · exact .inr (dat2 s hs)
theorem frz_ne {n k : Nat} {y : Slot} (h : k ≠ n) : frz n y (.c k) = .c k := if_neg h
theorem frz_eq {n : Nat} {y : Slot} : frz n y (.c n) = y := if_pos rfl
theorem ratioUp_eq (n : Int) : ratioUp n 1000000 = (n + 999999) / 1000000 := by unfold ratioUp; omega
theorem get3 {α : Type _} {a b c d : α} {l : List α} : (a :: b :: c :: (l ++ [d]))[l.length + 3]? = some d := by simp
theorem set3 {α : Type _} {a b c d e : α} {l : List α} : (a :: b :: c :: (l ++ [d])).set (l.length + 3) e = a :: b :: c :: (l ++ [e]) := by simp
def swLaw : SpecW := fun env cs Φ => ∃ xs : List Int, env = [.of xs] ∧ cs = [] ∧ xs.length ≤ 63 ∧ Φ (.of true) []
/-- before a step -/
def Inv1 (C : Addr) (script : List Int) (rate : Int) (hon : Bool) (i : Nat) : WantE := fun env' cs' =>
  ∃ (t : LSt) (time lo hi : Int) (s8 s9 s10 s11 s12 s13 s14 s15 s16 s17 s18 : Slot) (lo2 hi2 : Int) (rest : List Cell),
    env' = [.of script, .c 0, .of time, .of rate, .of [lo, hi], .c 1, .c 2, .of hon, s8, s9, s10, s11, s12, s13, s14, s15, s16, s17, s18] ∧ cs' = stC t :: clk C rate lo hi :: clk C 5 lo2 hi2 :: rest ∧ LOk t ∧ -(1000 + 5000000 * (i : Int)) ≤ time ∧ time ≤ 1000 + 5000000 * (i : Int) ∧ (hon = true → lo ≤ time ∧ time ≤ hi)
theorem ok_law {C : Addr} (F : F_law K f fd) (T : Facts P w K mg base C) : FnOk P w K mg base CX0 4 f fd p_law (FSp K swLaw) := by
  refine fn_okD F sc_law ?_ fun X ci hf env cs Φ hsw => ?_
  · rintro env cs Φ ⟨x, rfl, _⟩; exact ⟨rfl, (by decide : 1 ≤ 19)⟩
  · obtain ⟨script, rfl, rfl, hp, hk⟩ := hsw
    obtain ⟨cls, f_start, f_draw, f_pick, f_is, f_agr, f_src, f_agreement, f_mk, f_known, f_count, f_hear, m_range, m_list, m_max, m_min⟩ := T
    walk_at "ws"
    refine' cfnN ci f_start (by decide) (by decide +kernel) ⟨rfl, rfl⟩ (WA.da ?da1 ⟨dat1, script, rfl, rfl, hp, fun t ok => ⟨_, rfl, rfl, nofun, closed_st.2, ?_⟩⟩)
    case' da1 => walk_at "da"
    walk_at "ws"
    walk_at "wx"
    rename_i r0 t0 hr0 hr0' ok0
    walk_at "ws"
    walk_at "wx"
    rename_i r1 t1 hr1 hr1' ok1 r2 t2 hr2 hr2' ok2 rate hrate t3 ok3
    have hr : 0 ≤ rate ∧ rate ≤ 1000000 := by
      simp only [List.mem_cons, List.not_mem_nil, or_false] at hrate
      omega
    clear hrate
    walk_at "ws"
    walk_at "wx"
    rename_i r4 t4 hr4 hr4' ok4 r5 t5 hr5 hr5' ok5
    walk_at "ws"
    refine' cmk ci f_mk (by decide) (by decide +kernel) ⟨rfl, rfl⟩ (WA.da ?da2 ⟨dat3, _, _, _, rfl, rfl, _, rfl, closed_clk, ⟨_, _, _, rfl⟩, rfl, ?_⟩)
    case' da2 => walk_at "da"
    walk_at "ws"
    refine' cmk ci f_mk (by decide) (by decide +kernel) ⟨rfl, rfl⟩ (WA.da ?da3 ⟨dat3, _, _, _, rfl, rfl, _, rfl, closed_clk, ⟨_, _, _, rfl⟩, rfl, ?_⟩)
    case' da3 => walk_at "da"
    show WS X _ [.of script, .c 0, .of (r0 - 1000), .of rate, .of [r0 - 1000 - r4, r0 - 1000 + r5], .c 1, .c 2, .no, .no, .no, .no, .no, .no, .no, .no, .no, .no, .no, .no] _ _
    show WS X _ _ [stC t5, clk C rate (r0 - 1000 - r4) (r0 - 1000 + r5), clk C 5 (-9) 9] _
    refine' ws_cons ?_
    refine' w1_expr ?_ rfl
    refine' cmeD (n := 2) ci cls f_count (by decide) ?ho1 rfl rfl ⟨rfl, rfl⟩ ⟨_, rfl⟩ closed_clk ?da4 dat1 ⟨_, _, _, _, rfl, rfl, ?cm4, _, rfl, closed_clk, ⟨_, _, _, rfl⟩, ?_⟩
    case' ho1 => walk_at "nm"
    case' da4 => walk_at "da"
    case' cm4 => exact .inl ⟨by decide, by decide⟩
    walk_at "ws"
    walk_at "wx"
    rename_i r6 t6 hr6 hr6' ok6
    generalize decide (r6 = 0) = hon
    refine' ws_cons ?_
    refine' wfor (is := [8]) ci (fun _ => rfl) (wr1 ci m_range (by decide +kernel) rfl ?_)
    walk_at "wx"
    rename_i r7 t7 hr7 hr7' ok7
    refine' ⟨_, rfl, by omega, by omega, Inv1 C script rate hon, ?i0, ?turn, ?fin⟩
    case' fin =>
      rintro env' cs' ⟨t, time, lo, hi, s8, s9, s10, s11, s12, s13, s14, s15, s16, s17, s18, lo2, hi2, rest, rfl, rfl, ok, htl, hth, hh⟩
      walk_at "ws"
      walk_at "we"
      exact drop0 hk
    case' i0 =>
      refine ⟨t7, r0 - 1000, r0 - 1000 - r4, r0 - 1000 + r5, _, _, _, _, _, _, _, _, _, _, _, _, _, _, rfl, rfl, ok7, ?_, ?_, ?_⟩
      · omega
      · omega
      · intro _; omega
    case' turn =>
      rintro i env' cs' s hs ⟨t, time, lo, hi, s8, s9, s10, s11, s12, s13, s14, s15, s16, s17, s18, lo2, hi2, rest, rfl, rfl, ok, htl, hth, hh⟩
      obtain ⟨hi0, rfl⟩ := rng_slot hs
      have hi13 : i ≤ 13 := by omega
      walk_at "tg"
      refine' ws_cut (Inv1 C script rate hon (i + 1)) ?_ ?_
      · refine' w1_if (wt_cmp ?_ rfl)
        walk_at "wx"
        walk_at "we"
        refine' ⟨_, ?opb, ?_⟩
        case' opb => walk_at "cmp"
        split
        · walk_at "ws"
          refine' WE.imp (Φ := fun s cs' => ∃ (d : Int) (t : LSt), s = .of d ∧ cs' = stC t :: clk C rate lo hi :: clk C 5 lo2 hi2 :: rest ∧ LOk t ∧ 0 ≤ d ∧ d ≤ 2000002) ?_ ?_
          · refine' we_if (WT.dt ?tt ?_)
            case' tt => walk_at "dt"
            split
            · walk_at "wx"
              · rename_i x hx _ _ _ _ _ _ _
                simp only [List.mem_cons, List.not_mem_nil, or_false] at hx
                exact ⟨_, _, rfl, rfl, by assumption, by omega, by omega⟩
              · rename_i x hx _ _
                simp only [List.mem_cons, List.not_mem_nil, or_false] at hx
                exact ⟨by omega, by omega⟩
            · walk_at "wx"
              exact ⟨_, _, rfl, rfl, by assumption, by omega, by omega⟩
          · rintro s cs' ⟨d, t1, rfl, rfl, ok1, hd1, hd2⟩
            have hdr1 : 0 ≤ d * rate := Int.mul_nonneg hd1 hr.1
            have hdr2 : d * rate ≤ d * 1000000 := Int.mul_le_mul_of_nonneg_left hr.2 hd1
            walk_at "ws"
            walk_at "we"
            · exact ⟨by decide, by decide⟩
            · exact .inl ⟨by omega, by omega⟩
            walk_at "ws"
            refine' cmeD (n := 1) ci cls f_count (by decide) ?ho5 rfl rfl ⟨rfl, rfl⟩ ⟨_, rfl⟩ closed_clk ?da5 dat1 ⟨_, _, _, _, rfl, rfl, ?cm5, _, rfl, closed_clk, ⟨_, _, _, rfl⟩, ?_⟩
            case' ho5 => walk_at "nm"
            case' da5 => walk_at "da"
            case' cm5 => exact .inl ⟨by omega, by omega⟩
            rw [ratioUp_eq]
            have hb1 : 0 ≤ (d * rate + 999999) / 1000000 := by omega
            have hb2 : (d * rate + 999999) / 1000000 ≤ d := by omega
            generalize (d * rate + 999999) / 1000000 = db at hb1 hb2 ⊢
            walk_at "ws"
            walk_at "wx"
            rename_i r8 t8 hr8 hr8' ok8
            walk_at "ws"
            walk_at "we"
            walk_at "ws"
            refine ⟨t8, time + d - db + r8, lo + d - db, hi + d + db, _, _, _, _, _, _, _, _, _, _, _, lo2, hi2, rest, rfl, ?_, ok8, by omega, by omega, fun h => ?_⟩
            · show stC t8 :: clk C rate (lo + (d - db)) (hi + (d + db)) :: _ = _
              rw [show lo + (d - db) = lo + d - db by omega, show hi + (d + db) = hi + d + db by omega]
            · have := hh h; omega
        · walk_at "ws"
          walk_at "wx"
          rename_i r9 t9 hr9 hr9' ok9
          generalize hmany : 1 + r9 = many
          walk_at "ws"
          walk_at "wx"
          rename_i fv t10 hr10 hr10' ok10
          walk_at "ws"
          refine' WE.imp (Φ := fun s cs' => ∃ (wr : Int) (t : LSt), s = .of wr ∧ cs' = stC t :: clk C rate lo hi :: clk C 5 lo2 hi2 :: rest ∧ LOk t ∧ 0 ≤ wr ∧ (hon = true → wr ≤ fv)) ?_ ?_
          · refine' we_if (WT.dt ?tt2 ?_)
            case' tt2 => walk_at "dt"
            split
            · rename_i hhon
              walk_at "wx"
              exact ⟨_, _, rfl, rfl, by assumption, by omega, fun _ => by omega⟩
            · rename_i hhon
              walk_at "wx"
              exact ⟨_, _, rfl, rfl, by assumption, by omega, fun h => absurd h hhon⟩
          · rintro s cs' ⟨wr, t11, rfl, rfl, ok11, hwr, hwr'⟩
            walk_at "ws"
            refine' we_nil (Int × Int) ?_
            refine' ws_cut (fun env' cs' => ∃ (t : LSt) (xs : List (Int × Int)) (s15 : Slot), env' = [.of script, .c 0, .of time, .of rate, .of [lo, hi], .c 1, .c 2, .of hon, .of (0 + (i : Int)), s9, s10, .of many, .of fv, .of wr, .c (rest.length + 3), s15, s16, s17, s18] ∧ cs' = stC t :: clk C rate lo hi :: clk C 5 lo2 hi2 :: (rest ++ [.tl (Int × Int) inferInstance xs]) ∧ LOk t ∧ (xs.length : Int) = many ∧ (∀ p ∈ xs, time - 40 ≤ p.1 ∧ p.1 ≤ p.2 ∧ p.2 ≤ time + 60) ∧ many - wr ≤ (xs.countP (hol time) : Nat)) ?_ ?_
            · refine' wfor (is := [15]) ci (fun _ => rfl) (WI.di ?di2 ⟨fun k env' cs' => ∃ (t : LSt) (xs : List (Int × Int)) (s15 : Slot), env' = [.of script, .c 0, .of time, .of rate, .of [lo, hi], .c 1, .c 2, .of hon, .of (0 + (i : Int)), s9, s10, .of many, .of fv, .of wr, .c (rest.length + 3), s15, s16, s17, s18] ∧ cs' = stC t :: clk C rate lo hi :: clk C 5 lo2 hi2 :: (rest ++ [.tl (Int × Int) inferInstance xs]) ∧ LOk t ∧ xs.length = k ∧ (∀ p ∈ xs, time - 40 ≤ p.1 ∧ p.1 ≤ p.2 ∧ p.2 ≤ time + 60) ∧ (k : Int) - wr ≤ (xs.countP (hol time) : Nat), ?i02, ?turn2, ?fin2⟩)
              case' di2 => walk_at "di"
              case' i02 => exact ⟨t11, [], _, rfl, rfl, ok11, rfl, nofun, by simp only [List.countP_nil]; omega⟩
              case' fin2 =>
                rintro env' cs' ⟨t, xs, s15, rfl, rfl, h1, h2, h3, h4⟩
                rw [List.length_map, rng_len] at h2 h4
                exact ⟨t, xs, s15, rfl, rfl, h1, by omega, h3, by omega⟩
              case' turn2 =>
                rintro k env' cs' s hs ⟨t, xs, s15, rfl, rfl, h1, h2, h3, h4⟩
                obtain ⟨hk0, rfl⟩ := rng_slot hs
                walk_at "tg"
                walk_at "ws"
                refine' we_insert (rest.length + 3) (α := Int × Int) (xs0 := xs) get3 ?ho7 ?wa7 rfl rfl rfl rfl rfl
                case' ho7 => walk_at "nm"
                case' wa7 =>
                  refine' wa_cons ?_ rfl
                  walk_at "wx"
                  rename_i z tz hz hz' okz
                  refine' wa_cons (srcw (time := time) (bb := decide (wr ≤ 0 + (k : Int))) ci f_src (by decide) (by decide +kernel) ⟨rfl, rfl⟩ rfl rfl ?ho8 ?ha8 ?hb8 okz (fun a b t' o1 o2 o3 o4 o5 => wa_nil ⟨xs, (a, b), z, get3, rfl, ?_, hz, by omega, ?_⟩)) rfl
                  case' ho8 => walk_at "nm"
                  case' ha8 => walk_at "de"
                  case' hb8 => walk_at "de"
                  · exact Nat.lt_trans (by omega : xs.length < 1000) (by decide)
                  rw [set3]
                  walk_at "ws"
                  refine ⟨t', xs.take z.toNat ++ [(a, b)] ++ xs.drop z.toNat, _, rfl, rfl, o1, ?_, ?_, ?_⟩
                  · simp only [List.length_append, List.length_take, List.length_drop, List.length_cons, List.length_nil]; omega
                  · intro p hp
                    rw [List.append_assoc, List.mem_append, List.mem_append] at hp
                    rcases hp with hp | hp | hp
                    · exact h3 p (List.mem_of_mem_take hp)
                    · rw [List.mem_singleton.mp hp]; exact ⟨o3, o2, o4⟩
                    · exact h3 p (List.mem_of_mem_drop hp)
                  · have hcp : (xs.take z.toNat).countP (hol time) + (xs.drop z.toNat).countP (hol time) = xs.countP (hol time) := by rw [← List.countP_append, List.take_append_drop]
                    rw [List.countP_append, List.countP_append, List.countP_singleton]
                    by_cases hw : wr ≤ 0 + (k : Int)
                    · have hh : hol time (a, b) = true := hol_iff.mpr (o5 (decide_eq_true hw))
                      rw [if_pos hh]; omega
                    · split <;> omega
              · exact ⟨by omega, by omega⟩
            · rintro env' cs' ⟨t, xs, s15, rfl, rfl, ok12, hx1, hx2, hx3⟩
              have hne : xs ≠ [] := by
                intro z; rw [z] at hx1; simp at hx1; omega
              obtain ⟨p0, hp0⟩ := List.exists_mem_of_ne_nil xs hne
              have l1 : time - 40 ≤ lawLo xs := by
                obtain ⟨q, hq, e⟩ := List.mem_map.mp (minL_spec (l := xs.map (·.1)) (by simpa using hne)).1
                have := hx2 q hq
                show time - 40 ≤ minL (xs.map (·.1))
                omega
              have l2 : lawHi xs ≤ time + 60 := by
                obtain ⟨q, hq, e⟩ := List.mem_map.mp (maxL_spec (l := xs.map (·.2)) (by simpa using hne)).1
                have := hx2 q hq
                show maxL (xs.map (·.2)) ≤ time + 60
                omega
              have l3 : lawLo xs ≤ lawHi xs := by
                have := lawLo_le hp0; have := le_lawHi hp0; have := hx2 p0 hp0; omega
              have hgood : hon = true → isGood xs fv time = true := fun h => by
                rw [if_pos h] at hr10'
                have := hwr' h
                exact good_of_count (by omega) (by omega)
              refine' wfz (rest.length + 3) get3 [.of script, .c 0, .of time, .of rate, .of [lo, hi], .c 1, .c 2, .of hon, .of (0 + (i : Int)), frz (rest.length + 3) (.of xs) s9, frz (rest.length + 3) (.of xs) s10, .of many, .of fv, .of wr, .of xs, frz (rest.length + 3) (.of xs) s15, frz (rest.length + 3) (.of xs) s16, frz (rest.length + 3) (.of xs) s17, frz (rest.length + 3) (.of xs) s18] ?_ ?_
              · simp only [List.map_cons, List.map_nil]
                rw [frz_ne (by omega : 0 ≠ rest.length + 3), frz_ne (by omega : 1 ≠ rest.length + 3), frz_ne (by omega : 2 ≠ rest.length + 3), frz_eq]
                rfl
              rw [set3]
              walk_at "ws"
              walk_at "we"
              · exact ⟨hne, by omega, by omega, by omega, by omega⟩
              walk_at "ws"
              walk_at "we"
              walk_at "ws"
              walk_at "if"
              · show xs.length ≤ 1000
                omega
              · intro h
                rw [agree_eq] at h
                simp at h
              intro _
              walk_at "ws"
              generalize hag : lawAgr xs fv = due
              cases due with
              | none =>
                have hhon : hon = false := by
                  cases hon with
                  | false => rfl
                  | true =>
                    obtain ⟨a, b, e, _⟩ := agr_holds (hgood rfl)
                    rw [hag] at e; cases e
                subst hhon
                refine' ws_le 16 rfl nofun le_unit ?_
                walk_at "ws"
                walk_at "if"
                · intro h; cases h
                intro _
                walk_at "ws"
                walk_at "ws"
                walk_at "we"
                walk_at "ws"
                walk_at "if"
                · intro h; cases h
                intro _
                walk_at "ws"
                refine' ws_cons ?_
                refine' w1_if (wt_w (ww_or (wt_not (wt_val (cfn ci f_is (by decide) (by decide +kernel) ⟨rfl, rfl⟩ (wa_cons (cmeD (n := 1) ci cls f_hear (by decide) ?ho9 rfl rfl ⟨rfl, rfl⟩ ⟨_, rfl⟩ closed_clk ?da9 dat2 ⟨_, _, _, xs, fv, rfl, rfl, (by omega), _, rfl, closed_clk, ⟨_, _, _, rfl⟩, wa_cons (WE.de ?de9 (wa_nil ⟨dat2, _, _, rfl, rfl, trivial, rfl, ⟨_, _, _, rfl⟩, _, t_bl, ?_⟩)) rfl⟩) rfl)) (fun _ => rfl)))))
                case' ho9 => walk_at "nm"
                case' da9 => walk_at "da"
                case' de9 => walk_at "nm"
                rw [agree_eq, hag, show hearM lo hi none = (false, lo, hi) from rfl]
                rw [if_neg (show ¬((!lawIs false false) = true) by decide)]
                refine' ww_or1 (WT.dt ?dt9 ?_)
                case' dt9 => walk_at "dt"
                rw [if_neg (by simp)]
                walk_at "ws"
                walk_at "ws"
                exact ⟨t, time, lo, hi, _, _, _, _, _, _, _, _, _, _, _, lo2, hi2, rest ++ [.dead], rfl, rfl, ok12, by omega, by omega, nofun⟩
              | some pr =>
                obtain ⟨a, b⟩ := pr
                have hab : hon = true → a ≤ time ∧ time ≤ b := fun h => by
                  obtain ⟨a', b', e, h1, h2⟩ := agr_holds (hgood h)
                  rw [hag] at e
                  cases e
                  exact ⟨h1, h2⟩
                refine' ws_le 16 rfl nofun le_get ?_
                walk_at "ws"
                walk_at "if"
                · intro h
                  exfalso
                  cases hon with
                  | false => cases h
                  | true =>
                    have := hab rfl
                    simp [this.1, this.2] at h
                intro _
                walk_at "ws"
                walk_at "ws"
                by_cases hm : a ≤ hi ∧ lo ≤ b
                · have e2 : hearM lo hi (agreeM xs fv) = (true, max lo a, min hi b) := by
                    rw [agree_eq, hag]
                    show (if a > hi ∨ b < lo then _ else _) = _
                    rw [if_neg (by omega)]
                  refine' WE.de (DE.conv (y := .of true) ?x9 ?e9) ?_
                  case' x9 => walk_at "de"
                  case' e9 => simp [hm.1, hm.2]
                  walk_at "ws"
                  walk_at "if"
                  · intro _
                    walk_at "ws"
                    walk_at "we"
                    walk_at "ws"
                    refine' ws_cons ?_
                    refine' w1_if (wt_w (ww_or (wt_not (wt_val (cfn ci f_is (by decide) (by decide +kernel) ⟨rfl, rfl⟩ (wa_cons (cmeD (n := 1) ci cls f_hear (by decide) ?ho21 rfl rfl ⟨rfl, rfl⟩ ⟨_, rfl⟩ closed_clk ?da21 dat2 ⟨_, _, _, xs, fv, rfl, rfl, (by omega), _, rfl, closed_clk, ⟨_, _, _, rfl⟩, wa_cons (WE.de ?de21 (wa_nil ⟨dat2, _, _, rfl, rfl, trivial, rfl, ⟨_, _, _, rfl⟩, _, t_bl, ?_⟩)) rfl⟩) rfl)) (fun _ => rfl)))))
                    case' ho21 => walk_at "nm"
                    case' da21 => walk_at "da"
                    case' de21 => walk_at "nm"
                    rw [e2]
                    rw [if_neg (show ¬((!lawIs true true) = true) by decide)]
                    refine' ww_or1 (WT.dt ?dt21 ?_)
                    case' dt21 => walk_at "dt"
                    rw [if_neg (by simp)]
                    walk_at "ws"
                    walk_at "ws"
                    exact ⟨t, time, max lo a, min hi b, _, _, _, _, _, _, _, _, _, _, _, lo2, hi2, rest ++ [.dead], rfl, rfl, ok12, by omega, by omega, fun h => by have := hab h; have := hh h; omega⟩
                  · intro h; cases h
                · have e2 : hearM lo hi (agreeM xs fv) = (false, lo, hi) := by
                    rw [agree_eq, hag]
                    show (if a > hi ∨ b < lo then _ else _) = _
                    rw [if_pos (by omega)]
                  refine' WE.de (DE.conv (y := .of false) ?x10 ?e10) ?_
                  case' x10 => walk_at "de"
                  case' e10 =>
                    have : (decide (a ≤ hi) && decide (lo ≤ b)) = false := by
                      rw [Bool.eq_false_iff]; intro h; simp at h; exact hm h
                    simp [this]
                  walk_at "ws"
                  walk_at "if"
                  · intro h; cases h
                  · intro _
                    walk_at "ws"
                    refine' ws_cons ?_
                    refine' w1_if (wt_w (ww_or (wt_not (wt_val (cfn ci f_is (by decide) (by decide +kernel) ⟨rfl, rfl⟩ (wa_cons (cmeD (n := 1) ci cls f_hear (by decide) ?ho22 rfl rfl ⟨rfl, rfl⟩ ⟨_, rfl⟩ closed_clk ?da22 dat2 ⟨_, _, _, xs, fv, rfl, rfl, (by omega), _, rfl, closed_clk, ⟨_, _, _, rfl⟩, wa_cons (WE.de ?de22 (wa_nil ⟨dat2, _, _, rfl, rfl, trivial, rfl, ⟨_, _, _, rfl⟩, _, t_bl, ?_⟩)) rfl⟩) rfl)) (fun _ => rfl)))))
                    case' ho22 => walk_at "nm"
                    case' da22 => walk_at "da"
                    case' de22 => walk_at "nm"
                    rw [e2]
                    rw [if_neg (show ¬((!lawIs false false) = true) by decide)]
                    refine' ww_or1 (WT.dt ?dt22 ?_)
                    case' dt22 => walk_at "dt"
                    rw [if_neg (by simp)]
                    walk_at "ws"
                    walk_at "ws"
                    exact ⟨t, time, lo, hi, _, _, _, _, _, _, _, _, _, _, _, lo2, hi2, rest ++ [.dead], rfl, rfl, ok12, by omega, by omega, hh⟩
      · rintro env' cs' ⟨t, time, lo, hi, s8, s9, s10, s11, s12, s13, s14, s15, s16, s17, s18, lo2, hi2, rest, rfl, rfl, ok, htl, hth, hh⟩
        refine' ws_cons ?_
        refine' w1_if (wt_w (ww_or (wt_cmp (cme0 (n := 1) ci cls f_known (by decide) ?ho30 rfl rfl closed_clk ⟨_, rfl⟩ ⟨_, _, _, rfl, rfl, _, rfl, closed_clk, ⟨_, _, _, rfl⟩, WE.de ?de30 ⟨_, ?op30, ?_⟩⟩) rfl)))
        case' ho30 => walk_at "nm"
        case' de30 => walk_at "de"
        case' op30 => walk_at "cmp"
        rw [if_neg (by simp)]
        refine' ww_or1 (WT.dt (DT.conv (b := false) ?dt31 ?eq31) ?_)
        case' dt31 => walk_at "dt"
        case' eq31 =>
          cases hon with
          | false => rfl
          | true =>
            have := hh rfl
            simp [this.1, this.2]
        rw [if_neg Bool.false_ne_true]
        walk_at "ws"
        walk_at "ws"
        exact ⟨t, time, lo, hi, _, _, _, _, _, _, _, _, _, _, _, lo2, hi2, rest, rfl, rfl, ok, by omega, by omega, hh⟩
end
end K30

set_option Elab.async false
set_option linter.all false
set_option maxRecDepth 100000
set_option maxHeartbeats 0
namespace K30
open PySem PySem.Spec PyProof.Rows L2 DL
def fn : List He.DefD := [d_ratio_up, d_agreement, d_count_of, d_KeptClock_init, d_KeptClock_known, d_KeptClock_count, d_KeptClock_hear, d_law_start, d_law_draw, d_law_pick, d_law_is, d_law_agreement, d_law_source, d_law]
def fa : List He.Fa := [.glo "ratio_up", .glo "agreement", .glo "count_of", .glo "KeptClock", .glo "_law_start", .glo "_law_draw", .glo "_law_pick", .glo "_law_is", .glo "_law_agreement", .glo "_law_source", .glo "law",
  .free "len", .free "max", .free "min", .free "sorted", .free "abs", .free "int", .free "bool", .free "isinstance", .free "range", .free "list", .int "PARTS" 1000000,
  .cls "KeptClock", .noat "KeptClock" "_rate", .noat "KeptClock" "_low", .noat "KeptClock" "_high", .meth "KeptClock" "known", .meth "KeptClock" "count", .meth "KeptClock" "hear", .mkr "KeptClock"]
abbrev R : PySem.W.OpenRow := PySem.W.OpenLaw.row PySem.Challenge.rw_foreverdays_k30_whole_kept_clocks
abbrev hkk : PySem.W.Hook := He.hookD 4 fa fn
def ob (s : PySem.W.SharedT) : He.AlD := He.obsDG 4 fa fn (HandSHeadRun.getT s)
theorem ob_eq (s : PySem.W.SharedT) : ob s = hkk.obs s.abs := He.obsDG_eq (HandSHeadRun.getT_eq s)
def loose : List PySem.Str := ["ratio_up", "PARTS", "agreement", "count_of", "KeptClock", "_law_start", "_law_draw", "_law_pick", "_law_is", "_law_agreement", "_law_source"]
theorem run (w : World) : HandSHeadRun.RunEq R (PySem.W.view R.prog [14]) hkk ob 1500 loose w := by
  intro os
  kernel_rfl
theorem facts {P : Program} {w : World} {K : PySem.W.Frag} {h : Heap} {mg : PySem.Str → Option Value} {f : Addr} (X : K.In h) (G : h.Ns mainGlobals mg) (hfa : mg ("law" : PySem.Str) = some (.ref f)) (c : He.SaysD fa fn K) :
    ∃ fd : FuncData, (∀ (s : Shared) (v : Value), BindsTo s fd ⟨[v], []⟩ [("script", v)]) ∧ ∀ base : Heap, K.In base → base.Ns mainGlobals mg → FnOk P w K mg base CX0 4 f fd p_law (FSp K swLaw) := by
  obtain ⟨fd_ratio_up, F_ratio_up⟩ := c.def_ 0 (d := d_ratio_up) rfl
  obtain ⟨fd_agreement, F_agreement⟩ := c.def_ 1 (d := d_agreement) rfl
  obtain ⟨fd_count_of, F_count_of⟩ := c.def_ 2 (d := d_count_of) rfl
  obtain ⟨fd_KeptClock_init, F_KeptClock_init⟩ := c.def_ 3 (d := d_KeptClock_init) rfl
  obtain ⟨fd_KeptClock_known, F_KeptClock_known⟩ := c.def_ 4 (d := d_KeptClock_known) rfl
  obtain ⟨fd_KeptClock_count, F_KeptClock_count⟩ := c.def_ 5 (d := d_KeptClock_count) rfl
  obtain ⟨fd_KeptClock_hear, F_KeptClock_hear⟩ := c.def_ 6 (d := d_KeptClock_hear) rfl
  obtain ⟨fd_law_start, F_law_start⟩ := c.def_ 7 (d := d_law_start) rfl
  obtain ⟨fd_law_draw, F_law_draw⟩ := c.def_ 8 (d := d_law_draw) rfl
  obtain ⟨fd_law_pick, F_law_pick⟩ := c.def_ 9 (d := d_law_pick) rfl
  obtain ⟨fd_law_is, F_law_is⟩ := c.def_ 10 (d := d_law_is) rfl
  obtain ⟨fd_law_agreement, F_law_agreement⟩ := c.def_ 11 (d := d_law_agreement) rfl
  obtain ⟨fd_law_source, F_law_source⟩ := c.def_ 12 (d := d_law_source) rfl
  obtain ⟨fd_law, F_law⟩ := c.def_ 13 (d := d_law) rfl
  have m_len := He.free_ok X G (c.fact 11 (f := .free "len") rfl)
  have m_max := He.free_ok X G (c.fact 12 (f := .free "max") rfl)
  have m_min := He.free_ok X G (c.fact 13 (f := .free "min") rfl)
  have m_sorted := He.free_ok X G (c.fact 14 (f := .free "sorted") rfl)
  have m_abs := He.free_ok X G (c.fact 15 (f := .free "abs") rfl)
  have m_int := He.free_ok X G (c.fact 16 (f := .free "int") rfl)
  have m_bool := He.free_ok X G (c.fact 17 (f := .free "bool") rfl)
  have m_isinstance := He.free_ok X G (c.fact 18 (f := .free "isinstance") rfl)
  have m_range := He.free_ok X G (c.fact 19 (f := .free "range") rfl)
  have m_list := He.free_ok X G (c.fact 20 (f := .free "list") rfl)
  have g_ratio_up := He.glo_ok X G (c.fact 0 (f := .glo "ratio_up") rfl)
  have g_agreement := He.glo_ok X G (c.fact 1 (f := .glo "agreement") rfl)
  have g_count_of := He.glo_ok X G (c.fact 2 (f := .glo "count_of") rfl)
  have g_KeptClock := He.glo_ok X G (c.fact 3 (f := .glo "KeptClock") rfl)
  have g_law_start := He.glo_ok X G (c.fact 4 (f := .glo "_law_start") rfl)
  have g_law_draw := He.glo_ok X G (c.fact 5 (f := .glo "_law_draw") rfl)
  have g_law_pick := He.glo_ok X G (c.fact 6 (f := .glo "_law_pick") rfl)
  have g_law_is := He.glo_ok X G (c.fact 7 (f := .glo "_law_is") rfl)
  have g_law_agreement := He.glo_ok X G (c.fact 8 (f := .glo "_law_agreement") rfl)
  have g_law_source := He.glo_ok X G (c.fact 9 (f := .glo "_law_source") rfl)
  have g_law := He.glo_ok X G (c.fact 10 (f := .glo "law") rfl)
  have m_PARTS := He.int_ok X G (c.fact 21 (f := .int "PARTS" 1000000) rfl)
  have cl := He.cls_ok (c.fact 22 (f := .cls "KeptClock") rfl)
  have n1 := He.noat_ok (c.fact 23 (f := .noat "KeptClock" "_rate") rfl)
  have n2 := He.noat_ok (c.fact 24 (f := .noat "KeptClock" "_low") rfl)
  have n3 := He.noat_ok (c.fact 25 (f := .noat "KeptClock" "_high") rfl)
  have me_known := He.meth_ok (c.fact 26 (f := .meth "KeptClock" "known") rfl)
  have me_count := He.meth_ok (c.fact 27 (f := .meth "KeptClock" "count") rfl)
  have me_hear := He.meth_ok (c.fact 28 (f := .meth "KeptClock" "hear") rfl)
  have mk := He.mkr_ok (c.fact 29 (f := .mkr "KeptClock") rfl)
  have b_ratio_up : Binds K fd_ratio_up p_ratio_up [] := F_ratio_up.bindsN fun _ _ _ _ _ _ us hl => match us, hl with | [_, _], _ => rfl
  have b_agreement : Binds K fd_agreement p_agreement [] := F_agreement.bindsN fun _ _ _ _ _ _ us hl => match us, hl with | [_, _], _ => rfl
  have b_count_of : Binds K fd_count_of p_count_of [] := F_count_of.bindsN fun _ _ _ _ _ _ us hl => match us, hl with | [_, _], _ => rfl
  have b_KeptClock_init : Binds K fd_KeptClock_init p_KeptClock_init [] := F_KeptClock_init.bindsN fun _ _ _ _ _ _ us hl => match us, hl with | [_, _, _, _], _ => rfl
  have b_KeptClock_known : Binds K fd_KeptClock_known p_KeptClock_known [] := F_KeptClock_known.bindsN fun _ _ _ _ _ _ us hl => match us, hl with | [_], _ => rfl
  have b_KeptClock_count : Binds K fd_KeptClock_count p_KeptClock_count [] := F_KeptClock_count.bindsN fun _ _ _ _ _ _ us hl => match us, hl with | [_, _], _ => rfl
  have b_KeptClock_hear : Binds K fd_KeptClock_hear p_KeptClock_hear [] := F_KeptClock_hear.bindsN fun _ _ _ _ _ _ us hl => match us, hl with | [_, _, _], _ => rfl
  have b_law_start : Binds K fd_law_start p_law_start [] := F_law_start.bindsN fun _ _ _ _ _ _ us hl => match us, hl with | [_], _ => rfl
  have b_law_draw : Binds K fd_law_draw p_law_draw [] := F_law_draw.bindsN fun _ _ _ _ _ _ us hl => match us, hl with | [_, _], _ => rfl
  have b_law_pick : Binds K fd_law_pick p_law_pick [] := F_law_pick.bindsN fun _ _ _ _ _ _ us hl => match us, hl with | [_, _], _ => rfl
  have b_law_is : Binds K fd_law_is p_law_is [] := F_law_is.bindsN fun _ _ _ _ _ _ us hl => match us, hl with | [_, _], _ => rfl
  have b_law_agreement : Binds K fd_law_agreement p_law_agreement [] := F_law_agreement.bindsN fun _ _ _ _ _ _ us hl => match us, hl with | [_, _], _ => rfl
  have b_law_source : Binds K fd_law_source p_law_source [] := F_law_source.bindsN fun _ _ _ _ _ _ us hl => match us, hl with | [_, _, _], _ => rfl
  have b_law : Binds K fd_law p_law [] := F_law.bindsN fun _ _ _ _ _ _ us hl => match us, hl with | [_], _ => rfl
  cases hfa.symm.trans g_law
  refine ⟨fd_law, fun s v => (FunD.bindsA (ps := p_law) F_law fun _ _ _ _ _ _ us hl => match us, hl with | [_], _ => rfl) s [v] rfl, fun base _ _ => ?_⟩
  have r_ratio_up : FnR P w K mg base 1 "ratio_up" p_ratio_up _ := ⟨⟨_, _, g_ratio_up, F_ratio_up.kp, ok_ratio_up F_ratio_up, b_ratio_up⟩⟩
  have r_count_of : FnR P w K mg base 1 "count_of" p_count_of _ := ⟨⟨_, _, g_count_of, F_count_of.kp, ok_count_of F_count_of m_len, b_count_of⟩⟩
  have r_agreement : FnR P w K mg base 2 "agreement" p_agreement _ := ⟨⟨_, _, g_agreement, F_agreement.kp, ok_agreement F_agreement m_len m_max m_min m_sorted r_count_of, b_agreement⟩⟩
  have r_start : FnR P w K mg base 1 "_law_start" p_law_start _ := ⟨⟨_, _, g_law_start, F_law_start.kp, ok_law_start F_law_start m_abs m_int m_len, b_law_start⟩⟩
  have r_draw : FnR P w K mg base 1 "_law_draw" p_law_draw _ := ⟨⟨_, _, g_law_draw, F_law_draw.kp, ok_law_draw F_law_draw m_int m_len, b_law_draw⟩⟩
  have r_pick : FnR P w K mg base 2 "_law_pick" p_law_pick _ := ⟨⟨_, _, g_law_pick, F_law_pick.kp, ok_law_pick F_law_pick m_len r_draw, b_law_pick⟩⟩
  have r_is : FnR P w K mg base 1 "_law_is" p_law_is _ := ⟨⟨_, _, g_law_is, F_law_is.kp, ok_law_is F_law_is m_bool m_isinstance, b_law_is⟩⟩
  have r_lagr : FnR P w K mg base 1 "_law_agreement" p_law_agreement _ := ⟨⟨_, _, g_law_agreement, F_law_agreement.kp, ok_law_agreement F_law_agreement m_len m_max m_min m_range, b_law_agreement⟩⟩
  have r_src : FnR P w K mg base 2 "_law_source" p_law_source _ := ⟨⟨_, _, g_law_source, F_law_source.kp, ok_law_source F_law_source r_draw, b_law_source⟩⟩
  have r_mk : MkR P w K mg base 1 "KeptClock" (He.ga K "KeptClock") p_KeptClock_init _ := ⟨⟨_, _, g_KeptClock, mk, ok_KeptClock_init F_KeptClock_init cl n1 n2 n3, b_KeptClock_init⟩⟩
  have r_known : MeR P w K mg base 1 (He.ga K "KeptClock") "known" p_KeptClock_known _ := ⟨⟨_, _, me_known, ok_KeptClock_known F_KeptClock_known cl n1 n2 n3, b_KeptClock_known⟩⟩
  have r_count : MeR P w K mg base 2 (He.ga K "KeptClock") "count" p_KeptClock_count _ := ⟨⟨_, _, me_count, ok_KeptClock_count F_KeptClock_count cl n1 n2 n3 m_PARTS r_ratio_up, b_KeptClock_count⟩⟩
  have r_hear : MeR P w K mg base 3 (He.ga K "KeptClock") "hear" p_KeptClock_hear _ := ⟨⟨_, _, me_hear, ok_KeptClock_hear F_KeptClock_hear cl n1 n2 n3 m_max m_min r_agreement, b_KeptClock_hear⟩⟩
  exact ok_law F_law ⟨cl, r_start, r_draw, r_pick, r_is, r_lagr, r_src, r_agreement, r_mk, r_known, r_count, r_hear, m_range, m_list, m_max, m_min⟩
theorem pr_ints {K : PySem.W.Frag} {H : Hp} : ∀ ns : List Int, Pr (Enc.rep K H) (ns.map V.int) ns
  | [] => .nil
  | n :: ns => .cons rfl (pr_ints ns)
theorem spec {K : PySem.W.Frag} {H : Hp} {a : Addr} {ns : List Int} (hl : ns.length ≤ 63) (hS : SqL K H a (ns.map V.int)) : FSp K swLaw [.ref a] H (fun v _ => v = .bl true) fun _ _ _ => False := by
  refine ⟨H, [], [.of ns], [], fun s _ => s = .of true, ⟨ns, rfl, rfl, hl, rfl⟩, ?_, ?_⟩
  · exact ⟨Ex.refl _, Ex.refl _, by rw [msk_nil]; exact Ex.refl _, fun _ _ h => h, .cons (.inr ⟨.ref a, rfl, ⟨a, ns.map V.int, rfl, hS, pr_ints ns⟩⟩) .nil, .nil, fun _ h => by simp at h, List.nodup_nil⟩
  · rintro v s M' H' ps' cs' rfl _ _ ok
    exact ok
end K30
open PySem PySem.W PySem.Calls PyProof.Rows
theorem PySem.Challenge.cw_foreverdays_k30_whole_kept_clocks_holds : PySem.Challenge.rw_foreverdays_k30_whole_kept_clocks.Holds := by
  w_on; o_law
  refine HandSHeadRun.head_any (r := OpenLaw.row PySem.Challenge.rw_foreverdays_k30_whole_kept_clocks) (q := view (OpenLaw.row PySem.Challenge.rw_foreverdays_k30_whole_kept_clocks).prog [14]) (H := K30.hkk) (ob := K30.ob) (M := 1500) (loose := K30.loose) (d := HandSHeadRun.topDef (OpenLaw.row PySem.Challenge.rw_foreverdays_k30_whole_kept_clocks).prog 14) (kwd := []) K30.ob_eq
    (by kernel_rfl) (fun s => by kernel_rfl) K30.run (by kernel_rfl) (by kernel_rfl) (by kernel_rfl) (by rfl) (by first | assumption | decide +kernel) (by decide +kernel) ⟨rfl, rfl, rfl, rfl, rfl, by decide +kernel⟩ ?hw ?hc
  case hw => w_witness2
  case hc =>
    refine L2.walk_ofE (l := PySem.Challenge.rw_foreverdays_k30_whole_kept_clocks) (n := 63) (k := 4) (x := "script") (CX := L2.CX0) rfl (by decide) (by kernel_rfl) ⟨rfl, by decide, by decide⟩ ?F (fun _ _ _ _ z => z)
    intro w mg fa h Y G hmg0
    obtain ⟨K, KX, c⟩ := Y
    have hmg : mg ("law" : PySem.Str) = some (.ref fa) := by
      have e : (HandSHeadRun.topDef (OpenLaw.row PySem.Challenge.rw_foreverdays_k30_whole_kept_clocks).prog 14).name = ("law" : PySem.Str) := by kernel_rfl
      rw [← e]
      exact hmg0
    obtain ⟨fd, hb, hF⟩ := K30.facts (P := (PySem.Challenge.rw_foreverdays_k30_whole_kept_clocks).prog) (w := w) KX G hmg c
    exact ⟨K, fd, DL.FSp K K30.swLaw, KX, hb, fun H a ns hl _ hS => K30.spec hl hS, hF⟩
