import PyProof.Rows.All
import Wide.All
import OpenK.AllK
import Wide.FinOn
import HandS.ForMost
import HandS.StrMore
import HandS.TupMul
import HandS.Defaults
import HandS.IsInst
import KE.KStateDown
import HandS.Head0
import HandS.Head1
import HandS.Head2
import HandS.HeadEnd
import HandS.HeadHook1
import HandS.HeadHook2
import PySem.Challenge.RW_deedstand_k61_whole_fewest_pieces
set_option Elab.async false
set_option linter.all false
set_option maxRecDepth 100000
set_option maxHeartbeats 400000
namespace Cl
open PySem PySem.Spec PyProof.Rows L2

/-! ### plain data -/
inductive Dt where
  | non | bl (b : Bool) | int (i : Int) | str (s : List Nat) | tup (l : List Dt) | lst (l : List Dt) | frz (l : List Dt)

def S (s : List Nat) : Str := ⟨s.toArray⟩
theorem S_tl (s : List Nat) : (S s).cps.toList = s := rfl
theorem S_len (s : List Nat) : (S s).length = s.length := by simp [S, Str.length]
theorem S_inj {s t : List Nat} (h : S s = S t) : s = t := by
  have := congrArg (fun x => x.cps.toList) h
  simpa [S] using this
theorem S_of (x : Str) : x = S x.cps.toList := by cases x; rfl

mutual
def Rep (K : PySem.W.Frag) (B : Hp) : Dt → V → Prop
  | .non, v => v = .non
  | .bl b, v => v = .bl b
  | .int i, v => v = .int i
  | .str s, v => v = .str (S s)
  | .tup l, v => ∃ a xs, v = .ref a ∧ SqT K B a xs ∧ RepL K B l xs
  | .lst l, v => ∃ a xs, v = .ref a ∧ B a = some (.lst xs) ∧ RepL K B l xs
  | .frz l, v => ∃ a xs, v = .ref a ∧ SqL K B a xs ∧ RepL K B l xs
def RepL (K : PySem.W.Frag) (B : Hp) : List Dt → List V → Prop
  | [], xs => xs = []
  | d :: ds, xs => ∃ x r, xs = x :: r ∧ Rep K B d x ∧ RepL K B ds r
end

theorem sameT {K : PySem.W.Frag} {H H' : Hp} {a : Addr} {xs : List V} (e : Same H H') (h : SqT K H a xs) : SqT K H' a xs := by
  rcases h with (h | ⟨o, h⟩) | h
  · exact .inl (.inl (e _ _ h))
  · exact .inl (.inr ⟨o, e _ _ h⟩)
  · exact .inr h

mutual
theorem Rep.mono {K : PySem.W.Frag} {B B' : Hp} (e : Same B B') : ∀ {d : Dt} {v : V}, Rep K B d v → Rep K B' d v
  | .non, _, h => h
  | .bl _, _, h => h
  | .int _, _, h => h
  | .str _, _, h => h
  | .tup l, v, h => by
    unfold Rep at h ⊢
    obtain ⟨a, xs, h1, h2, h3⟩ := h
    exact ⟨a, xs, h1, sameT e h2, RepL.mono e h3⟩
  | .lst l, v, h => by
    unfold Rep at h ⊢
    obtain ⟨a, xs, h1, h2, h3⟩ := h
    exact ⟨a, xs, h1, e _ _ h2, RepL.mono e h3⟩
  | .frz l, v, h => by
    unfold Rep at h ⊢
    obtain ⟨a, xs, h1, h2, h3⟩ := h
    exact ⟨a, xs, h1, e.seq h2, RepL.mono e h3⟩
theorem RepL.mono {K : PySem.W.Frag} {B B' : Hp} (e : Same B B') : ∀ {l : List Dt} {xs : List V}, RepL K B l xs → RepL K B' l xs
  | [], _, h => h
  | d :: ds, xs, h => by
    unfold RepL at h ⊢
    obtain ⟨x, r, h1, h2, h3⟩ := h
    exact ⟨x, r, h1, Rep.mono e h2, RepL.mono e h3⟩
end

theorem RepL.length {K : PySem.W.Frag} {B : Hp} : ∀ {l : List Dt} {xs : List V}, RepL K B l xs → xs.length = l.length
  | [], _, h => by unfold RepL at h; rw [h]; rfl
  | d :: ds, xs, h => by
    unfold RepL at h
    obtain ⟨x, r, h1, h2, h3⟩ := h
    rw [h1, List.length_cons, List.length_cons, RepL.length h3]
theorem RepL.get {K : PySem.W.Frag} {B : Hp} : ∀ {l : List Dt} {xs : List V} {i : Nat} {d : Dt}, RepL K B l xs → l[i]? = some d → ∃ v, xs[i]? = some v ∧ Rep K B d v
  | [], _, _, _, _, e => by simp at e
  | d :: ds, xs, 0, d', h, e => by
    unfold RepL at h
    obtain ⟨x, r, h1, h2, h3⟩ := h
    simp at e
    subst e
    exact ⟨x, by rw [h1]; rfl, h2⟩
  | d :: ds, xs, i + 1, d', h, e => by
    unfold RepL at h
    obtain ⟨x, r, h1, h2, h3⟩ := h
    obtain ⟨v, e1, e2⟩ := RepL.get (i := i) h3 (by simpa using e)
    exact ⟨v, by rw [h1]; simpa using e1, e2⟩
theorem RepL.getV {K : PySem.W.Frag} {B : Hp} {l : List Dt} {xs : List V} {i : Nat} {v : V} (h : RepL K B l xs) (e : xs[i]? = some v) : ∃ d, l[i]? = some d ∧ Rep K B d v := by
  have hi : i < l.length := by
    rw [← h.length]
    exact (List.getElem?_eq_some_iff.mp e).1
  obtain ⟨v', e1, e2⟩ := h.get (List.getElem?_eq_getElem hi)
  rw [e] at e1
  cases e1
  exact ⟨_, List.getElem?_eq_getElem hi, e2⟩
theorem RepL.app {K : PySem.W.Frag} {B : Hp} : ∀ {l m : List Dt} {xs ys : List V}, RepL K B l xs → RepL K B m ys → RepL K B (l ++ m) (xs ++ ys)
  | [], m, xs, ys, h, h' => by unfold RepL at h; rw [h]; exact h'
  | d :: ds, m, xs, ys, h, h' => by
    unfold RepL at h
    obtain ⟨x, r, h1, h2, h3⟩ := h
    rw [h1]
    show RepL K B (d :: (ds ++ m)) (x :: (r ++ ys))
    unfold RepL
    exact ⟨x, _, rfl, h2, RepL.app h3 h'⟩
theorem RepL.nil {K : PySem.W.Frag} {B : Hp} : RepL K B [] [] := by unfold RepL; rfl
theorem RepL.cons {K : PySem.W.Frag} {B : Hp} {d : Dt} {l : List Dt} {x : V} {xs : List V} (h : Rep K B d x) (h' : RepL K B l xs) : RepL K B (d :: l) (x :: xs) := by
  unfold RepL
  exact ⟨x, xs, rfl, h, h'⟩
theorem RepL.one {K : PySem.W.Frag} {B : Hp} {d : Dt} {x : V} (h : Rep K B d x) : RepL K B [d] [x] := .cons h .nil
theorem RepL.drop {K : PySem.W.Frag} {B : Hp} : ∀ {l : List Dt} {xs : List V} (n : Nat), RepL K B l xs → RepL K B (l.drop n) (xs.drop n)
  | [], _, _, h => by unfold RepL at h; rw [h]; simp; exact .nil
  | _ :: _, _, 0, h => h
  | d :: ds, xs, n + 1, h => by
    unfold RepL at h
    obtain ⟨x, r, h1, h2, h3⟩ := h
    rw [h1]
    exact RepL.drop n h3
theorem RepL.take {K : PySem.W.Frag} {B : Hp} : ∀ {l : List Dt} {xs : List V} (n : Nat), RepL K B l xs → RepL K B (l.take n) (xs.take n)
  | [], _, _, h => by unfold RepL at h; rw [h]; simp; exact .nil
  | _ :: _, _, 0, h => by simp; exact .nil
  | d :: ds, xs, n + 1, h => by
    unfold RepL at h
    obtain ⟨x, r, h1, h2, h3⟩ := h
    rw [h1]
    exact .cons h2 (RepL.take n h3)
theorem RepL.set {K : PySem.W.Frag} {B : Hp} {d : Dt} {v : V} (hv : Rep K B d v) : ∀ {l : List Dt} {xs : List V} (n : Nat), RepL K B l xs → RepL K B (l.set n d) (xs.set n v)
  | [], _, _, h => by unfold RepL at h; rw [h]; exact .nil
  | _ :: _, xs, 0, h => by
    unfold RepL at h
    obtain ⟨x, r, h1, h2, h3⟩ := h
    rw [h1]
    exact .cons hv h3
  | _ :: ds, xs, n + 1, h => by
    unfold RepL at h
    obtain ⟨x, r, h1, h2, h3⟩ := h
    rw [h1]
    exact .cons h2 (RepL.set hv n h3)
theorem RepL.rev {K : PySem.W.Frag} {B : Hp} : ∀ {l : List Dt} {xs : List V}, RepL K B l xs → RepL K B l.reverse xs.reverse
  | [], _, h => by unfold RepL at h; rw [h]; exact .nil
  | d :: ds, xs, h => by
    unfold RepL at h
    obtain ⟨x, r, h1, h2, h3⟩ := h
    rw [h1, List.reverse_cons, List.reverse_cons]
    exact .app (RepL.rev h3) (.one h2)
theorem RepL.erase {K : PySem.W.Frag} {B : Hp} : ∀ {l : List Dt} {xs : List V} (n : Nat), RepL K B l xs → RepL K B (l.eraseIdx n) (xs.eraseIdx n)
  | [], _, _, h => by unfold RepL at h; rw [h]; exact .nil
  | _ :: _, xs, 0, h => by
    unfold RepL at h
    obtain ⟨x, r, h1, h2, h3⟩ := h
    rw [h1]
    exact h3
  | _ :: ds, xs, n + 1, h => by
    unfold RepL at h
    obtain ⟨x, r, h1, h2, h3⟩ := h
    rw [h1]
    exact .cons h2 (RepL.erase n h3)
theorem RepL.rep {K : PySem.W.Frag} {B : Hp} {l : List Dt} {xs : List V} (h : RepL K B l xs) : ∀ k : Nat, RepL K B (List.replicate k l).flatten (List.replicate k xs).flatten
  | 0 => .nil
  | k + 1 => by
    rw [List.replicate_succ, List.replicate_succ, List.flatten_cons, List.flatten_cons]
    exact h.app (RepL.rep h k)

/-! ### owned objects -/
/-- the law's drawing box: what is true of it in the heap, with its footprint -/
structure PoolP where
  ok : Addr → List Addr → Hp → Prop
  mem : ∀ a fp H, ok a fp H → a ∈ fp
  alive : ∀ a fp H, ok a fp H → ∀ b ∈ fp, H b ≠ none
  loc : ∀ a fp H H', ok a fp H → (∀ b ∈ fp, H' b = H b) → ok a fp H'
inductive Ob where
  | lst (l : List Dt)
  | pool
def RepO (K : PySem.W.Frag) (PL : PoolP) (B H : Hp) : Ob → Addr → List Addr → Prop
  | .lst l, a, fp => fp = [a] ∧ ∃ xs, H a = some (.lst xs) ∧ RepL K B l xs
  | .pool, a, fp => PL.ok a fp H
theorem RepO.mono {K : PySem.W.Frag} {PL : PoolP} {B B' H H' : Hp} {o : Ob} {a : Addr} {fp : List Addr} (e : Same B B') (k : ∀ b ∈ fp, H' b = H b) (h : RepO K PL B H o a fp) : RepO K PL B' H' o a fp := by
  cases o with
  | lst l =>
    obtain ⟨rfl, xs, h1, h2⟩ := h
    exact ⟨rfl, xs, (k a (by simp)).trans h1, h2.mono e⟩
  | pool => exact PL.loc a fp H H' h k
theorem RepO.alive {K : PySem.W.Frag} {PL : PoolP} {B H : Hp} {o : Ob} {a : Addr} {fp : List Addr} (h : RepO K PL B H o a fp) : ∀ b ∈ fp, H b ≠ none := by
  cases o with
  | lst l =>
    obtain ⟨rfl, xs, h1, h2⟩ := h
    intro b hb
    have e : b = a := by simpa using hb
    rw [e, h1]
    simp
  | pool => exact PL.alive a fp H h
theorem RepO.self {K : PySem.W.Frag} {PL : PoolP} {B H : Hp} {o : Ob} {a : Addr} {fp : List Addr} (h : RepO K PL B H o a fp) : a ∈ fp := by
  cases o with
  | lst l =>
    obtain ⟨rfl, xs, h1, h2⟩ := h
    simp
  | pool => exact PL.mem a fp H h

/-! ### the clean state -/
inductive Slot where
  | no
  | dat (d : Dt)
  | own (o : Ob)
  | arg (o : Ob)
abbrev CEnv := List Slot
def gt : CEnv → Nat → Slot
  | [], _ => .no
  | s :: _, 0 => s
  | _ :: r, n + 1 => gt r n
theorem gt_get {c : CEnv} : ∀ {i : Nat} {s : Slot}, gt c i = s → s ≠ .no → c[i]? = some s := by
  induction c with
  | nil => intro i s h n; exact absurd h.symm n
  | cons t r ih =>
    intro i s h n
    cases i with
    | zero => exact congrArg some h
    | succ i => simpa using ih h n

theorem gt_of {c : CEnv} : ∀ {i : Nat} {s : Slot}, c[i]? = some s → gt c i = s := by
  induction c with
  | nil => intro i s h; simp at h
  | cons t r ih =>
    intro i s h
    cases i with
    | zero =>
      show t = s
      simpa using h
    | succ i => exact ih (i := i) (by simpa using h)

/-- what a def's entry was -/
structure Ent where
  B : Hp
  H : Hp
  ow : Nat → Option Addr
  fp : Nat → List Addr
  /-- cells that are being filled and must stand as they are -/
  pin : Addr → Option HO
def SlotOk (K : PySem.W.Frag) (PL : PoolP) (G : Ent) (B H : Hp) (F : List Addr) (i : Nat) : Slot → Option V → Prop
  | .no, _ => F = []
  | .dat d, o => F = [] ∧ ∃ v, o = some v ∧ Rep K B d v
  | .own ob, o => ∃ a, o = some (.ref a) ∧ RepO K PL B H ob a F ∧ ∀ b ∈ F, G.H b = none
  | .arg ob, o => ∃ a, o = some (.ref a) ∧ G.ow i = some a ∧ RepO K PL B H ob a F ∧ ∀ b ∈ F, G.H b = none ∨ b ∈ G.fp i
structure ConcF (K : PySem.W.Frag) (PL : PoolP) (G : Ent) (B : Hp) (c : CEnv) (σ : L2.St) (H : Hp) (F : Nat → List Addr) : Prop where
  ex : Same B H
  bb : Same G.B B
  new : ∀ a o, B a = some o → G.B a = some o ∨ G.H a = none
  frame : ∀ a o, G.H a = some o → (∀ k, a ∉ G.fp k) → H a = some o
  keep : ∀ a, G.H a ≠ none → H a ≠ none
  len : c.length = σ.length
  slots : ∀ i s, c[i]? = some s → ∃ o, σ[i]? = some o ∧ SlotOk K PL G B H (F i) i s o
  out : ∀ i, c.length ≤ i → F i = []
  disj : ∀ i j, i ≠ j → ∀ b ∈ F i, b ∉ F j
  off : ∀ i, ∀ b ∈ F i, B b = none
  pin : ∀ a o, G.pin a = some o → H a = some o ∧ B a = none ∧ ∀ i, a ∉ F i
def Conc (K : PySem.W.Frag) (PL : PoolP) (G : Ent) (B : Hp) (c : CEnv) (σ : L2.St) (H : Hp) : Prop := ∃ F, ConcF K PL G B c σ H F

section
variable {K : PySem.W.Frag} {PL : PoolP} {G : Ent} {B B' : Hp} {c : CEnv} {σ : L2.St} {H H' : Hp} {F : Nat → List Addr}

theorem SlotOk.mono {F : List Addr} {i : Nat} {s : Slot} {o : Option V} (e : Same B B') (k : ∀ b ∈ F, H' b = H b) (h : SlotOk K PL G B H F i s o) : SlotOk K PL G B' H' F i s o := by
  cases s with
  | no => exact h
  | dat d =>
    obtain ⟨h1, v, h2, h3⟩ := h
    exact ⟨h1, v, h2, h3.mono e⟩
  | own ob =>
    obtain ⟨a, h1, h2, h3⟩ := h
    exact ⟨a, h1, h2.mono e k, h3⟩
  | arg ob =>
    obtain ⟨a, h1, h1', h2, h3⟩ := h
    exact ⟨a, h1, h1', h2.mono e k, h3⟩
theorem SlotOk.alive {F : List Addr} {i : Nat} {s : Slot} {o : Option V} (h : SlotOk K PL G B H F i s o) : ∀ b ∈ F, H b ≠ none := by
  cases s with
  | no =>
    have e : F = [] := h
    rw [e]
    intro b hb
    simp at hb
  | dat d =>
    obtain ⟨h1, _⟩ := h
    rw [h1]
    intro b hb
    simp at hb
  | own ob =>
    obtain ⟨a, h1, h2, h3⟩ := h
    exact h2.alive
  | arg ob =>
    obtain ⟨a, h1, h1', h2, h3⟩ := h
    exact h2.alive
theorem ConcF.alive (h : ConcF K PL G B c σ H F) (i : Nat) : ∀ b ∈ F i, H b ≠ none := by
  by_cases hi : i < c.length
  · obtain ⟨o, _, h2⟩ := h.slots i _ (List.getElem?_eq_getElem hi)
    exact h2.alive
  · rw [h.out i (by omega)]
    intro b hb
    simp at hb
/-- new things stand in the heap -/
theorem ConcF.grow (h : ConcF K PL G B c σ H F) (e : Same H H') : ConcF K PL G B c σ H' F where
  ex := h.ex.trans e
  bb := h.bb
  new := h.new
  frame := fun a o h1 h2 => e a o (h.frame a o h1 h2)
  keep := fun a h1 h2 => by
    cases q : H a with
    | none => exact h.keep a h1 q
    | some o =>
      rw [e a o q] at h2
      cases h2
  len := h.len
  slots := fun i s hs => by
    obtain ⟨o, h1, h2⟩ := h.slots i s hs
    refine ⟨o, h1, h2.mono (Same.refl B) fun b hb => ?_⟩
    cases q : H b with
    | none => exact absurd q (h.alive i b hb)
    | some o => exact e b o q
  out := h.out
  disj := h.disj
  off := h.off
  pin := fun a o q => ⟨e a o (h.pin a o q).1, (h.pin a o q).2⟩
theorem Conc.grow (h : Conc K PL G B c σ H) (e : Same H H') : Conc K PL G B c σ H' := let ⟨F, h⟩ := h; ⟨F, h.grow e⟩
theorem Same.new {p : Addr} {o : HO} (h : H p = none) : Same H (upd H p o) := fun b x e => by
  rw [upd_ne (ne_of_none e h)]
  exact e
/-- a new object that will never change -/
theorem ConcF.dat {p : Addr} {o : HO} (h : ConcF K PL G B c σ H F) (hp : H p = none) : ConcF K PL G (upd B p o) c σ (upd H p o) F ∧ Same B (upd B p o) := by
  have hb : B p = none := h.ex.free hp
  have e : Same B (upd B p o) := Same.new hb
  refine ⟨?_, e⟩
  have h1 := h.grow (Same.new (o := o) hp)
  refine { h1 with ex := ?_, bb := h.bb.trans e, new := ?_, slots := ?_, off := ?_, pin := fun a x q => ⟨(h1.pin a x q).1, ?_, (h1.pin a x q).2.2⟩ }
  · intro a x q
    by_cases ha : a = p
    · subst ha
      rw [upd_same] at q ⊢
      exact q
    · rw [upd_ne ha] at q ⊢
      exact h.ex a x q
  · intro a x q
    by_cases ha : a = p
    · subst ha
      right
      cases g : G.H a with
      | none => rfl
      | some o' => exact absurd hp (h.keep a (by rw [g]; simp))
    · rw [upd_ne ha] at q
      exact h.new a x q
  · intro i s hs
    obtain ⟨o', q1, q2⟩ := h1.slots i s hs
    exact ⟨o', q1, q2.mono e fun _ _ => rfl⟩
  · intro i b hb'
    have : b ≠ p := fun z => h.alive i b hb' (by rw [z]; exact hp)
    rw [upd_ne this]
    exact h.off i b hb'
  · have : a ≠ p := fun z => by
      have := (h.pin a x q).1
      rw [z, hp] at this
      cases this
    rw [upd_ne this]
    exact (h.pin a x q).2.1
theorem Conc.dat {p : Addr} {o : HO} (h : Conc K PL G B c σ H) (hp : H p = none) : Conc K PL G (upd B p o) c σ (upd H p o) ∧ Same B (upd B p o) :=
  let ⟨F, h⟩ := h; ⟨⟨F, (h.dat hp).1⟩, (h.dat (o := o) hp).2⟩
theorem Conc.tup {p : Addr} {l : List Dt} {xs : List V} (h : Conc K PL G B c σ H) (hp : H p = none) (r : RepL K B l xs) :
    Conc K PL G (upd B p (.tup xs)) c σ (upd H p (.tup xs)) ∧ Same B (upd B p (.tup xs)) ∧ Rep K (upd B p (.tup xs)) (.tup l) (.ref p) := by
  obtain ⟨h1, h2⟩ := h.dat (o := .tup xs) hp
  refine ⟨h1, h2, ?_⟩
  unfold Rep
  exact ⟨p, xs, rfl, .of upd_same, r.mono h2⟩
theorem get_snoc {α : Type} {l : List α} {x y : α} {i : Nat} (h : (l ++ [x])[i]? = some y) : (i < l.length ∧ l[i]? = some y) ∨ (i = l.length ∧ x = y) := by
  by_cases hi : i < l.length
  · rw [List.getElem?_append_left hi] at h
    exact .inl ⟨hi, h⟩
  · rw [List.getElem?_append_right (by omega)] at h
    have : i - l.length = 0 := by
      by_cases z : i - l.length = 0
      · exact z
      · rw [List.getElem?_eq_none (by simp; omega)] at h
        cases h
    rw [this] at h
    exact .inr ⟨by omega, by simpa using h⟩
/-- an owned object besides, at the end -/
theorem ConcF.push {v : V} {o : Ob} {a : Addr} {fp : List Addr} (h : ConcF K PL G B c σ H F) (hv : v = .ref a) (r : RepO K PL B H o a fp) (hg : ∀ b ∈ fp, G.H b = none) (hb : ∀ b ∈ fp, B b = none) (hd : ∀ i, ∀ b ∈ F i, b ∉ fp) (hpin : ∀ b ∈ fp, G.pin b = none) :
    ConcF K PL G B (c ++ [.own o]) (σ ++ [some v]) H (fun i => if i = c.length then fp else F i) where
  ex := h.ex
  bb := h.bb
  new := h.new
  frame := h.frame
  keep := h.keep
  len := by simp [h.len]
  slots := fun i s hs => by
    rcases get_snoc hs with ⟨hi, q⟩ | ⟨hi, q⟩
    · obtain ⟨x, h1, h2⟩ := h.slots i s q
      have hne : i ≠ c.length := by omega
      refine ⟨x, ?_, ?_⟩
      · rw [List.getElem?_append_left (by rw [← h.len]; exact hi)]
        exact h1
      · simp only [hne, if_false]
        exact h2
    · subst hi
      subst q
      refine ⟨some v, ?_, ?_⟩
      · rw [h.len, List.getElem?_append_right (Nat.le_refl _)]
        simp
      · simp only [if_true]
        exact ⟨a, by rw [hv], r, hg⟩
  out := fun i hi => by
    rw [List.length_append, List.length_singleton] at hi
    have hne : i ≠ c.length := by omega
    simp only [hne, if_false]
    exact h.out i (by omega)
  disj := fun i j hij b hbi hbj => by
    by_cases hi : i = c.length
    · have hj : j ≠ c.length := by omega
      simp only [hi, if_true] at hbi
      simp only [hj, if_false] at hbj
      exact hd j b hbj hbi
    · simp only [hi, if_false] at hbi
      by_cases hj : j = c.length
      · simp only [hj, if_true] at hbj
        exact hd i b hbi hbj
      · simp only [hj, if_false] at hbj
        exact h.disj i j hij b hbi hbj
  off := fun i b hbi => by
    by_cases hi : i = c.length
    · simp only [hi, if_true] at hbi
      exact hb b hbi
    · simp only [hi, if_false] at hbi
      exact h.off i b hbi
  pin := fun x u q => ⟨(h.pin x u q).1, (h.pin x u q).2.1, fun i hx => by
    by_cases hi : i = c.length
    · simp only [hi, if_true] at hx
      rw [hpin x hx] at q
      cases q
    · simp only [hi, if_false] at hx
      exact (h.pin x u q).2.2 i hx⟩
/-- a new list of one's own -/
theorem Conc.newL {p : Addr} {l : List Dt} {xs : List V} (h : Conc K PL G B c σ H) (hp : H p = none) (r : RepL K B l xs) :
    Conc K PL G B (c ++ [.own (.lst l)]) (σ ++ [some (.ref p)]) (upd H p (.lst xs)) := by
  obtain ⟨F, h⟩ := h
  have h1 := h.grow (Same.new (o := .lst xs) hp)
  refine ⟨_, h1.push (a := p) (fp := [p]) rfl ⟨rfl, xs, upd_same, r⟩ (fun b hb => ?_) (fun b hb => ?_) (fun i b hb hb' => ?_) (fun b hb => ?_)⟩
  · have e : b = p := by simpa using hb
    subst e
    cases g : G.H b with
    | none => rfl
    | some o' => exact absurd hp (h.keep b (by rw [g]; simp))
  · have e : b = p := by simpa using hb
    subst e
    exact h.ex.free hp
  · have e : b = p := by simpa using hb'
    subst e
    exact h.alive i b hb hp
  · have e : b = p := by simpa using hb
    subst e
    cases g : G.pin b with
    | none => rfl
    | some o' =>
      have := (h.pin b o' g).1
      rw [hp] at this
      cases this
/-- the last one forgotten -/
theorem ConcF.pop {s : Slot} {o : Option V} (h : ConcF K PL G B (c ++ [s]) (σ ++ [o]) H F) : ConcF K PL G B c σ H (fun i => if i < c.length then F i else []) where
  ex := h.ex
  bb := h.bb
  new := h.new
  frame := h.frame
  keep := h.keep
  len := by simpa using h.len
  slots := fun i t ht => by
    have hi : i < c.length := (List.getElem?_eq_some_iff.mp ht).1
    have hl : c.length = σ.length := by simpa using h.len
    obtain ⟨x, h1, h2⟩ := h.slots i t (by rw [List.getElem?_append_left hi]; exact ht)
    refine ⟨x, ?_, ?_⟩
    · rw [List.getElem?_append_left (by omega)] at h1
      exact h1
    · simp only [hi, if_true]
      exact h2
  out := fun i hi => by
    have : ¬ i < c.length := by omega
    simp only [this, if_false]
  disj := fun i j hij b hbi hbj => by
    split at hbi
    · split at hbj
      · exact h.disj i j hij b hbi hbj
      · simp at hbj
    · simp at hbi
  off := fun i b hbi => by
    split at hbi
    · exact h.off i b hbi
    · simp at hbi
  pin := fun x u q => ⟨(h.pin x u q).1, (h.pin x u q).2.1, fun i hx => by
    split at hx
    · exact (h.pin x u q).2.2 i hx
    · simp at hx⟩
theorem Conc.pop {s : Slot} {o : Option V} (h : Conc K PL G B (c ++ [s]) (σ ++ [o]) H) : Conc K PL G B c σ H := let ⟨F, h⟩ := h; ⟨_, h.pop⟩
/-- a slot's own object is from now on never changed -/
theorem ConcF.freeze {i : Nat} {l : List Dt} (h : ConcF K PL G B c σ H F) (hs : c[i]? = some (.own (.lst l))) :
    ∃ B' v F', Same B B' ∧ σ[i]? = some (some v) ∧ Rep K B' (.lst l) v ∧ ConcF K PL G B' (c.set i (.dat (.lst l))) σ H F' := by
  obtain ⟨o, h1, a, h2, ⟨h3, xs, h4, h5⟩, h6⟩ := h.slots i _ hs
  subst h2
  have hb : B a = none := h.off i a (by rw [h3]; simp)
  have e : Same B (upd B a (.lst xs)) := Same.new hb
  have hic : i < c.length := (List.getElem?_eq_some_iff.mp hs).1
  have rep : Rep K (upd B a (.lst xs)) (.lst l) (.ref a) := by
    unfold Rep
    exact ⟨a, xs, rfl, upd_same, h5.mono e⟩
  refine ⟨upd B a (.lst xs), .ref a, fun j => if j = i then [] else F j, e, h1, rep, ?_⟩
  refine { ex := ?_, bb := h.bb.trans e, new := ?_, frame := h.frame, keep := h.keep, len := by simpa using h.len, slots := ?_, out := ?_, disj := ?_, off := ?_, pin := fun b x q => ⟨(h.pin b x q).1, ?_, fun j hx => ?_⟩ }
  · intro b x q
    by_cases hba : b = a
    · subst hba
      rw [upd_same] at q
      rw [h4]
      exact q
    · rw [upd_ne hba] at q
      exact h.ex b x q
  · intro b x q
    by_cases hba : b = a
    · subst hba
      exact .inr (h6 b (by rw [h3]; simp))
    · rw [upd_ne hba] at q
      exact h.new b x q
  · intro j s hj
    by_cases hji : j = i
    · subst hji
      rw [List.getElem?_set_self hic] at hj
      cases hj
      exact ⟨_, h1, by simp only [if_true]; exact ⟨rfl, _, rfl, rep⟩⟩
    · rw [List.getElem?_set_ne (Ne.symm hji)] at hj
      obtain ⟨x, q1, q2⟩ := h.slots j s hj
      refine ⟨x, q1, ?_⟩
      simp only [hji, if_false]
      exact q2.mono e fun _ _ => rfl
  · intro j hj
    rw [List.length_set] at hj
    by_cases hji : j = i
    · simp only [hji, if_true]
    · simp only [hji, if_false]
      exact h.out j hj
  · intro j k hjk b hbj hbk
    by_cases hji : j = i
    · simp only [hji, if_true] at hbj
      simp at hbj
    · simp only [hji, if_false] at hbj
      by_cases hki : k = i
      · simp only [hki, if_true] at hbk
        simp at hbk
      · simp only [hki, if_false] at hbk
        exact h.disj j k hjk b hbj hbk
  · intro j b hbj
    by_cases hji : j = i
    · simp only [hji, if_true] at hbj
      simp at hbj
    · simp only [hji, if_false] at hbj
      have hba : b ≠ a := fun z => h.disj j i hji b hbj (by rw [h3, z]; simp)
      rw [upd_ne hba]
      exact h.off j b hbj
  · have hba : b ≠ a := fun z => (h.pin b x q).2.2 i (by rw [h3, z]; simp)
    rw [upd_ne hba]
    exact (h.pin b x q).2.1
  · by_cases hji : j = i
    · simp only [hji, if_true] at hx
      simp at hx
    · simp only [hji, if_false] at hx
      exact (h.pin b x q).2.2 j hx
theorem set_snoc {α : Type} {l : List α} {x y : α} : (l ++ [x]).set l.length y = l ++ [y] := by
  rw [List.set_append_right _ _ (Nat.le_refl _)]
  simp
/-- a new list becomes plain data -/
theorem Conc.freezeLast {v : V} {l : List Dt} (h : Conc K PL G B (c ++ [.own (.lst l)]) (σ ++ [some v]) H) : ∃ B', Same B B' ∧ Conc K PL G B' c σ H ∧ Rep K B' (.lst l) v := by
  obtain ⟨F, h⟩ := h
  have hl : c.length = σ.length := by simpa using h.len
  obtain ⟨B', v', F', h1, h2, h3, h4⟩ := h.freeze (i := c.length) (l := l) (by rw [List.getElem?_append_right (Nat.le_refl _)]; simp)
  rw [hl, List.getElem?_append_right (Nat.le_refl _)] at h2
  have e : v' = v := by simpa using h2.symm
  subst e
  rw [set_snoc] at h4
  exact ⟨B', h1, ⟨_, h4.pop⟩, h3⟩
theorem Conc.freezeAt {i : Nat} {v : V} {l : List Dt} (h : Conc K PL G B c σ H) (hs : c[i]? = some (.own (.lst l))) (hv : σ[i]? = some (some v)) :
    ∃ B', Same B B' ∧ Conc K PL G B' (c.set i (.dat (.lst l))) σ H ∧ Rep K B' (.lst l) v := by
  obtain ⟨F, h⟩ := h
  obtain ⟨B', v', F', h1, h2, h3, h4⟩ := h.freeze hs
  rw [hv] at h2
  cases h2
  exact ⟨B', h1, ⟨_, h4⟩, h3⟩
/-- a name is given plain data -/
theorem Conc.setDat {i : Nat} {d : Dt} {v : V} (h : Conc K PL G B c σ H) (r : Rep K B d v) : Conc K PL G B (c.set i (.dat d)) (σ.set i (some v)) H := by
  obtain ⟨F, h⟩ := h
  refine ⟨fun j => if j = i then [] else F j, h.ex, h.bb, h.new, h.frame, h.keep, by simp [h.len], fun j s hj => ?_, fun j hj => ?_, fun j k hjk b hbj hbk => ?_, fun j b hbj => ?_, fun b x q => ⟨(h.pin b x q).1, (h.pin b x q).2.1, fun j hx => ?_⟩⟩
  · by_cases hji : j = i
    · subst hji
      have hic : j < c.length := by
        have := (List.getElem?_eq_some_iff.mp hj).1
        simpa using this
      rw [List.getElem?_set_self hic] at hj
      cases hj
      exact ⟨some v, List.getElem?_set_self (by rw [← h.len]; exact hic), by simp only [if_true]; exact ⟨rfl, v, rfl, r⟩⟩
    · rw [List.getElem?_set_ne (Ne.symm hji)] at hj
      obtain ⟨x, q1, q2⟩ := h.slots j s hj
      refine ⟨x, by rw [List.getElem?_set_ne (Ne.symm hji)]; exact q1, ?_⟩
      simp only [hji, if_false]
      exact q2
  · rw [List.length_set] at hj
    by_cases hji : j = i
    · simp only [hji, if_true]
    · simp only [hji, if_false]
      exact h.out j hj
  · by_cases hji : j = i
    · simp only [hji, if_true] at hbj
      simp at hbj
    · simp only [hji, if_false] at hbj
      by_cases hki : k = i
      · simp only [hki, if_true] at hbk
        simp at hbk
      · simp only [hki, if_false] at hbk
        exact h.disj j k hjk b hbj hbk
  · by_cases hji : j = i
    · simp only [hji, if_true] at hbj
      simp at hbj
    · simp only [hji, if_false] at hbj
      exact h.off j b hbj
  · by_cases hji : j = i
    · simp only [hji, if_true] at hx
      simp at hx
    · simp only [hji, if_false] at hx
      exact (h.pin b x q).2.2 j hx
/-- a name is forgotten -/
theorem Conc.setNo {i : Nat} (h : Conc K PL G B c σ H) (o : Option V) : Conc K PL G B (c.set i .no) (σ.set i o) H := by
  obtain ⟨F, h⟩ := h
  refine ⟨fun j => if j = i then [] else F j, h.ex, h.bb, h.new, h.frame, h.keep, by simp [h.len], fun j s hj => ?_, fun j hj => ?_, fun j k hjk b hbj hbk => ?_, fun j b hbj => ?_, fun b x q => ⟨(h.pin b x q).1, (h.pin b x q).2.1, fun j hx => ?_⟩⟩
  · by_cases hji : j = i
    · subst hji
      have hic : j < c.length := by
        have := (List.getElem?_eq_some_iff.mp hj).1
        simpa using this
      rw [List.getElem?_set_self hic] at hj
      cases hj
      exact ⟨o, List.getElem?_set_self (by rw [← h.len]; exact hic), by simp only [if_true]; rfl⟩
    · rw [List.getElem?_set_ne (Ne.symm hji)] at hj
      obtain ⟨x, q1, q2⟩ := h.slots j s hj
      refine ⟨x, by rw [List.getElem?_set_ne (Ne.symm hji)]; exact q1, ?_⟩
      simp only [hji, if_false]
      exact q2
  · rw [List.length_set] at hj
    by_cases hji : j = i
    · simp only [hji, if_true]
    · simp only [hji, if_false]
      exact h.out j hj
  · by_cases hji : j = i
    · simp only [hji, if_true] at hbj
      simp at hbj
    · simp only [hji, if_false] at hbj
      by_cases hki : k = i
      · simp only [hki, if_true] at hbk
        simp at hbk
      · simp only [hki, if_false] at hbk
        exact h.disj j k hjk b hbj hbk
  · by_cases hji : j = i
    · simp only [hji, if_true] at hbj
      simp at hbj
    · simp only [hji, if_false] at hbj
      exact h.off j b hbj
  · by_cases hji : j = i
    · simp only [hji, if_true] at hx
      simp at hx
    · simp only [hji, if_false] at hx
      exact (h.pin b x q).2.2 j hx
/-- a name is given a new object -/
theorem Conc.setNew {i : Nat} {o : Ob} {v : V} (hi : i < c.length) (h : Conc K PL G B (c ++ [.own o]) (σ ++ [some v]) H) : Conc K PL G B (c.set i (.own o)) (σ.set i (some v)) H := by
  obtain ⟨F, h⟩ := h
  have hl : c.length = σ.length := by simpa using h.len
  obtain ⟨x, hx, a, q1, q2, q3⟩ := h.slots c.length (.own o) (by rw [List.getElem?_append_right (Nat.le_refl _)]; simp)
  rw [hl, List.getElem?_append_right (Nat.le_refl _)] at hx
  have ex : x = some v := by simpa using hx.symm
  subst ex
  refine ⟨fun j => if j = i then F c.length else if j < c.length then F j else [], h.ex, h.bb, h.new, h.frame, h.keep, by simpa using hl, fun j s hj => ?_, fun j hj => ?_, fun j k hjk b hbj hbk => ?_, fun j b hbj => ?_, fun b x q => ⟨(h.pin b x q).1, (h.pin b x q).2.1, fun j hx => ?_⟩⟩
  · have hjc : j < c.length := by
      have := (List.getElem?_eq_some_iff.mp hj).1
      simpa using this
    by_cases hji : j = i
    · subst hji
      rw [List.getElem?_set_self hjc] at hj
      cases hj
      exact ⟨some v, List.getElem?_set_self (by omega), by simp only [if_true]; exact ⟨a, q1, q2, q3⟩⟩
    · rw [List.getElem?_set_ne (Ne.symm hji)] at hj
      obtain ⟨x, r1, r2⟩ := h.slots j s (by rw [List.getElem?_append_left hjc]; exact hj)
      rw [List.getElem?_append_left (by omega)] at r1
      refine ⟨x, by rw [List.getElem?_set_ne (Ne.symm hji)]; exact r1, ?_⟩
      simp only [hji, if_false, hjc, if_true]
      exact r2
  · rw [List.length_set] at hj
    have h1 : j ≠ i := by omega
    have h2 : ¬ j < c.length := by omega
    simp only [h1, if_false, h2]
  · have un : ∀ j, b ∈ (if j = i then F c.length else if j < c.length then F j else []) → (j = i ∧ b ∈ F c.length) ∨ (j ≠ i ∧ j < c.length ∧ b ∈ F j) := fun j hb => by
      by_cases hji : j = i
      · simp only [hji, if_true] at hb
        exact .inl ⟨hji, hb⟩
      · simp only [hji, if_false] at hb
        by_cases hjc : j < c.length
        · simp only [hjc, if_true] at hb
          exact .inr ⟨hji, hjc, hb⟩
        · simp only [hjc, if_false] at hb
          simp at hb
    rcases un j hbj with ⟨e1, m1⟩ | ⟨e1, l1, m1⟩
    · rcases un k hbk with ⟨e2, m2⟩ | ⟨e2, l2, m2⟩
      · omega
      · exact h.disj _ _ (by omega) b m1 m2
    · rcases un k hbk with ⟨e2, m2⟩ | ⟨e2, l2, m2⟩
      · exact h.disj _ _ (by omega) b m1 m2
      · exact h.disj _ _ hjk b m1 m2
  · by_cases hji : j = i
    · simp only [hji, if_true] at hbj
      exact h.off _ b hbj
    · simp only [hji, if_false] at hbj
      by_cases hjc : j < c.length
      · simp only [hjc, if_true] at hbj
        exact h.off j b hbj
      · simp only [hjc, if_false] at hbj
        simp at hbj
  · by_cases hji : j = i
    · simp only [hji, if_true] at hx
      exact (h.pin b x q).2.2 _ hx
    · simp only [hji, if_false] at hx
      by_cases hjc : j < c.length
      · simp only [hjc, if_true] at hx
        exact (h.pin b x q).2.2 j hx
      · simp only [hjc, if_false] at hx
        simp at hx
/-- a slot's list is changed -/
theorem Conc.write {i : Nat} {l m : List Dt} {a : Addr} {ys : List V} (h : Conc K PL G B c σ H) (hs : c[i]? = some (.own (.lst l)) ∨ c[i]? = some (.arg (.lst l))) (hv : σ[i]? = some (some (.ref a))) (r : RepL K B m ys) :
    Conc K PL G B (c.set i (match gt c i with | .arg _ => .arg (.lst m) | _ => .own (.lst m))) σ (upd H a (.lst ys)) ∧ ∃ xs, H a = some (.lst xs) ∧ RepL K B l xs := by
  obtain ⟨F, h⟩ := h
  have hic : i < c.length := by
    rcases hs with hs | hs <;> exact (List.getElem?_eq_some_iff.mp hs).1
  have key : F i = [a] ∧ (∃ xs, H a = some (.lst xs) ∧ RepL K B l xs) ∧ ((c[i]? = some (.own (.lst l)) ∧ G.H a = none) ∨ (c[i]? = some (.arg (.lst l)) ∧ G.ow i = some a ∧ (G.H a = none ∨ a ∈ G.fp i))) := by
    rcases hs with hs | hs
    · obtain ⟨o, h1, a', h2, ⟨h3, xs, h4, h5⟩, h6⟩ := h.slots i _ hs
      rw [hv] at h1
      cases h1
      cases h2
      exact ⟨h3, ⟨xs, h4, h5⟩, .inl ⟨hs, h6 a (by rw [h3]; simp)⟩⟩
    · obtain ⟨o, h1, a', h2, h2', ⟨h3, xs, h4, h5⟩, h6⟩ := h.slots i _ hs
      rw [hv] at h1
      cases h1
      cases h2
      exact ⟨h3, ⟨xs, h4, h5⟩, .inr ⟨hs, h2', h6 a (by rw [h3]; simp)⟩⟩
  obtain ⟨hF, hx, hk⟩ := key
  have hba : B a = none := h.off i a (by rw [hF]; simp)
  have gts : ∀ s, c[i]? = some s → gt c i = s := fun s => gt_of
  refine ⟨⟨F, fun b x q => ?_, h.bb, h.new, fun b x q nf => ?_, fun b q => ?_, by simpa using h.len, fun j s hj => ?_, fun j hj => h.out j (by simpa using hj), h.disj, h.off, fun b x q => ⟨?_, (h.pin b x q).2⟩⟩, hx⟩
  · have : b ≠ a := fun z => by
      rw [z, hba] at q
      cases q
    rw [upd_ne this]
    exact h.ex b x q
  · have : b ≠ a := fun z => by
      subst z
      rcases hk with ⟨_, g⟩ | ⟨_, _, g⟩
      · rw [g] at q
        cases q
      · rcases g with g | g
        · rw [g] at q
          cases q
        · exact nf i g
    rw [upd_ne this]
    exact h.frame b x q nf
  · by_cases hb : b = a
    · rw [hb, upd_same]
      simp
    · rw [upd_ne hb]
      exact h.keep b q
  · by_cases hji : j = i
    · subst hji
      rw [List.getElem?_set_self hic] at hj
      have ej := Option.some.inj hj
      refine ⟨_, hv, ?_⟩
      rcases hk with ⟨hc, g⟩ | ⟨hc, g1, g2⟩
      · rw [gts _ hc] at ej
        subst ej
        refine ⟨a, rfl, ⟨hF, ys, upd_same, r⟩, fun b hb => ?_⟩
        rw [hF] at hb
        have : b = a := by simpa using hb
        rw [this]
        exact g
      · rw [gts _ hc] at ej
        subst ej
        refine ⟨a, rfl, g1, ⟨hF, ys, upd_same, r⟩, fun b hb => ?_⟩
        rw [hF] at hb
        have : b = a := by simpa using hb
        rw [this]
        exact g2
    · rw [List.getElem?_set_ne (Ne.symm hji)] at hj
      obtain ⟨x, q1, q2⟩ := h.slots j s hj
      refine ⟨x, q1, q2.mono (Same.refl B) fun b hb => ?_⟩
      have : b ≠ a := fun z => h.disj j i hji b hb (by rw [hF, z]; simp)
      rw [upd_ne this]
  · have : b ≠ a := fun z => (h.pin b x q).2.2 i (by rw [hF, z]; simp)
    rw [upd_ne this]
    exact (h.pin b x q).1
theorem Conc.same (h : Conc K PL G B c σ H) : Same B H := let ⟨_, h⟩ := h; h.ex
theorem Conc.len (h : Conc K PL G B c σ H) : c.length = σ.length := let ⟨_, h⟩ := h; h.len
theorem Conc.getDat {i : Nat} {d : Dt} (h : Conc K PL G B c σ H) (hs : gt c i = .dat d) : ∃ v, σ[i]? = some (some v) ∧ Rep K B d v := by
  obtain ⟨F, h⟩ := h
  obtain ⟨o, h1, _, v, h2, h3⟩ := h.slots i _ (gt_get hs (by simp))
  exact ⟨v, by rw [h1, h2], h3⟩
theorem Conc.getOb {i : Nat} {o : Ob} (h : Conc K PL G B c σ H) (hs : c[i]? = some (.own o) ∨ c[i]? = some (.arg o)) : ∃ a fp, σ[i]? = some (some (.ref a)) ∧ RepO K PL B H o a fp := by
  obtain ⟨F, h⟩ := h
  rcases hs with hs | hs
  · obtain ⟨x, h1, a, h2, h3, _⟩ := h.slots i _ hs
    exact ⟨a, _, by rw [h1, h2], h3⟩
  · obtain ⟨x, h1, a, h2, _, h3, _⟩ := h.slots i _ hs
    exact ⟨a, _, by rw [h1, h2], h3⟩
end
end Cl

namespace Cl
open PySem PySem.Spec PyProof.Rows L2

/-- two ways by a bool -/
def br (b : Bool) (A B : Prop) : Prop := match b with
  | true => A
  | false => B
theorem br_true {A B : Prop} : br true A B = A := rfl
theorem br_false {A B : Prop} : br false A B = B := rfl
theorem br_not {b : Bool} {A B : Prop} : br (!b) A B = br b B A := by cases b <;> rfl
theorem br_dec {p : Prop} [Decidable p] {A B : Prop} : br (decide p) A B = ((p → A) ∧ (¬ p → B)) := by
  by_cases h : p
  · rw [decide_eq_true h]
    simp [br, h]
  · rw [decide_eq_false h]
    simp [br, h]
theorem br_intro {b : Bool} {A B : Prop} (h1 : b = true → A) (h2 : b = false → B) : br b A B := by
  cases b with
  | true => exact h1 rfl
  | false => exact h2 rfl
/-! ### what an expression gives -/
inductive Res where
  | dat (d : Dt)
  | sl (i : Nat)
  | new (o : Ob)
def CR (K : PySem.W.Frag) (PL : PoolP) (G : Ent) (B : Hp) (c : CEnv) (σ : L2.St) (H : Hp) : Res → V → Prop
  | .dat d, v => Conc K PL G B c σ H ∧ Rep K B d v
  | .sl i, v => Conc K PL G B c σ H ∧ σ[i]? = some (some v)
  | .new o, v => Conc K PL G B (c ++ [.own o]) (σ ++ [some v]) H
abbrev DE := CEnv → (Res → CEnv → Prop) → Prop
abbrev DT := CEnv → (Bool → CEnv → Prop) → Prop
abbrev DA := CEnv → (List Res → CEnv → Prop) → Prop
structure CEnds where
  nx : CEnv → Prop
  rt : Res → CEnv → Prop
  bk : CEnv → Prop := fun _ => False
  ct : CEnv → Prop := fun _ => False
abbrev DS := CEnds → CEnv → Prop
def lE (K : PySem.W.Frag) (PL : PoolP) (de : DE) : TE := fun σ H Q => ∃ G B c Qd, Conc K PL G B c σ H ∧ de c Qd ∧ ∀ r c' B' H' v, Qd r c' → Same B B' → CR K PL G B' c' σ H' r v → Q v H'
def lT (K : PySem.W.Frag) (PL : PoolP) (dt : DT) : TT := fun σ H Q => ∃ G B c Qd, Conc K PL G B c σ H ∧ dt c Qd ∧ ∀ b c' B' H', Qd b c' → Same B B' → Conc K PL G B' c' σ H' → Q b H'
/-- what stays of a result while other things are reckoned -/
def Held (K : PySem.W.Frag) (B : Hp) (σ : L2.St) : Res → V → Prop
  | .dat d, v => Rep K B d v
  | .sl i, v => σ[i]? = some (some v)
  | .new _, _ => True
def HeldL (K : PySem.W.Frag) (B : Hp) (σ : L2.St) : List Res → List V → Prop
  | [], vs => vs = []
  | r :: rs, vs => ∃ v ws, vs = v :: ws ∧ Held K B σ r v ∧ HeldL K B σ rs ws
def lA (K : PySem.W.Frag) (PL : PoolP) (da : DA) : TA := fun σ H Q => ∃ G B c Qd, Conc K PL G B c σ H ∧ da c Qd ∧ ∀ rs c' B' H' vs, Qd rs c' → Same B B' → Conc K PL G B' c' σ H' → HeldL K B' σ rs vs → Q vs H'
def lS (K : PySem.W.Frag) (PL : PoolP) (ds : DS) : TS := fun D σ H => ∃ G B c E, Conc K PL G B c σ H ∧ ds E c ∧ (∀ c' B' σ' H', E.nx c' → Same B B' → Conc K PL G B' c' σ' H' → D.nx σ' H') ∧
  (∀ r c' B' σ' H' v, E.rt r c' → CR K PL G B' c' σ' H' r v → D.rt v H') ∧ (∀ c' B' σ' H', E.bk c' → Same B B' → Conc K PL G B' c' σ' H' → D.bk σ' H') ∧ (∀ c' B' σ' H', E.ct c' → Same B B' → Conc K PL G B' c' σ' H' → D.ct σ' H')
structure QE (X : Cx) (PL : PoolP) (e : Expr) (de : DE) : Prop where
  pe : PE X e (lE X.K PL de)
structure QT (X : Cx) (PL : PoolP) (e : Expr) (dt : DT) : Prop where
  pt : PT X e (lT X.K PL dt)
structure QW (X : Cx) (PL : PoolP) (e : Expr) (dt : DT) : Prop where
  pw : PW X e (lT X.K PL dt)
structure QA (X : Cx) (PL : PoolP) (es : List Expr) (da : DA) : Prop where
  pa : PA X es (lA X.K PL da)
structure QS (X : Cx) (PL : PoolP) (st : Stmt) (ds : DS) : Prop where
  ps : PS X st (lS X.K PL ds)
structure QSs (X : Cx) (PL : PoolP) (st : List Stmt) (ds : DS) : Prop where
  pss : PSs X st (lS X.K PL ds)

theorem PE.weak {X : Cx} {e : Expr} {t t' : TE} (h : PE X e t) (hw : ∀ σ H Q, t' σ H Q → t σ H Q) : PE X e t' := ⟨fun pins s σ H Q I q => h.run pins s σ H Q I (hw _ _ _ q)⟩
theorem PT.weak {X : Cx} {e : Expr} {t t' : TT} (h : PT X e t) (hw : ∀ σ H Q, t' σ H Q → t σ H Q) : PT X e t' := ⟨fun pins s σ H Q I q => h.run pins s σ H Q I (hw _ _ _ q)⟩
theorem PW.weak {X : Cx} {e : Expr} {t t' : TT} (h : PW X e t) (hw : ∀ σ H Q, t' σ H Q → t σ H Q) : PW X e t' := ⟨fun wh pins s σ H Q I q => h.run wh pins s σ H Q I (hw _ _ _ q)⟩
theorem PA.weak {X : Cx} {e : List Expr} {t t' : TA} (h : PA X e t) (hw : ∀ σ H Q, t' σ H Q → t σ H Q) : PA X e t' := ⟨fun pos pins s σ H Q I q => h.run pos pins s σ H Q I (hw _ _ _ q)⟩
theorem PS.weak {X : Cx} {e : Stmt} {t t' : TS} (h : PS X e t) (hw : ∀ D σ H, t' D σ H → t D σ H) : PS X e t' := ⟨fun pins s σ H D I q => h.run pins s σ H D I (hw _ _ _ q)⟩
theorem PSs.weak {X : Cx} {e : List Stmt} {t t' : TS} (h : PSs X e t) (hw : ∀ D σ H, t' D σ H → t D σ H) : PSs X e t' := ⟨fun pins s σ H D I q => h.run pins s σ H D I (hw _ _ _ q)⟩

/-! ### results looked at -/
/-- a new list that waits becomes plain data -/
def hd : Res → Res
  | .new (.lst l) => .dat (.lst l)
  | r => r
/-- data as it stands now -/
def vw : Res → CEnv → Option Dt
  | .dat d, _ => some d
  | .sl i, c => match gt c i with
    | .dat d => some d
    | .own (.lst l) => some (.lst l)
    | .arg (.lst l) => some (.lst l)
    | _ => none
  | .new _, _ => none
def RepH (K : PySem.W.Frag) (B H : Hp) : Dt → V → Prop
  | .non, v => v = .non
  | .bl b, v => v = .bl b
  | .int i, v => v = .int i
  | .str s, v => v = .str (S s)
  | .tup l, v => ∃ a xs, v = .ref a ∧ SqT K B a xs ∧ RepL K B l xs
  | .lst l, v => ∃ a xs, v = .ref a ∧ H a = some (.lst xs) ∧ RepL K B l xs
  | .frz l, v => ∃ a xs, v = .ref a ∧ SqL K B a xs ∧ RepL K B l xs
section
variable {K : PySem.W.Frag} {PL : PoolP} {G : Ent} {B B' : Hp} {c c' : CEnv} {σ : L2.St} {H H' : Hp}
theorem Rep.toH {d : Dt} {v : V} (e : Same B H) (h : Rep K B d v) : RepH K B H d v := by
  cases d with
  | tup l =>
    unfold Rep at h
    obtain ⟨a, xs, h1, h2, h3⟩ := h
    exact ⟨a, xs, h1, h2, h3⟩
  | lst l =>
    unfold Rep at h
    obtain ⟨a, xs, h1, h2, h3⟩ := h
    exact ⟨a, xs, h1, e _ _ h2, h3⟩
  | frz l =>
    unfold Rep at h
    obtain ⟨a, xs, h1, h2, h3⟩ := h
    exact ⟨a, xs, h1, h2, h3⟩
  | _ => unfold Rep at h; exact h
theorem CR.conc {r : Res} {v : V} (h : CR K PL G B c σ H r v) : Conc K PL G B c σ H := by
  cases r with
  | dat d => exact h.1
  | sl i => exact h.1
  | new o => exact Conc.pop h
theorem CR.hold {r : Res} {v : V} (h : CR K PL G B c σ H r v) : ∃ B', Same B B' ∧ Conc K PL G B' c σ H ∧ Held K B' σ (hd r) v := by
  cases r with
  | dat d => exact ⟨B, Same.refl B, h.1, h.2⟩
  | sl i => exact ⟨B, Same.refl B, h.1, h.2⟩
  | new o =>
    cases o with
    | lst l =>
      obtain ⟨B', h1, h2, h3⟩ := Conc.freezeLast h
      exact ⟨B', h1, h2, h3⟩
    | pool => exact ⟨B, Same.refl B, Conc.pop h, trivial⟩
theorem Held.mono {r : Res} {v : V} (e : Same B B') (h : Held K B σ r v) : Held K B' σ r v := by
  cases r with
  | dat d => exact Rep.mono e h
  | sl i => exact h
  | new o => trivial
theorem HeldL.mono (e : Same B B') : ∀ {rs : List Res} {vs : List V}, HeldL K B σ rs vs → HeldL K B' σ rs vs
  | [], _, h => h
  | r :: rs, vs, h => by
    obtain ⟨v, ws, h1, h2, h3⟩ := h
    exact ⟨v, ws, h1, h2.mono e, HeldL.mono e h3⟩
theorem vw_ok {r : Res} {v : V} {d : Dt} (h : Conc K PL G B c σ H) (hh : Held K B σ r v) (hv : vw r c = some d) : RepH K B H d v := by
  cases r with
  | dat d' =>
    have e : d' = d := Option.some.inj hv
    subst e
    exact Rep.toH h.same hh
  | sl i =>
    have hs : σ[i]? = some (some v) := hh
    cases q : gt c i with
    | no => simp only [vw, q] at hv; cases hv
    | dat d' =>
      simp only [vw, q] at hv
      have e : d' = d := Option.some.inj hv
      subst e
      obtain ⟨v', h1, h2⟩ := h.getDat q
      rw [hs] at h1
      cases h1
      exact h2.toH h.same
    | own o =>
      cases o with
      | lst l =>
        simp only [vw, q] at hv
        have e : Dt.lst l = d := Option.some.inj hv
        subst e
        obtain ⟨a, fp, h1, h2, xs, h3, h4⟩ := h.getOb (.inl (gt_get q (by simp)))
        rw [hs] at h1
        cases h1
        exact ⟨a, xs, rfl, h3, h4⟩
      | pool => simp only [vw, q] at hv; cases hv
    | arg o =>
      cases o with
      | lst l =>
        simp only [vw, q] at hv
        have e : Dt.lst l = d := Option.some.inj hv
        subst e
        obtain ⟨a, fp, h1, h2, xs, h3, h4⟩ := h.getOb (.inr (gt_get q (by simp)))
        rw [hs] at h1
        cases h1
        exact ⟨a, xs, rfl, h3, h4⟩
      | pool => simp only [vw, q] at hv; cases hv
  | new o => cases hv
/-- made plain data for good -/
def asD (r : Res) (c : CEnv) (k : Dt → CEnv → Prop) : Prop := match r with
  | .dat d => k d c
  | .new (.lst l) => k (.lst l) c
  | .new .pool => False
  | .sl i => match gt c i with
    | .own (.lst l) => k (.lst l) (c.set i (.dat (.lst l)))
    | .dat d => k d c
    | _ => False
theorem asD_ok {r : Res} {v : V} {k : Dt → CEnv → Prop} (h : CR K PL G B c σ H r v) (hk : asD r c k) : ∃ B' c' d, Same B B' ∧ Conc K PL G B' c' σ H ∧ Rep K B' d v ∧ k d c' := by
  cases r with
  | dat d => exact ⟨B, c, d, Same.refl B, h.1, h.2, hk⟩
  | new o =>
    cases o with
    | lst l =>
      obtain ⟨B', h1, h2, h3⟩ := Conc.freezeLast h
      exact ⟨B', c, _, h1, h2, h3, hk⟩
    | pool => exact hk.elim
  | sl i =>
    obtain ⟨h1, h2⟩ := h
    unfold asD at hk
    cases q : gt c i with
    | no => simp only [q] at hk
    | dat d =>
      simp only [q] at hk
      obtain ⟨v', e1, e2⟩ := h1.getDat q
      rw [h2] at e1
      cases e1
      exact ⟨B, c, d, Same.refl B, h1, e2, hk⟩
    | own o =>
      cases o with
      | lst l =>
        simp only [q] at hk
        obtain ⟨B', e1, e2, e3⟩ := h1.freezeAt (gt_get q (by simp)) h2
        exact ⟨B', _, _, e1, e2, e3, hk⟩
      | pool => simp only [q] at hk
    | arg o => simp only [q] at hk
end

/-! ### names and constants -/
section
variable {X : Cx} {PL : PoolP}
def dVar (i : Nat) : DE := fun c Q => match gt c i with
  | .dat d => Q (.dat d) c
  | .own _ => Q (.sl i) c
  | .arg _ => Q (.sl i) c
  | .no => False
theorem q_of {e : Expr} {t : TE} {de : DE} (h : PE X e t) (hw : ∀ G B c σ H Qd Q, Conc X.K PL G B c σ H → de c Qd → (∀ r c' B' H' v, Qd r c' → Same B B' → CR X.K PL G B' c' σ H' r v → Q v H') → t σ H Q) : QE X PL e de :=
  ⟨PE.weak h fun σ H Q ⟨G, B, c, Qd, h1, h2, h3⟩ => hw G B c σ H Qd Q h1 h2 h3⟩
theorem qe_var {i : Nat} {x : Str} {pos : Pos} (h : PE X (.Name x pos) (tVar i)) : QE X PL (.Name x pos) (dVar i) := by
  refine q_of h fun G B c σ H Qd Q hc hd hq => ?_
  unfold dVar at hd
  cases q : gt c i with
  | no => simp only [q] at hd
  | dat d =>
    simp only [q] at hd
    obtain ⟨v, h1, h2⟩ := hc.getDat q
    exact ⟨v, h1, hq _ _ B H v hd (Same.refl B) ⟨hc, h2⟩⟩
  | own o =>
    simp only [q] at hd
    obtain ⟨a, fp, h1, h2⟩ := hc.getOb (.inl (gt_get q (by simp)))
    exact ⟨_, h1, hq _ _ B H _ hd (Same.refl B) ⟨hc, h1⟩⟩
  | arg o =>
    simp only [q] at hd
    obtain ⟨a, fp, h1, h2⟩ := hc.getOb (.inr (gt_get q (by simp)))
    exact ⟨_, h1, hq _ _ B H _ hd (Same.refl B) ⟨hc, h1⟩⟩
def dC (d : Dt) : DE := fun c Q => Q (.dat d) c
theorem qe_c {e : Expr} {d : Dt} {v : V} (h : PE X e (tC v)) (r : ∀ B, Rep X.K B d v) : QE X PL e (dC d) := by
  refine q_of h fun G B c σ H Qd Q hc hd hq => ?_
  exact hq _ _ B H v hd (Same.refl B) ⟨hc, r B⟩
theorem qe_int {i : Int} {j : Nat} {pos : Pos} : QE X PL (.Constant (.int i) j pos) (dC (.int i)) := qe_c pe_int fun _ => by unfold Rep; rfl
theorem qe_bl {b : Bool} {j : Nat} {pos : Pos} : QE X PL (.Constant (.bool b) j pos) (dC (.bl b)) := qe_c pe_bl fun _ => by unfold Rep; rfl
theorem qe_non {j : Nat} {pos : Pos} : QE X PL (.Constant .none j pos) (dC .non) := qe_c pe_non fun _ => by unfold Rep; rfl
theorem qe_str {x : Str} {j : Nat} {pos : Pos} (s : List Nat) (h : x = S s) : QE X PL (.Constant (.str x) j pos) (dC (.str s)) := by
  subst h
  exact qe_c pe_str fun _ => by unfold Rep; rfl
/-- a module's constant that is no object -/
theorem qe_glob {x : Str} {d : Dt} {v : V} {u : Value} {pos : Pos} (hg : Gl X x) (hm : X.mg x = some u) (r : RelV v u) (hr : ∀ B, Rep X.K B d v) (hd : (x == ("__debug__" : Str)) = false := by decide) : QE X PL (.Name x pos) (dC d) :=
  qe_c (pe_glob hg hm r hd) hr

/-! ### operators -/
abbrev OpF := Dt → Dt → (Res → Prop) → Prop
def OpD (K : PySem.W.Frag) (PL : PoolP) (r : R2) (f : OpF) : Prop := ∀ G B c σ H x y v u k (Q : VK), Conc K PL G B c σ H → RepH K B H x v → RepH K B H y u → f x y k →
  (∀ z w B' H', k z → Same B B' → CR K PL G B' c σ H' z w → Q w H') → r v u H Q
def on2 (r s : Res) (c : CEnv) (f : Dt → Dt → Prop) : Prop := match vw r c with
  | none => False
  | some x => match vw s c with
    | none => False
    | some y => f x y
def dBin (f : OpF) (da db : DE) : DE := fun c Q => da c fun r c1 => db c1 fun s c2 => on2 (hd r) (hd s) c2 fun x y => f x y fun z => Q z c2
theorem on2_ok {K : PySem.W.Frag} {PL : PoolP} {G : Ent} {B : Hp} {c : CEnv} {σ : L2.St} {H : Hp} {r s : Res} {v u : V} {f : Dt → Dt → Prop} (hc : Conc K PL G B c σ H) (h1 : Held K B σ r v) (h2 : Held K B σ s u) (h : on2 r s c f) : ∃ x y, RepH K B H x v ∧ RepH K B H y u ∧ f x y := by
  unfold on2 at h
  cases q1 : vw r c with
  | none => simp only [q1] at h
  | some x =>
    simp only [q1] at h
    cases q2 : vw s c with
    | none => simp only [q2] at h
    | some y =>
      simp only [q2] at h
      exact ⟨x, y, vw_ok hc h1 q1, vw_ok hc h2 q2, h⟩
theorem bin_ok {r : R2} {f : OpF} (ho : OpD X.K PL r f) {da db : DE} {G : Ent} {B : Hp} {c : CEnv} {σ : L2.St} {H : Hp} {Qd : Res → CEnv → Prop} {Q : VK} (hc : Conc X.K PL G B c σ H) (hd' : dBin f da db c Qd)
    (hq : ∀ r c' B' H' v, Qd r c' → Same B B' → CR X.K PL G B' c' σ H' r v → Q v H') : tOp r (lE X.K PL da) (lE X.K PL db) σ H Q := by
  refine ⟨G, B, c, _, hc, hd', fun r1 c1 B1 H1 v h1 e1 cr1 => ?_⟩
  obtain ⟨B2, e2, hc2, hh⟩ := cr1.hold
  refine ⟨G, B2, c1, _, hc2, h1, fun r2 c2 B3 H2 u h2 e3 cr2 => ?_⟩
  obtain ⟨B4, e4, hc4, hh2⟩ := cr2.hold
  obtain ⟨x, y, rx, ry, hf⟩ := on2_ok hc4 (hh.mono (e3.trans e4)) hh2 h2
  exact ho G B4 c2 σ H2 x y v u _ Q hc4 rx ry hf fun z w B' H' hk e' cr => hq z c2 B' H' w hk (((e1.trans e2).trans e3).trans (e4.trans e')) cr
theorem qe_op {a b : Expr} {op : Operator} {pos : Pos} {r : R2} {f : OpF} {da db : DE} (ho : OpR X (binaryOp op) r) (hd' : OpD X.K PL r f) (ha : QE X PL a da) (hb : QE X PL b db) : QE X PL (.BinOp a op b pos) (dBin f da db) :=
  q_of (pe_op ho ha.pe hb.pe) fun _ _ _ _ _ _ _ hc hd2 hq => bin_ok hd' hc hd2 hq
theorem qe_ix {a b : Expr} {pos : Pos} {r : R2} {f : OpF} {da db : DE} (ho : IxR X r) (hd' : OpD X.K PL r f) (ha : QE X PL a da) (hb : QE X PL b db) (hs : PlainIx b) : QE X PL (.Subscript a b pos) (dBin f da db) :=
  q_of (pe_ix ho ha.pe hb.pe hs) fun _ _ _ _ _ _ _ hc hd2 hq => bin_ok hd' hc hd2 hq
theorem qe_cmp {a b : Expr} {op : CmpOp} {pos : Pos} {r : R2} {f : OpF} {da db : DE} (ho : OpR X (compareOp op) r) (hd' : OpD X.K PL r f) (ha : QE X PL a da) (hb : QE X PL b db) (h1 : behindInMarks op b = false) : QE X PL (.Compare a [op] [b] pos) (dBin f da db) :=
  q_of (pe_cmpR ho ha.pe hb.pe h1) fun _ _ _ _ _ _ _ hc hd2 hq => bin_ok hd' hc hd2 hq
theorem OpR.or {f : Value → Value → Sem Value} {r r' : R2} (h : OpR X f r) (h' : OpR X f r') : OpR X f (fun x y H Q => r x y H Q ∨ r' x y H Q) := by
  intro pins s σ H x y v u Q I rx ry hw
  rcases hw with hw | hw
  · exact h pins s σ H x y v u Q I rx ry hw
  · exact h' pins s σ H x y v u Q I rx ry hw
end
end Cl

namespace Cl
open PySem PySem.Spec PyProof.Rows L2

theorem sz7 {n : Nat} (h : n ≤ 10000000) : n ≤ sizeLine := Nat.le_trans h (by rw [sizeLine_eq]; decide)
theorem sz7l {n : Nat} (h : n < 10000000) : n < sizeLine := Nat.lt_of_lt_of_le h (by rw [sizeLine_eq]; decide)
theorem S_app (s t : List Nat) : S s ++ S t = S (s ++ t) := by
  apply Str.ext'
  show (S s).cps ++ (S t).cps = (S (s ++ t)).cps
  simp [S]

/-! ### operators on data -/
section
variable {K : PySem.W.Frag} {PL : PoolP}
theorem opd_or {r r' : R2} {f g : OpF} (h : OpD K PL r f) (h' : OpD K PL r' g) : OpD K PL (fun x y H Q => r x y H Q ∨ r' x y H Q) (fun x y k => f x y k ∨ g x y k) := by
  intro G B c σ H x y v u k Q hc rx ry hf hq
  rcases hf with hf | hf
  · exact .inl (h G B c σ H x y v u k Q hc rx ry hf hq)
  · exact .inr (h' G B c σ H x y v u k Q hc rx ry hf hq)
/-- two ints in, a value out -/
def fI (C : Int → Int → Prop) (g : Int → Int → Dt) : OpF
  | .int i, .int j, k => C i j ∧ k (.dat (g i j))
  | _, _, _ => False
theorem opd_I {C D : Int → Int → Prop} {g : Int → Int → Int} (hD : ∀ i j, D i j → C i j) : OpD K PL (rI C fun i j => .int (g i j)) (fI D fun i j => .int (g i j)) := by
  intro G B c σ H x y v u k Q hc rx ry hf hq
  cases x with
  | int i =>
    cases y with
    | int j =>
      obtain ⟨h1, h2⟩ := hf
      exact ⟨i, j, rx, ry, hD i j h1, hq _ _ B H h2 (Same.refl B) ⟨hc, by unfold Rep; rfl⟩⟩
    | _ => exact hf.elim
  | _ => exact hf.elim
theorem opd_I0 {g : Int → Int → Int} : OpD K PL (rI0 fun i j => .int (g i j)) (fI (fun _ _ => True) fun i j => .int (g i j)) := by
  intro G B c σ H x y v u k Q hc rx ry hf hq
  cases x with
  | int i =>
    cases y with
    | int j =>
      obtain ⟨h1, h2⟩ := hf
      exact ⟨i, j, rx, ry, hq _ _ B H h2 (Same.refl B) ⟨hc, by unfold Rep; rfl⟩⟩
    | _ => exact hf.elim
  | _ => exact hf.elim
theorem opd_B0 {g : Int → Int → Bool} : OpD K PL (rI0 fun i j => .bl (g i j)) (fI (fun _ _ => True) fun i j => .bl (g i j)) := by
  intro G B c σ H x y v u k Q hc rx ry hf hq
  cases x with
  | int i =>
    cases y with
    | int j =>
      obtain ⟨h1, h2⟩ := hf
      exact ⟨i, j, rx, ry, hq _ _ B H h2 (Same.refl B) ⟨hc, by unfold Rep; rfl⟩⟩
    | _ => exact hf.elim
  | _ => exact hf.elim
theorem conc_lst {G : Ent} {B : Hp} {c : CEnv} {σ : L2.St} {H : Hp} {p : Addr} {l : List Dt} {xs : List V} (h : Conc K PL G B c σ H) (hp : H p = none) (r : RepL K B l xs) : CR K PL G B c σ (upd H p (.lst xs)) (.new (.lst l)) (.ref p) := Conc.newL h hp r
theorem conc_tup {G : Ent} {B : Hp} {c : CEnv} {σ : L2.St} {H : Hp} {p : Addr} {l : List Dt} {xs : List V} (h : Conc K PL G B c σ H) (hp : H p = none) (r : RepL K B l xs) :
    Same B (upd B p (.tup xs)) ∧ CR K PL G (upd B p (.tup xs)) c σ (upd H p (.tup xs)) (.dat (.tup l)) (.ref p) := by
  obtain ⟨h1, h2, h3⟩ := h.tup hp r
  exact ⟨h2, h1, h3⟩
/-- + -/
def fAdd : OpF
  | .int i, .int j, k => k (.dat (.int (i + j)))
  | .str s, .str t, k => s.length + t.length ≤ 10000000 ∧ k (.dat (.str (s ++ t)))
  | .lst l, .lst m, k => l.length + m.length ≤ 10000000 ∧ k (.new (.lst (l ++ m)))
  | .tup l, .tup m, k => l ≠ [] ∧ l.length + m.length ≤ 10000000 ∧ k (.dat (.tup (l ++ m)))
  | _, _, _ => False
def rAdd (K : PySem.W.Frag) : R2 := fun x y H Q => rI0 (fun i j => .int (i + j)) x y H Q ∨ (∃ i j, x = .str i ∧ y = .str j ∧ i.length + j.length ≤ sizeLine ∧ Q (.str (i ++ j)) H) ∨ rCat x y H Q ∨ rCatT K x y H Q
theorem opr_add {X : Cx} : OpR X (binaryOp .Add) (rAdd X.K) := OpR.or op_add (OpR.or op_add_str (OpR.or op_cat op_catT))
theorem opd_add : OpD K PL (rAdd K) fAdd := by
  intro G B c σ H x y v u k Q hc rx ry hf hq
  cases x with
  | int i =>
    cases y with
    | int j => exact .inl ⟨i, j, rx, ry, hq _ _ B H hf (Same.refl B) ⟨hc, by unfold Rep; rfl⟩⟩
    | _ => exact hf.elim
  | str s =>
    cases y with
    | str t =>
      obtain ⟨h1, h2⟩ := hf
      refine .inr (.inl ⟨S s, S t, rx, ry, by rw [S_len, S_len]; exact sz7 h1, hq _ _ B H h2 (Same.refl B) ⟨hc, by unfold Rep; rw [S_app]⟩⟩)
    | _ => exact hf.elim
  | lst l =>
    cases y with
    | lst m =>
      obtain ⟨h1, h2⟩ := hf
      obtain ⟨a, xs, rfl, e1, e2⟩ := rx
      obtain ⟨b, ys, rfl, e3, e4⟩ := ry
      refine .inr (.inr (.inl ⟨a, b, xs, ys, rfl, rfl, e1, e3, by rw [e2.length, e4.length]; exact sz7 h1, fun p hp => hq _ _ B _ h2 (Same.refl B) (conc_lst hc hp (e2.app e4))⟩))
    | _ => exact hf.elim
  | tup l =>
    cases y with
    | tup m =>
      obtain ⟨h0, h1, h2⟩ := hf
      obtain ⟨a, xs, rfl, e1, e2⟩ := rx
      obtain ⟨b, ys, rfl, e3, e4⟩ := ry
      refine .inr (.inr (.inr ⟨a, b, xs, ys, rfl, rfl, sameT hc.same e1, sameT hc.same e3, fun z => h0 ?_, by rw [e2.length, e4.length]; exact sz7 h1, fun z => ?_, fun z p hp => ?_⟩))
      · have := e2.length
        rw [z] at this
        exact List.length_eq_zero_iff.mp this.symm
      · have hm : m = [] := by
          have := e4.length
          rw [z] at this
          exact List.length_eq_zero_iff.mp this.symm
        subst hm
        subst z
        rw [List.append_nil] at h2
        exact hq _ _ B H h2 (Same.refl B) ⟨hc, by unfold Rep; exact ⟨a, xs, rfl, e1, e2⟩⟩
      · obtain ⟨h3, h4⟩ := conc_tup hc hp (e2.app e4)
        exact hq _ _ _ _ h2 h3 h4
    | _ => exact hf.elim
  | _ => exact hf.elim

/-- // and % by a positive number, shifts, bits -/
def CDiv' (_ j : Int) : Prop := 0 < j ∧ j < 1073741824
def fDiv : OpF := fI (fun _ j => 0 < j ∧ j < 1073741824) fun i j => .int (i / j)
theorem opd_div : OpD K PL (rI CDiv fun i j => .int (i / j)) fDiv := opd_I fun _ _ h => h
def fMod : OpF := fI (fun _ j => 0 < j) fun i j => .int (i % j)
theorem opd_mod : OpD K PL (rI (fun _ j => 0 < j) fun i j => .int (i % j)) fMod := opd_I fun _ _ h => h
def fSub : OpF := fI (fun _ _ => True) fun i j => .int (i - j)
theorem opd_sub : OpD K PL (rI0 fun i j => .int (i - j)) fSub := opd_I0
def fPow : OpF := fI CPow fun i j => .int (i ^ j.toNat)
theorem opd_pow : OpD K PL (rI CPow fun i j => .int (i ^ j.toNat)) fPow := opd_I fun _ _ h => h
def fShl : OpF := fI CPow fun i j => .int (i * 2 ^ j.toNat)
theorem opd_shl : OpD K PL (rI CPow fun i j => .int (i * 2 ^ j.toNat)) fShl := opd_I fun _ _ h => h
def fShr : OpF := fI (fun _ j => 0 ≤ j) fun i j => .int (i / 2 ^ j.toNat)
theorem opd_shr : OpD K PL (rI (fun _ j => 0 ≤ j) fun i j => .int (i / 2 ^ j.toNat)) fShr := opd_I fun _ _ h => h
def fAnd : OpF := fI (fun _ _ => True) fun i j => .int (Builtin.bitAnd i j)
theorem opd_and : OpD K PL (rI0 fun i j => .int (Builtin.bitAnd i j)) fAnd := opd_I0
def fOr : OpF := fI (fun _ _ => True) fun i j => .int (Builtin.bitOr i j)
theorem opd_or' : OpD K PL (rI0 fun i j => .int (Builtin.bitOr i j)) fOr := opd_I0
def fXor : OpF := fI (fun _ _ => True) fun i j => .int (Builtin.bitXor i j)
theorem opd_xor : OpD K PL (rI0 fun i j => .int (Builtin.bitXor i j)) fXor := opd_I0
/-- * of ints, of a list, of a text -/
def fMul : OpF
  | .int i, .int j, k => ((-(2 ^ 64) < i ∧ i < 2 ^ 64) ∨ (-(2 ^ 64) < j ∧ j < 2 ^ 64)) ∧ k (.dat (.int (i * j)))
  | .lst l, .int n, k => (n ≤ 10000000 ∧ -10000000 ≤ n ∧ l.length * n.toNat ≤ 10000000) ∧ k (.new (.lst (List.replicate n.toNat l).flatten))
  | .str s, .int n, k => (n ≤ 10000000 ∧ -10000000 ≤ n ∧ s.length * n.toNat ≤ 10000000) ∧ k (.dat (.str (List.replicate n.toNat s).flatten))
  | _, _, _ => False
def rMulS : R2 := fun x y H Q => ∃ z n, x = .str z ∧ y = .int n ∧ MulOk z n ∧ Q (.str (Txt.mul z n)) H
theorem opr_mulS {X : Cx} : OpR X (binaryOp .Mult) rMulS := by
  intro pins s σ H x y v u Q I rx ry h
  obtain ⟨z, n, rfl, rfl, h1, q⟩ := h
  obtain ⟨t, rfl⟩ := rx
  obtain ⟨t', rfl⟩ := ry
  exact SB.mul h1 fun t2 k => ⟨.str _, H, I.tok _, ⟨_, rfl⟩, q⟩
def rMul : R2 := fun x y H Q => rI CMul (fun i j => .int (i * j)) x y H Q ∨ rRep x y H Q ∨ rMulS x y H Q
theorem opr_mul {X : Cx} : OpR X (binaryOp .Mult) rMul := OpR.or op_mul (OpR.or op_rep opr_mulS)
theorem foldl_arr (x : Array Nat) : ∀ (n : Nat) (a : Array Nat), ((List.replicate n x).foldl (· ++ ·) a) = a ++ ((List.replicate n x.toList).flatten).toArray
  | 0, a => by simp
  | n + 1, a => by
    rw [List.replicate_succ, List.foldl_cons, foldl_arr x n, List.replicate_succ, List.flatten_cons]
    rw [Array.append_assoc]
    congr 1
    apply Array.ext'
    simp
theorem mul_S (s : List Nat) (n : Int) : Txt.mul (S s) n = S (List.replicate n.toNat s).flatten := by
  unfold Txt.mul
  by_cases h : n < 1
  · rw [if_pos h]
    have : n.toNat = 0 := by omega
    rw [this]
    rfl
  · rw [if_neg h]
    by_cases h2 : (n == 1 || (S s).length == 0) = true
    · rw [if_pos h2]
      rw [Bool.or_eq_true] at h2
      rcases h2 with h2 | h2
      · have e : n = 1 := by simpa using h2
        subst e
        simp [S]
      · have e : s.length = 0 := by
          have : (S s).length = 0 := by simpa using h2
          rw [S_len] at this
          exact this
        have : s = [] := List.length_eq_zero_iff.mp e
        subst this
        simp [S]
    · rw [if_neg h2, foldl_arr]
      simp [S]
theorem mulOk_S {s : List Nat} {n : Int} (h : n ≤ 10000000 ∧ -10000000 ≤ n ∧ s.length * n.toNat ≤ 10000000) : MulOk (S s) n := by
  obtain ⟨h1, h2, h3⟩ := h
  refine ⟨?_, fun h4 _ => ?_, fun h4 _ => ?_⟩
  · rw [Bool.or_eq_false_iff]
    exact ⟨decide_eq_false (by omega), decide_eq_false (by omega)⟩
  · rw [S_len]
    intro h5
    have h6 : (s.length : Int) ≤ 10000000 := by
      have : s.length * 1 ≤ s.length * n.toNat := Nat.mul_le_mul_left _ (by omega)
      omega
    have h7 : (10000000 : Int) ≤ (2 ^ 63 - 1) / n := by
      apply Int.le_ediv_of_mul_le (by omega)
      have : (10000000 : Int) * n ≤ 10000000 * 10000000 := Int.mul_le_mul_of_nonneg_left h1 (by decide)
      omega
    omega
  · rw [S_len]
    unfold Builtin.Str.tooLong
    exact decide_eq_false (by have := sz7 h3; omega)
theorem opd_mul : OpD K PL rMul fMul := by
  intro G B c σ H x y v u k Q hc rx ry hf hq
  cases x with
  | int i =>
    cases y with
    | int j =>
      obtain ⟨h1, h2⟩ := hf
      exact .inl ⟨i, j, rx, ry, h1, hq _ _ B H h2 (Same.refl B) ⟨hc, by unfold Rep; rfl⟩⟩
    | _ => exact hf.elim
  | lst l =>
    cases y with
    | int n =>
      obtain ⟨⟨h1, h2, h3⟩, h4⟩ := hf
      obtain ⟨a, xs, rfl, e1, e2⟩ := rx
      refine .inr (.inl ⟨a, n, xs, rfl, ry, e1, by omega, by omega, by rw [e2.length]; exact sz7 h3, fun p hp => hq _ _ B _ h4 (Same.refl B) (conc_lst hc hp (e2.rep _))⟩)
    | _ => exact hf.elim
  | str s =>
    cases y with
    | int n =>
      obtain ⟨h1, h4⟩ := hf
      refine .inr (.inr ⟨S s, n, rx, ry, mulOk_S h1, hq _ _ B _ h4 (Same.refl B) ⟨hc, by unfold Rep; rw [mul_S]⟩⟩)
    | _ => exact hf.elim
  | _ => exact hf.elim

/-! ### comparisons -/
def fLt : OpF := fI (fun _ _ => True) fun i j => .bl (decide (i < j))
def fLe : OpF := fI (fun _ _ => True) fun i j => .bl (decide (i ≤ j))
def fGt : OpF := fI (fun _ _ => True) fun i j => .bl (decide (j < i))
def fGe : OpF := fI (fun _ _ => True) fun i j => .bl (decide (j ≤ i))
mutual
def toPy : Dt → PyData
  | .non => .none
  | .bl b => .bool b
  | .int i => .int i
  | .str s => .str (S s)
  | .tup l => .tuple (toPys l)
  | .lst l => .list (toPys l)
  | .frz l => .list (toPys l)
def toPys : List Dt → List PyData
  | [] => []
  | d :: r => toPy d :: toPys r
end
mutual
theorem Rep.dp {B H : Hp} (e : Same B H) : ∀ {d : Dt} {v : V}, Rep K B d v → Dp K H v (toPy d)
  | .non, v, h => by unfold Rep at h; subst h; unfold toPy; exact .non
  | .bl b, v, h => by unfold Rep at h; subst h; unfold toPy; exact .bl b
  | .int i, v, h => by unfold Rep at h; subst h; unfold toPy; exact .int i
  | .str s, v, h => by unfold Rep at h; subst h; unfold toPy; exact .str _
  | .tup l, v, h => by
    unfold Rep at h
    obtain ⟨a, xs, h1, h2, h3⟩ := h
    subst h1
    unfold toPy
    exact .tup (sameT e h2) (RepL.dp e h3)
  | .lst l, v, h => by
    unfold Rep at h
    obtain ⟨a, xs, h1, h2, h3⟩ := h
    subst h1
    unfold toPy
    exact .lst (.of (e _ _ h2)) (RepL.dp e h3)
  | .frz l, v, h => by
    unfold Rep at h
    obtain ⟨a, xs, h1, h2, h3⟩ := h
    subst h1
    unfold toPy
    exact .lst (e.seq h2) (RepL.dp e h3)
theorem RepL.dp {B H : Hp} (e : Same B H) : ∀ {l : List Dt} {xs : List V}, RepL K B l xs → DpAll K H xs (toPys l)
  | [], xs, h => by unfold RepL at h; subst h; unfold toPys; exact .nil
  | d :: r, xs, h => by
    unfold RepL at h
    obtain ⟨x, q, h1, h2, h3⟩ := h
    subst h1
    unfold toPys
    exact .cons (Rep.dp e h2) (RepL.dp e h3)
end
theorem RepH.dp {B H : Hp} (e : Same B H) {d : Dt} {v : V} (h : RepH K B H d v) : Dp K H v (toPy d) := by
  cases d with
  | lst l =>
    obtain ⟨a, xs, rfl, h2, h3⟩ := h
    unfold toPy
    exact .lst (.of h2) (h3.dp e)
  | tup l => exact Rep.dp e (by unfold Rep; exact h)
  | frz l => exact Rep.dp e (by unfold Rep; exact h)
  | _ => exact Rep.dp e (by unfold Rep; exact h)
/-- == as Python has it -/
def eqD (x y : Dt) : Bool := PyData.eqv (toPy x) (toPy y)
def shp (x : Dt) : Bool := SeqAt.shaped (toPy x)
theorem eqD_int (i j : Int) : eqD (.int i) (.int j) = decide (i = j) := by
  unfold eqD toPy PyData.eqv
  exact Bool.beq_eq_decide_eq i j
theorem eqD_bl (i j : Bool) : eqD (.bl i) (.bl j) = (i == j) := by
  unfold eqD toPy PyData.eqv
  rfl
theorem eqD_str (s t : List Nat) : eqD (.str s) (.str t) = decide (s = t) := by
  unfold eqD toPy PyData.eqv
  rw [Bool.eq_iff_iff]
  simp only [beq_iff_eq, decide_eq_true_eq]
  exact ⟨fun h => S_inj h, fun h => by rw [h]⟩
theorem shp_int (i : Int) : shp (.int i) = true := by unfold shp toPy; rfl
theorem shp_bl (i : Bool) : shp (.bl i) = true := by unfold shp toPy; rfl
theorem shp_non : shp .non = true := by unfold shp toPy; rfl
theorem shp_str (s : List Nat) (h : s.all (· < 1114112) = true) : shp (.str s) = true := by
  unfold shp toPy SeqAt.shaped
  rw [Bool.and_eq_true]
  refine ⟨?_, decide_eq_true (Nat.zero_le _)⟩
  show PyData.strOk (S s) = true
  unfold PyData.strOk S
  simpa using h
end
end Cl

namespace Cl
open PySem PySem.Spec PyProof.Rows L2

section
variable {K : PySem.W.Frag} {PL : PoolP}
/-! ### an item -/
def ixL (l : List Dt) (i : Int) (k : Res → Prop) : Prop := match atI l i with
  | some d => k (.dat d)
  | none => False
def fIx : OpF
  | .lst l, .int i, k => ixL l i k
  | .tup l, .int i, k => ixL l i k
  | .frz l, .int i, k => ixL l i k
  | .str s, .int i, k => s.length ≤ 10000000 ∧ (match atI s i with
    | some ch => k (.dat (.str [ch]))
    | none => False)
  | _, _, _ => False
theorem atI_map {B : Hp} {l : List Dt} {xs : List V} {i : Int} {d : Dt} (r : RepL K B l xs) (h : atI l i = some d) : ∃ v, atI xs i = some v ∧ Rep K B d v := by
  unfold atI at h ⊢
  rw [r.length]
  cases q : ixN l.length i with
  | none => rw [q] at h; cases h
  | some j =>
    rw [q] at h
    obtain ⟨v, h1, h2⟩ := r.get (show l[j]? = some d from h)
    exact ⟨v, h1, h2⟩
theorem opd_ix : OpD K PL (rIx K) fIx := by
  intro G B c σ H x y v u k Q hc rx ry hf hq
  have fin : ∀ {l : List Dt} {xs : List V} {i : Int}, RepL K B l xs → ixL l i k → ∃ w, atI xs i = some w ∧ Q w H := fun {l xs i} r h => by
    unfold ixL at h
    cases q : atI l i with
    | none => simp only [q] at h
    | some d =>
      simp only [q] at h
      obtain ⟨w, h1, h2⟩ := atI_map r q
      exact ⟨w, h1, hq _ _ B H h (Same.refl B) ⟨hc, h2⟩⟩
  cases x with
  | lst l =>
    cases y with
    | int i =>
      obtain ⟨a, xs, rfl, e1, e2⟩ := rx
      obtain ⟨w, h1, h2⟩ := fin e2 hf
      exact .inl ⟨a, xs, i, w, rfl, ry, .of e1, h1, h2⟩
    | _ => exact hf.elim
  | tup l =>
    cases y with
    | int i =>
      obtain ⟨a, xs, rfl, e1, e2⟩ := rx
      obtain ⟨w, h1, h2⟩ := fin e2 hf
      exact .inr (.inl ⟨a, xs, i, w, rfl, ry, sameT hc.same e1, h1, h2⟩)
    | _ => exact hf.elim
  | frz l =>
    cases y with
    | int i =>
      obtain ⟨a, xs, rfl, e1, e2⟩ := rx
      obtain ⟨w, h1, h2⟩ := fin e2 hf
      exact .inl ⟨a, xs, i, w, rfl, ry, hc.same.seq e1, h1, h2⟩
    | _ => exact hf.elim
  | str s =>
    cases y with
    | int i =>
      obtain ⟨h1, h2⟩ := hf
      cases q : atI s i with
      | none => simp only [q] at h2
      | some ch =>
        simp only [q] at h2
        exact .inr (.inr ⟨S s, i, ch, rx, ry, by rw [S_len]; exact sz7 h1, q, hq _ _ B H h2 (Same.refl B) ⟨hc, by unfold Rep; rfl⟩⟩)
    | _ => exact hf.elim
  | _ => exact hf.elim

/-! ### in -/
def flatD : Dt → Bool
  | .non => true
  | .bl _ => true
  | .int _ => true
  | .str _ => true
  | _ => false
theorem flat_rep {B : Hp} {d : Dt} {v : V} (h : Rep K B d v) (f : flatD d = true) : flatV v = true := by
  cases d with
  | non => unfold Rep at h; subst h; rfl
  | bl b => unfold Rep at h; subst h; rfl
  | int b => unfold Rep at h; subst h; rfl
  | str b => unfold Rep at h; subst h; rfl
  | _ => exact absurd (show false = true from f) Bool.false_ne_true
theorem flat_reps {B : Hp} : ∀ {l : List Dt} {xs : List V}, RepL K B l xs → l.all flatD = true → xs.all flatV = true
  | [], xs, h, _ => by unfold RepL at h; subst h; rfl
  | d :: r, xs, h, f => by
    unfold RepL at h
    obtain ⟨x, q, h1, h2, h3⟩ := h
    subst h1
    rw [List.all_cons, Bool.and_eq_true] at f
    rw [List.all_cons, Bool.and_eq_true]
    exact ⟨flat_rep h2 f.1, flat_reps h3 f.2⟩
theorem S_beq (a b : List Nat) : (S a == S b) = (a == b) := by
  rw [Bool.eq_iff_iff]
  simp only [beq_iff_eq]
  exact ⟨fun h => S_inj h, fun h => by rw [h]⟩
theorem eqV_rep {B : Hp} {d e : Dt} {v u : V} (h : Rep K B d v) (h' : Rep K B e u) (f : flatD d = true) (f' : flatD e = true) : eqV v u = eqD d e := by
  cases d with
  | non =>
    unfold Rep at h; subst h
    cases e with
    | non => unfold Rep at h'; subst h'; simp [eqV, eqD, toPy, PyData.eqv]
    | bl b => unfold Rep at h'; subst h'; simp [eqV, eqD, toPy, PyData.eqv]
    | int b => unfold Rep at h'; subst h'; simp [eqV, eqD, toPy, PyData.eqv]
    | str b => unfold Rep at h'; subst h'; simp [eqV, eqD, toPy, PyData.eqv]
    | _ => exact absurd (show false = true from f') Bool.false_ne_true
  | bl b =>
    unfold Rep at h; subst h
    cases e with
    | non => unfold Rep at h'; subst h'; simp [eqV, eqD, toPy, PyData.eqv]
    | bl b => unfold Rep at h'; subst h'; simp [eqV, eqD, toPy, PyData.eqv]
    | int b => unfold Rep at h'; subst h'; simp [eqV, eqD, toPy, PyData.eqv]
    | str b => unfold Rep at h'; subst h'; simp [eqV, eqD, toPy, PyData.eqv]
    | _ => exact absurd (show false = true from f') Bool.false_ne_true
  | int b =>
    unfold Rep at h; subst h
    cases e with
    | non => unfold Rep at h'; subst h'; simp [eqV, eqD, toPy, PyData.eqv]
    | bl b => unfold Rep at h'; subst h'; simp [eqV, eqD, toPy, PyData.eqv]
    | int b => unfold Rep at h'; subst h'; simp [eqV, eqD, toPy, PyData.eqv]
    | str b => unfold Rep at h'; subst h'; simp [eqV, eqD, toPy, PyData.eqv]
    | _ => exact absurd (show false = true from f') Bool.false_ne_true
  | str b =>
    unfold Rep at h; subst h
    cases e with
    | non => unfold Rep at h'; subst h'; simp [eqV, eqD, toPy, PyData.eqv]
    | bl b => unfold Rep at h'; subst h'; simp [eqV, eqD, toPy, PyData.eqv]
    | int b => unfold Rep at h'; subst h'; simp [eqV, eqD, toPy, PyData.eqv]
    | str b => unfold Rep at h'; subst h'; simp [eqV, eqD, toPy, PyData.eqv, S_beq]
    | _ => exact absurd (show false = true from f') Bool.false_ne_true
  | _ => exact absurd (show false = true from f) Bool.false_ne_true
theorem inV_rep {B : Hp} {d : Dt} {v : V} (h : Rep K B d v) (f : flatD d = true) : ∀ {l : List Dt} {xs : List V}, RepL K B l xs → l.all flatD = true → inV v xs = l.any fun y => eqD y d
  | [], xs, h', _ => by unfold RepL at h'; subst h'; rfl
  | e :: r, xs, h', f' => by
    unfold RepL at h'
    obtain ⟨x, q, h1, h2, h3⟩ := h'
    subst h1
    rw [List.all_cons, Bool.and_eq_true] at f'
    have ih := inV_rep h f h3 f'.2
    unfold inV at ih ⊢
    rw [List.any_cons, List.any_cons, ih, eqV_rep h2 h f'.1 f]
def one1 (s : List Nat) (k : Nat → Prop) : Prop := match s with
  | [ch] => k ch
  | _ => False
theorem one1_ok {s : List Nat} {k : Nat → Prop} (h : one1 s k) : ∃ ch, s = [ch] ∧ k ch := by
  match s, h with
  | [ch], h => exact ⟨ch, rfl, h⟩
def fIn (neg : Bool) : OpF
  | .str s, .str t, k => one1 s fun ch => k (.dat (.bl (decide (ch ∈ t) != neg)))
  | x, .lst l, k => (flatD x = true ∧ l.all flatD = true) ∧ k (.dat (.bl ((l.any fun y => eqD y x) != neg)))
  | x, .tup l, k => (flatD x = true ∧ l.all flatD = true) ∧ k (.dat (.bl ((l.any fun y => eqD y x) != neg)))
  | _, _, _ => False
def rInS (neg : Bool) : R2 := fun x y H Q => ∃ (c : Nat) (z : Str), x = .str ⟨#[c]⟩ ∧ y = .str z ∧ Q (.bl (decide (c ∈ z.cps.toList) != neg)) H
theorem opr_in {X : Cx} : OpR X (compareOp .In) (fun x y H Q => rInS false x y H Q ∨ rIn X.K false x y H Q) := by
  refine OpR.or ?_ op_in_seq
  intro pins s σ H x y v u Q I rx ry h
  obtain ⟨ch, z, h1, h2, h3⟩ := h
  rw [Bool.bne_false] at h3
  exact op_in_sign pins s σ H x y v u Q I rx ry ⟨ch, z, h1, h2, h3⟩
theorem opr_notIn {X : Cx} : OpR X (compareOp .NotIn) (fun x y H Q => rInS true x y H Q ∨ rIn X.K true x y H Q) := by
  refine OpR.or ?_ op_notIn_seq
  intro pins s σ H x y v u Q I rx ry h
  obtain ⟨ch, z, h1, h2, h3⟩ := h
  rw [Bool.bne_true] at h3
  exact op_notIn_sign pins s σ H x y v u Q I rx ry ⟨ch, z, h1, h2, h3⟩
theorem RepH.flat {B H : Hp} {d : Dt} {v : V} (h : RepH K B H d v) (f : flatD d = true) : Rep K B d v := by
  cases d with
  | non => unfold Rep; exact h
  | bl b => unfold Rep; exact h
  | int b => unfold Rep; exact h
  | str b => unfold Rep; exact h
  | _ => exact absurd (show false = true from f) Bool.false_ne_true
theorem opd_in {neg : Bool} : OpD K PL (fun x y H Q => rInS neg x y H Q ∨ rIn K neg x y H Q) (fIn neg) := by
  intro G B c σ H x y v u k Q hc rx ry hf hq
  have seq : ∀ {l : List Dt} {xs : List V} {a : Addr}, u = .ref a → (SqL K H a xs ∨ SqT K H a xs) → RepL K B l xs → ((flatD x = true ∧ l.all flatD = true) ∧ k (.dat (.bl ((l.any fun y => eqD y x) != neg)))) → rIn K neg v u H Q := fun {l xs a} hu hs r h => by
    obtain ⟨⟨h1, h2⟩, h3⟩ := h
    have rv := rx.flat h1
    refine ⟨a, xs, hu, hs, flat_rep rv h1, flat_reps r h2, ?_⟩
    have e := inV_rep rv h1 r h2
    refine hq _ _ B H h3 (Same.refl B) ⟨hc, ?_⟩
    unfold Rep
    rw [e]
    cases neg <;> simp
  cases y with
  | lst l =>
    obtain ⟨a, xs, hu, e1, e2⟩ := ry
    exact .inr (seq hu (.inl (.of e1)) e2 (by cases x <;> exact hf))
  | tup l =>
    obtain ⟨a, xs, hu, e1, e2⟩ := ry
    exact .inr (seq hu (.inr (sameT hc.same e1)) e2 (by cases x <;> exact hf))
  | str t =>
    cases x with
    | str s =>
      obtain ⟨ch, rfl, h2⟩ := one1_ok hf
      exact .inl ⟨ch, S t, rx, ry, hq _ _ B H h2 (Same.refl B) ⟨hc, by unfold Rep; rfl⟩⟩
    | _ => exact hf.elim
  | _ => cases x <;> exact hf.elim

/-! ### is None -/
def isN : Dt → Bool
  | .non => true
  | _ => false
def fIsN (neg : Bool) : OpF := fun x y k => match y with
  | .non => k (.dat (.bl (isN x != neg)))
  | _ => False
theorem non_iff {B H : Hp} {x : Dt} {v : V} (r : RepH K B H x v) : decide (v = .non) = isN x := by
  cases x with
  | non =>
    have e : v = .non := r
    subst e
    rfl
  | bl b =>
    have e : v = .bl b := r
    subst e
    rfl
  | int b =>
    have e : v = .int b := r
    subst e
    rfl
  | str b =>
    have e : v = .str (S b) := r
    subst e
    rfl
  | tup l => obtain ⟨a, xs, rfl, _⟩ := r; rfl
  | lst l => obtain ⟨a, xs, rfl, _⟩ := r; rfl
  | frz l => obtain ⟨a, xs, rfl, _⟩ := r; rfl
theorem opd_isN : OpD K PL (fun x y H Q => y = .non ∧ Q (.bl (decide (x = .non))) H) (fIsN false) := by
  intro G B c σ H x y v u k Q hc rx ry hf hq
  cases y with
  | non => exact ⟨ry, hq _ _ B H hf (Same.refl B) ⟨hc, by unfold Rep; rw [non_iff rx, Bool.bne_false]⟩⟩
  | _ => exact hf.elim
theorem opd_notN : OpD K PL (fun x y H Q => y = .non ∧ Q (.bl (!decide (x = .non))) H) (fIsN true) := by
  intro G B c σ H x y v u k Q hc rx ry hf hq
  cases y with
  | non => exact ⟨ry, hq _ _ B H hf (Same.refl B) ⟨hc, by unfold Rep; rw [non_iff rx, Bool.bne_true]⟩⟩
  | _ => exact hf.elim
end

/-! ### == of plain values of any kinds, and of data -/
section
variable {K : PySem.W.Frag} {PL : PoolP}
def scD : Dt → Dt → Bool
  | .non, .non => true | .non, .int _ => true | .int _, .non => true | .non, .bl _ => true | .bl _, .non => true | .non, .str _ => true | .str _, .non => true
  | .int _, .int _ => true | .bl _, .bl _ => true | .str _, .str _ => true
  | .int _, .str _ => true | .str _, .int _ => true | .bl _, .str _ => true | .str _, .bl _ => true
  | _, _ => false
theorem sc_rep {B H : Hp} {d e : Dt} {v u : V} (h : RepH K B H d v) (h' : RepH K B H e u) (f : scD d e = true) : scal v u = true ∧ decide (v = u) = eqD d e := by
  cases d with
  | non =>
    have q1 : v = .non := h
    subst q1
    cases e with
    | non =>
      have q : u = .non := h'
      subst q
      exact ⟨rfl, by simp [eqD, toPy, PyData.eqv]⟩
    | bl b =>
      have q : u = .bl b := h'
      subst q
      exact ⟨rfl, by simp [eqD, toPy, PyData.eqv]⟩
    | int b =>
      have q : u = .int b := h'
      subst q
      exact ⟨rfl, by simp [eqD, toPy, PyData.eqv]⟩
    | str b =>
      have q : u = .str (S b) := h'
      subst q
      exact ⟨rfl, by simp [eqD, toPy, PyData.eqv]⟩
    | _ => exact absurd (show false = true from f) Bool.false_ne_true
  | bl a =>
    have q1 : v = .bl a := h
    subst q1
    cases e with
    | non =>
      have q : u = .non := h'
      subst q
      exact ⟨rfl, by simp [eqD, toPy, PyData.eqv]⟩
    | bl b =>
      have q : u = .bl b := h'
      subst q
      exact ⟨rfl, by cases a <;> cases b <;> simp [eqD, toPy, PyData.eqv]⟩
    | str b =>
      have q : u = .str (S b) := h'
      subst q
      exact ⟨rfl, by simp [eqD, toPy, PyData.eqv]⟩
    | _ => exact absurd (show false = true from f) Bool.false_ne_true
  | int a =>
    have q1 : v = .int a := h
    subst q1
    cases e with
    | non =>
      have q : u = .non := h'
      subst q
      exact ⟨rfl, by simp [eqD, toPy, PyData.eqv]⟩
    | int b =>
      have q : u = .int b := h'
      subst q
      exact ⟨rfl, by rw [eqD_int]; simp⟩
    | str b =>
      have q : u = .str (S b) := h'
      subst q
      exact ⟨rfl, by simp [eqD, toPy, PyData.eqv]⟩
    | _ => exact absurd (show false = true from f) Bool.false_ne_true
  | str a =>
    have q1 : v = .str (S a) := h
    subst q1
    cases e with
    | non =>
      have q : u = .non := h'
      subst q
      exact ⟨rfl, by simp [eqD, toPy, PyData.eqv]⟩
    | bl b =>
      have q : u = .bl b := h'
      subst q
      exact ⟨rfl, by simp [eqD, toPy, PyData.eqv]⟩
    | int b =>
      have q : u = .int b := h'
      subst q
      exact ⟨rfl, by simp [eqD, toPy, PyData.eqv]⟩
    | str b =>
      have q : u = .str (S b) := h'
      subst q
      refine ⟨rfl, ?_⟩
      rw [eqD_str]
      by_cases e : a = b
      · subst e
        simp
      · have : ¬ V.str (S a) = V.str (S b) := fun z => e (S_inj (V.str.inj z))
        rw [decide_eq_false this, decide_eq_false e]
    | _ => exact absurd (show false = true from f) Bool.false_ne_true
  | _ => cases e <;> exact absurd (show false = true from f) Bool.false_ne_true
def okEq (x y : Dt) : Bool := scD x y || (shp x && shp y)
def fEq : OpF := fun x y k => okEq x y = true ∧ k (.dat (.bl (eqD x y)))
def fNe : OpF := fun x y k => okEq x y = true ∧ k (.dat (.bl (!eqD x y)))
theorem opr_eq {X : Cx} (hu : X.A.units + 64 < cLine) : OpR X (compareOp .Eq) (fun x y H Q => L2.rEq x y H Q ∨ rEqD X.K x y H Q) := OpR.or op_eq (op_eqD hu)
theorem opr_ne {X : Cx} (hu : X.A.units + 64 < cLine) : OpR X (compareOp .NotEq) (fun x y H Q => L2.rNe x y H Q ∨ rNeD X.K x y H Q) := OpR.or op_ne (op_neD hu)
theorem opd_eq : OpD K PL (fun x y H Q => L2.rEq x y H Q ∨ rEqD K x y H Q) fEq := by
  intro G B c σ H x y v u k Q hc rx ry hf hq
  obtain ⟨h1, h3⟩ := hf
  unfold okEq at h1
  rw [Bool.or_eq_true, Bool.and_eq_true] at h1
  rcases h1 with h1 | ⟨h1, h2⟩
  · obtain ⟨g1, g2⟩ := sc_rep rx ry h1
    exact .inl ⟨g1, hq _ _ B H h3 (Same.refl B) ⟨hc, by unfold Rep; rw [g2]⟩⟩
  · exact .inr ⟨_, _, rx.dp hc.same, ry.dp hc.same, h1, h2, hq _ _ B H h3 (Same.refl B) ⟨hc, by unfold Rep; rfl⟩⟩
theorem opd_ne : OpD K PL (fun x y H Q => L2.rNe x y H Q ∨ rNeD K x y H Q) fNe := by
  intro G B c σ H x y v u k Q hc rx ry hf hq
  obtain ⟨h1, h3⟩ := hf
  unfold okEq at h1
  rw [Bool.or_eq_true, Bool.and_eq_true] at h1
  rcases h1 with h1 | ⟨h1, h2⟩
  · obtain ⟨g1, g2⟩ := sc_rep rx ry h1
    exact .inl ⟨g1, hq _ _ B H h3 (Same.refl B) ⟨hc, by unfold Rep; rw [g2]⟩⟩
  · exact .inr ⟨_, _, rx.dp hc.same, ry.dp hc.same, h1, h2, hq _ _ B H h3 (Same.refl B) ⟨hc, by unfold Rep; rfl⟩⟩
end

/-! ### unary -/
section
variable {X : Cx} {PL : PoolP}
abbrev UnF := Dt → (Res → Prop) → Prop
def UnD (K : PySem.W.Frag) (PL : PoolP) (r : V → Hp → VK → Prop) (f : UnF) : Prop := ∀ G B c σ H x v k (Q : VK), Conc K PL G B c σ H → RepH K B H x v → f x k →
  (∀ z w B' H', k z → Same B B' → CR K PL G B' c σ H' z w → Q w H') → r v H Q
def on1 (r : Res) (c : CEnv) (f : Dt → Prop) : Prop := match vw r c with
  | none => False
  | some x => f x
theorem on1_ok {K : PySem.W.Frag} {G : Ent} {B : Hp} {c : CEnv} {σ : L2.St} {H : Hp} {r : Res} {v : V} {f : Dt → Prop} (hc : Conc K PL G B c σ H) (h1 : Held K B σ r v) (h : on1 r c f) : ∃ x, RepH K B H x v ∧ f x := by
  unfold on1 at h
  cases q1 : vw r c with
  | none => simp only [q1] at h
  | some x =>
    simp only [q1] at h
    exact ⟨x, vw_ok hc h1 q1, h⟩
def dUn (f : UnF) (da : DE) : DE := fun c Q => da c fun r c1 => on1 (hd r) c1 fun x => f x fun z => Q z c1
theorem qe_un {a : Expr} {op : UnaryOp} {pos : Pos} {r : V → Hp → VK → Prop} {f : UnF} {da : DE} (ho : UnR X (unaryOp op) r) (hd' : UnD X.K PL r f) (ha : QE X PL a da) : QE X PL (.UnaryOp op a pos) (dUn f da) := by
  refine q_of (pe_un ho ha.pe) fun G B c σ H Qd Q hc hd2 hq => ?_
  refine ⟨G, B, c, _, hc, hd2, fun r1 c1 B1 H1 v h1 e1 cr1 => ?_⟩
  obtain ⟨B2, e2, hc2, hh⟩ := cr1.hold
  obtain ⟨x, rx, hf⟩ := on1_ok hc2 hh h1
  exact hd' G B2 c1 σ H1 x v _ Q hc2 rx hf fun z w B' H' hk e' cr => hq z c1 B' H' w hk ((e1.trans e2).trans e') cr
def fNeg : UnF
  | .int i, k => k (.dat (.int (-i)))
  | _, _ => False
theorem und_neg {K : PySem.W.Frag} : UnD K PL (rU fun i => .int (-i)) fNeg := by
  intro G B c σ H x v k Q hc rx hf hq
  cases x with
  | int i => exact ⟨i, rx, hq _ _ B H hf (Same.refl B) ⟨hc, by unfold Rep; rfl⟩⟩
  | _ => exact hf.elim

/-! ### tests -/
/-- truth of data -/
def truD : Dt → Option Bool
  | .non => some false
  | .bl b => some b
  | .int i => some (i != 0)
  | .str s => if s.length ≤ 10000000 then some (!s.isEmpty) else none
  | .lst l => some (!l.isEmpty)
  | .tup l => some (!l.isEmpty)
  | .frz l => some (!l.isEmpty)
theorem isEmpty_len {α β : Type} {l : List α} {m : List β} (h : l.length = m.length) : l.isEmpty = m.isEmpty := by
  cases l <;> cases m <;> simp at h ⊢
theorem truD_ok {K : PySem.W.Frag} {B H : Hp} {x : Dt} {v : V} {b : Bool} (e : Same B H) (r : RepH K B H x v) (h : truD x = some b) : TruV K v H b := by
  cases x with
  | non =>
    have e1 : v = .non := r
    subst e1
    exact (Option.some.inj h).symm
  | bl k =>
    have e1 : v = .bl k := r
    subst e1
    exact (Option.some.inj h).symm
  | int k =>
    have e1 : v = .int k := r
    subst e1
    exact (Option.some.inj h).symm
  | str s =>
    have e1 : v = .str (S s) := r
    subst e1
    have h' : (if s.length ≤ 10000000 then some (!s.isEmpty) else none) = some b := h
    by_cases hl : s.length ≤ 10000000
    · rw [if_pos hl] at h'
      have h := h'
      have e2 : (!s.isEmpty) = b := Option.some.inj h
      refine ⟨by rw [S_len]; exact sz7 hl, ?_⟩
      rw [← e2, S_len]
      cases s with
      | nil => rfl
      | cons a t =>
        have : ((a :: t).length : Int) ≠ 0 := by simp; omega
        simp
        omega
    · rw [if_neg hl] at h'
      cases h'
  | lst l =>
    obtain ⟨a, xs, e1, h1, h2⟩ := r
    subst e1
    exact .inl ⟨xs, .of h1, by rw [isEmpty_len h2.length]; exact (Option.some.inj h).symm⟩
  | tup l =>
    obtain ⟨a, xs, e1, h1, h2⟩ := r
    subst e1
    exact .inr (.inl ⟨xs, sameT e h1, by rw [isEmpty_len h2.length]; exact (Option.some.inj h).symm⟩)
  | frz l =>
    obtain ⟨a, xs, e1, h1, h2⟩ := r
    subst e1
    exact .inl ⟨xs, e.seq h1, by rw [isEmpty_len h2.length]; exact (Option.some.inj h).symm⟩
def tru (x : Dt) (k : Bool → Prop) : Prop := match truD x with
  | some b => k b
  | none => False
def dTru (da : DE) : DT := fun c Q => da c fun r c1 => on1 (hd r) c1 fun x => tru x fun b => Q b c1
theorem qt_of {e : Expr} {t : TT} {dt : DT} (h : PT X e t) (hw : ∀ G B c σ H Qd Q, Conc X.K PL G B c σ H → dt c Qd → (∀ b c' B' H', Qd b c' → Same B B' → Conc X.K PL G B' c' σ H' → Q b H') → t σ H Q) : QT X PL e dt :=
  ⟨PT.weak h fun σ H Q ⟨G, B, c, Qd, h1, h2, h3⟩ => hw G B c σ H Qd Q h1 h2 h3⟩
theorem qt_val {e : Expr} {da : DE} (ha : QE X PL e da) (he : ∀ whole, isTrue e X.env whole = (do let v ← whole; standAt e.pos; holding [v] (truthy v)) := by intro _; rfl) : QT X PL e (dTru da) := by
  refine qt_of (pt_truth ha.pe he) fun G B c σ H Qd Q hc hd2 hq => ?_
  refine ⟨G, B, c, _, hc, hd2, fun r1 c1 B1 H1 v h1 e1 cr1 => ?_⟩
  obtain ⟨B2, e2, hc2, hh⟩ := cr1.hold
  obtain ⟨x, rx, hf⟩ := on1_ok hc2 hh h1
  unfold tru at hf
  cases q : truD x with
  | none => simp only [q] at hf
  | some b =>
    simp only [q] at hf
    exact ⟨b, truD_ok hc2.same rx q, hq b c1 B2 H1 hf (e1.trans e2) hc2⟩
def blR (r : Res) (k : Bool → Prop) : Prop := match r with
  | .dat (.bl b) => k b
  | _ => False
/-- a comparison as a test -/
def dBinT (f : OpF) (da db : DE) : DT := fun c Q => da c fun r c1 => db c1 fun s c2 => on2 (hd r) (hd s) c2 fun x y => f x y fun z => blR z fun b => Q b c2
theorem qt_cmp {a b : Expr} {op : CmpOp} {pos : Pos} {r : R2} {f : OpF} {da db : DE} (ho : OpR X (compareOp op) r) (hd' : OpD X.K PL r f) (ha : QE X PL a da) (hb : QE X PL b db) (h1 : behindInMarks op b = false) : QT X PL (.Compare a [op] [b] pos) (dBinT f da db) := by
  refine qt_of (pt_cmpR ho ha.pe hb.pe h1) fun G B c σ H Qd Q hc hd2 hq => ?_
  refine bin_ok (PL := PL) hd' hc (Qd := fun z c2 => blR z fun b => Qd b c2) hd2 fun z c' B' H' w hz e cr => ?_
  cases z with
  | dat d =>
    cases d with
    | bl b =>
      obtain ⟨h2, h3⟩ := cr
      unfold Rep at h3
      exact ⟨b, h3, hq b c' B' H' hz e h2⟩
    | _ => exact hz.elim
  | _ => exact hz.elim
def dAnd (t u : DT) : DT := fun c Q => t c fun b c1 => br b (u c1 Q) (Q false c1)
def dOr (t u : DT) : DT := fun c Q => t c fun b c1 => br b (Q true c1) (u c1 Q)
def dNot (t : DT) : DT := fun c Q => t c fun b c1 => Q (!b) c1
theorem qw_of {e : Expr} {t : TT} {dt : DT} (h : PW X e t) (hw : ∀ G B c σ H Qd Q, Conc X.K PL G B c σ H → dt c Qd → (∀ b c' B' H', Qd b c' → Same B B' → Conc X.K PL G B' c' σ H' → Q b H') → t σ H Q) : QW X PL e dt :=
  ⟨PW.weak h fun σ H Q ⟨G, B, c, Qd, h1, h2, h3⟩ => hw G B c σ H Qd Q h1 h2 h3⟩
theorem QW.t {e : Expr} {dt : DT} (h : QW X PL e dt) : QT X PL e dt := ⟨h.pw.pt⟩
theorem qw_and1 {a : Expr} {pos : Pos} {t : DT} (h : QT X PL a t) : QW X PL (.BoolOp .And [a] pos) t := ⟨pw_and1 h.pt⟩
theorem qw_or1 {a : Expr} {pos : Pos} {t : DT} (h : QT X PL a t) : QW X PL (.BoolOp .Or [a] pos) t := ⟨pw_or1 h.pt⟩
theorem qw_and {a b : Expr} {rest : List Expr} {pos : Pos} {t u : DT} (h : QT X PL a t) (h' : QW X PL (.BoolOp .And (b :: rest) pos) u) : QW X PL (.BoolOp .And (a :: b :: rest) pos) (dAnd t u) := by
  refine qw_of (pw_and h.pt h'.pw) fun G B c σ H Qd Q hc hd2 hq => ?_
  refine ⟨G, B, c, _, hc, hd2, fun b c1 B1 H1 h1 e1 hc1 => ?_⟩
  cases b with
  | true =>
    rw [if_pos rfl]
    exact ⟨G, B1, c1, _, hc1, h1, fun b' c2 B2 H2 h2 e2 hc2 => hq b' c2 B2 H2 h2 (e1.trans e2) hc2⟩
  | false =>
    rw [if_neg Bool.false_ne_true]
    exact hq false c1 B1 H1 h1 e1 hc1
theorem qw_or {a b : Expr} {rest : List Expr} {pos : Pos} {t u : DT} (h : QT X PL a t) (h' : QW X PL (.BoolOp .Or (b :: rest) pos) u) : QW X PL (.BoolOp .Or (a :: b :: rest) pos) (dOr t u) := by
  refine qw_of (pw_or h.pt h'.pw) fun G B c σ H Qd Q hc hd2 hq => ?_
  refine ⟨G, B, c, _, hc, hd2, fun b c1 B1 H1 h1 e1 hc1 => ?_⟩
  cases b with
  | true =>
    rw [if_pos rfl]
    exact hq true c1 B1 H1 h1 e1 hc1
  | false =>
    rw [if_neg Bool.false_ne_true]
    exact ⟨G, B1, c1, _, hc1, h1, fun b' c2 B2 H2 h2 e2 hc2 => hq b' c2 B2 H2 h2 (e1.trans e2) hc2⟩
theorem qt_not {a : Expr} {pos : Pos} {t : DT} (h : QT X PL a t) : QT X PL (.UnaryOp .Not a pos) (dNot t) := by
  refine qt_of (pt_not h.pt) fun G B c σ H Qd Q hc hd2 hq => ?_
  exact ⟨G, B, c, _, hc, hd2, fun b c1 B1 H1 h1 e1 hc1 => hq (!b) c1 B1 H1 h1 e1 hc1⟩
/-! as values -/
def blD (r : Res) (k : Bool → Prop) : Prop := match r with
  | .dat (.bl b) => k b
  | _ => False
theorem blD_ok {K : PySem.W.Frag} {G : Ent} {B : Hp} {c : CEnv} {σ : L2.St} {H : Hp} {r : Res} {v : V} {k : Bool → Prop} (cr : CR K PL G B c σ H r v) (h : blD r k) : ∃ b, v = .bl b ∧ k b := by
  cases r with
  | dat d =>
    cases d with
    | bl b =>
      obtain ⟨_, h2⟩ := cr
      unfold Rep at h2
      exact ⟨b, h2, h⟩
    | _ => exact h.elim
  | _ => exact h.elim
def dAndV (da db : DE) : DE := fun c Q => da c fun r c1 => blD r fun b => br b (db c1 Q) (Q (.dat (.bl false)) c1)
def dOrV (da db : DE) : DE := fun c Q => da c fun r c1 => blD r fun b => br b (Q (.dat (.bl true)) c1) (db c1 Q)
def dNotV (da : DE) : DE := fun c Q => da c fun r c1 => blD r fun b => Q (.dat (.bl (!b))) c1
theorem qe_one {op : BoolOp} {a : Expr} {pos : Pos} {da : DE} (h : QE X PL a da) : QE X PL (.BoolOp op [a] pos) da := ⟨pe_one h.pe⟩
theorem qe_and {a b : Expr} {rest : List Expr} {pos : Pos} {da db : DE} (h : QE X PL a da) (h' : QE X PL (.BoolOp .And (b :: rest) pos) db) : QE X PL (.BoolOp .And (a :: b :: rest) pos) (dAndV da db) := by
  refine q_of (pe_and h.pe h'.pe) fun G B c σ H Qd Q hc hd2 hq => ?_
  refine ⟨G, B, c, _, hc, hd2, fun r c1 B1 H1 v h1 e1 cr => ?_⟩
  obtain ⟨b, rfl, h2⟩ := blD_ok cr h1
  refine ⟨b, rfl, ?_⟩
  cases b with
  | true =>
    rw [if_pos rfl]
    exact ⟨G, B1, c1, _, cr.conc, h2, fun r' c2 B2 H2 v' h3 e2 cr2 => hq r' c2 B2 H2 v' h3 (e1.trans e2) cr2⟩
  | false =>
    rw [if_neg Bool.false_ne_true]
    exact hq _ c1 B1 H1 _ h2 e1 ⟨cr.conc, by unfold Rep; rfl⟩
theorem qe_or {a b : Expr} {rest : List Expr} {pos : Pos} {da db : DE} (h : QE X PL a da) (h' : QE X PL (.BoolOp .Or (b :: rest) pos) db) : QE X PL (.BoolOp .Or (a :: b :: rest) pos) (dOrV da db) := by
  refine q_of (pe_or h.pe h'.pe) fun G B c σ H Qd Q hc hd2 hq => ?_
  refine ⟨G, B, c, _, hc, hd2, fun r c1 B1 H1 v h1 e1 cr => ?_⟩
  obtain ⟨b, rfl, h2⟩ := blD_ok cr h1
  refine ⟨b, rfl, ?_⟩
  cases b with
  | true =>
    rw [if_pos rfl]
    exact hq _ c1 B1 H1 _ h2 e1 ⟨cr.conc, by unfold Rep; rfl⟩
  | false =>
    rw [if_neg Bool.false_ne_true]
    exact ⟨G, B1, c1, _, cr.conc, h2, fun r' c2 B2 H2 v' h3 e2 cr2 => hq r' c2 B2 H2 v' h3 (e1.trans e2) cr2⟩
theorem qe_not {a : Expr} {pos : Pos} {da : DE} (h : QE X PL a da) : QE X PL (.UnaryOp .Not a pos) (dNotV da) := by
  refine q_of (pe_not h.pe) fun G B c σ H Qd Q hc hd2 hq => ?_
  refine ⟨G, B, c, _, hc, hd2, fun r c1 B1 H1 v h1 e1 cr => ?_⟩
  obtain ⟨b, rfl, h2⟩ := blD_ok cr h1
  exact ⟨b, rfl, hq _ c1 B1 H1 _ h2 e1 ⟨cr.conc, by unfold Rep; rfl⟩⟩
def dIfE (t : DT) (da db : DE) : DE := fun c Q => t c fun b c1 => br b (da c1 Q) (db c1 Q)
theorem qe_if {t a b : Expr} {pos : Pos} {dt : DT} {da db : DE} (ht : QT X PL t dt) (h : QE X PL a da) (h' : QE X PL b db) : QE X PL (.IfExp t a b pos) (dIfE dt da db) := by
  refine q_of (pe_ifExp ht.pt h.pe h'.pe) fun G B c σ H Qd Q hc hd2 hq => ?_
  refine ⟨G, B, c, _, hc, hd2, fun b c1 B1 H1 h1 e1 hc1 => ?_⟩
  cases b with
  | true =>
    rw [if_pos rfl]
    exact ⟨G, B1, c1, _, hc1, h1, fun r' c2 B2 H2 v' h3 e2 cr2 => hq r' c2 B2 H2 v' h3 (e1.trans e2) cr2⟩
  | false =>
    rw [if_neg Bool.false_ne_true]
    exact ⟨G, B1, c1, _, hc1, h1, fun r' c2 B2 H2 v' h3 e2 cr2 => hq r' c2 B2 H2 v' h3 (e1.trans e2) cr2⟩
end
end Cl

namespace Cl
open PySem PySem.Spec PyProof.Rows L2

section
variable {X : Cx} {PL : PoolP}
/-! ### arguments, each as it is -/
def aNil : DA := fun c Q => Q [] c
def aCons (de : DE) (da : DA) : DA := fun c Q => de c fun r c1 => da c1 fun rs c2 => Q (hd r :: rs) c2
theorem qa_of {es : List Expr} {t : TA} {da : DA} (h : PA X es t) (hw : ∀ G B c σ H Qd Q, Conc X.K PL G B c σ H → da c Qd → (∀ rs c' B' H' vs, Qd rs c' → Same B B' → Conc X.K PL G B' c' σ H' → HeldL X.K B' σ rs vs → Q vs H') → t σ H Q) : QA X PL es da :=
  ⟨PA.weak h fun σ H Q ⟨G, B, c, Qd, h1, h2, h3⟩ => hw G B c σ H Qd Q h1 h2 h3⟩
theorem qa_nil : QA X PL [] aNil := by
  refine qa_of pa_nil fun G B c σ H Qd Q hc hd2 hq => ?_
  exact hq [] c B H [] hd2 (Same.refl B) hc rfl
theorem qa_cons {e : Expr} {es : List Expr} {de : DE} {da : DA} (h : QE X PL e de) (h' : QA X PL es da) (hs : starEach (e :: es) X.env = (false, eval e X.env) :: starEach es X.env := by rfl) : QA X PL (e :: es) (aCons de da) := by
  refine qa_of (pa_cons h.pe h'.pa hs) fun G B c σ H Qd Q hc hd2 hq => ?_
  refine ⟨G, B, c, _, hc, hd2, fun r c1 B1 H1 v h1 e1 cr => ?_⟩
  obtain ⟨B2, e2, hc2, hh⟩ := cr.hold
  refine ⟨G, B2, c1, _, hc2, h1, fun rs c2 B3 H2 vs h3 e3 hc3 hl => ?_⟩
  exact hq _ c2 B3 H2 _ h3 ((e1.trans e2).trans e3) hc3 ⟨v, vs, rfl, hh.mono e3, hl⟩
/-! ### arguments made plain data -/
abbrev DL := CEnv → (List Dt → CEnv → Prop) → Prop
def lL (K : PySem.W.Frag) (PL : PoolP) (da : DL) : TA := fun σ H Q => ∃ G B c Qd, Conc K PL G B c σ H ∧ da c Qd ∧ ∀ ds c' B' H' vs, Qd ds c' → Same B B' → Conc K PL G B' c' σ H' → RepL K B' ds vs → Q vs H'
structure QL (X : Cx) (PL : PoolP) (es : List Expr) (da : DL) : Prop where
  pa : PA X es (lL X.K PL da)
def lNil : DL := fun c Q => Q [] c
def lCons (de : DE) (da : DL) : DL := fun c Q => de c fun r c1 => asD r c1 fun d c2 => da c2 fun ds c3 => Q (d :: ds) c3
theorem ql_of {es : List Expr} {t : TA} {da : DL} (h : PA X es t) (hw : ∀ G B c σ H Qd Q, Conc X.K PL G B c σ H → da c Qd → (∀ rs c' B' H' vs, Qd rs c' → Same B B' → Conc X.K PL G B' c' σ H' → RepL X.K B' rs vs → Q vs H') → t σ H Q) : QL X PL es da :=
  ⟨PA.weak h fun σ H Q ⟨G, B, c, Qd, h1, h2, h3⟩ => hw G B c σ H Qd Q h1 h2 h3⟩
theorem ql_nil : QL X PL [] lNil := by
  refine ql_of pa_nil fun G B c σ H Qd Q hc hd2 hq => ?_
  exact hq [] c B H [] hd2 (Same.refl B) hc .nil
theorem ql_cons {e : Expr} {es : List Expr} {de : DE} {da : DL} (h : QE X PL e de) (h' : QL X PL es da) (hs : starEach (e :: es) X.env = (false, eval e X.env) :: starEach es X.env := by rfl) : QL X PL (e :: es) (lCons de da) := by
  refine ql_of (pa_cons h.pe h'.pa hs) fun G B c σ H Qd Q hc hd2 hq => ?_
  refine ⟨G, B, c, _, hc, hd2, fun r c1 B1 H1 v h1 e1 cr => ?_⟩
  obtain ⟨B2, c2, d, e2, hc2, rd, h2⟩ := asD_ok cr h1
  refine ⟨G, B2, c2, _, hc2, h2, fun rs c3 B3 H2 vs h3 e3 hc3 hl => ?_⟩
  exact hq _ c3 B3 H2 _ h3 ((e1.trans e2).trans e3) hc3 (.cons (rd.mono e3) hl)

/-! ### displays -/
def dTup (da : DL) : DE := fun c Q => da c fun ds c1 => ds.length ≤ 10000000 ∧ Q (.dat (.tup ds)) c1
def dLst (da : DL) : DE := fun c Q => da c fun ds c1 => ds.length ≤ 10000000 ∧ Q (.new (.lst ds)) c1
theorem qe_tup {es : List Expr} {x1 : Nat} {pos : Pos} {da : DL} (h : QL X PL es da) : QE X PL (.Tuple es x1 pos) (dTup da) := by
  refine q_of (pe_tup h.pa) fun G B c σ H Qd Q hc hd2 hq => ?_
  refine ⟨G, B, c, _, hc, hd2, fun ds c1 B1 H1 vs h1 e1 hc1 rl => ?_⟩
  obtain ⟨h2, h3⟩ := h1
  refine ⟨by rw [rl.length]; exact sz7 h2, fun p hp => ?_⟩
  obtain ⟨e2, cr⟩ := conc_tup hc1 hp rl
  exact hq _ c1 _ _ _ h3 (e1.trans e2) cr
theorem qe_lst {es : List Expr} {pos : Pos} {da : DL} (h : QL X PL es da) : QE X PL (.List es pos) (dLst da) := by
  refine q_of (pe_lst h.pa) fun G B c σ H Qd Q hc hd2 hq => ?_
  refine ⟨G, B, c, _, hc, hd2, fun ds c1 B1 H1 vs h1 e1 hc1 rl => ?_⟩
  obtain ⟨h2, h3⟩ := h1
  exact ⟨by rw [rl.length]; exact sz7 h2, fun p hp => hq _ c1 _ _ _ h3 e1 (conc_lst hc1 hp rl)⟩

/-! ### calls of built-ins -/
abbrev CallF := List Dt → (Res → Prop) → Prop
def RepHs (K : PySem.W.Frag) (B H : Hp) : List Dt → List V → Prop
  | [], vs => vs = []
  | d :: ds, vs => ∃ v ws, vs = v :: ws ∧ RepH K B H d v ∧ RepHs K B H ds ws
def CallD (K : PySem.W.Frag) (PL : PoolP) (r : List V → Hp → VK → Prop) (f : CallF) : Prop := ∀ G B c σ H xs vs k (Q : VK), Conc K PL G B c σ H → RepHs K B H xs vs → f xs k →
  (∀ z w B' H', k z → Same B B' → CR K PL G B' c σ H' z w → Q w H') → r vs H Q
def vws : List Res → CEnv → (List Dt → Prop) → Prop
  | [], _, k => k []
  | r :: rs, c, k => on1 r c fun x => vws rs c fun xs => k (x :: xs)
theorem vws_ok {K : PySem.W.Frag} {G : Ent} {B : Hp} {c : CEnv} {σ : L2.St} {H : Hp} (hc : Conc K PL G B c σ H) : ∀ {rs : List Res} {vs : List V} {k : List Dt → Prop}, HeldL K B σ rs vs → vws rs c k → ∃ xs, RepHs K B H xs vs ∧ k xs
  | [], vs, k, h, hk => ⟨[], h, hk⟩
  | r :: rs, vs, k, h, hk => by
    obtain ⟨v, ws, h1, h2, h3⟩ := h
    obtain ⟨x, rx, hf⟩ := on1_ok hc h2 hk
    obtain ⟨xs, rxs, hf2⟩ := vws_ok hc h3 hf
    exact ⟨x :: xs, ⟨v, ws, h1, rx, rxs⟩, hf2⟩
def dCB (f : CallF) (da : DA) : DE := fun c Q => da c fun rs c1 => vws rs c1 fun xs => f xs fun z => Q z c1
theorem cb_ok {r : List V → Hp → VK → Prop} {f : CallF} (hf : CallD X.K PL r f) {da : DA} {G : Ent} {B : Hp} {c : CEnv} {σ : L2.St} {H : Hp} {Qd : Res → CEnv → Prop} {Q : VK} (hc : Conc X.K PL G B c σ H) (hd2 : dCB f da c Qd)
    (hq : ∀ r c' B' H' v, Qd r c' → Same B B' → CR X.K PL G B' c' σ H' r v → Q v H') : tCB r (lA X.K PL da) σ H Q := by
  refine ⟨G, B, c, _, hc, hd2, fun rs c1 B1 H1 vs h1 e1 hc1 hl => ?_⟩
  obtain ⟨xs, rx, h2⟩ := vws_ok hc1 hl h1
  exact hf G B1 c1 σ H1 xs vs _ Q hc1 rx h2 fun z w B' H' hk e' cr => hq z c1 B' H' w hk (e1.trans e') cr
theorem qe_cb {x : Str} {p pos : Pos} {e : Expr} {es : List Expr} {id : String} {r : List V → Hp → VK → Prop} {f : CallF} {da : DA} (hc : CallR X (.builtin id) r) (hf : CallD X.K PL r f) (hg : Gl X x) (hm : X.mg x = none) (hv : bootBuiltins x = some (.builtin id)) (ha : QA X PL (e :: es) da)
    (hn : x ≠ "__name__" := by decide) (hdb : (x == ("__debug__" : Str)) = false := by decide) (he : starEach (e :: es) X.env = (false, eval e X.env) :: starEach es X.env := by rfl) (hpl : (backTo pos (starEach es X.env)).any (·.1) = false := by rfl) :
    QE X PL (.Call (.Name x p) (e :: es) [] pos) (dCB f da) :=
  q_of (pe_callB hc hg hm hv ha.pa hn hdb he hpl) fun _ _ _ _ _ _ _ hc hd2 hq => cb_ok hf hc hd2 hq
theorem qe_cty {x : Str} {p pos : Pos} {e : Expr} {es : List Expr} {T : String} {r : List V → Hp → VK → Prop} {f : CallF} {da : DA} (hc : CallR X (.type T) r) (hf : CallD X.K PL r f) (hg : Gl X x) (hm : X.mg x = none) (hv : bootBuiltins x = some (.type T)) (ha : QA X PL (e :: es) da)
    (hn : x ≠ "__name__" := by decide) (hdb : (x == ("__debug__" : Str)) = false := by decide) (he : starEach (e :: es) X.env = (false, eval e X.env) :: starEach es X.env := by rfl) (hpl : (backTo pos (starEach es X.env)).any (·.1) = false := by rfl) :
    QE X PL (.Call (.Name x p) (e :: es) [] pos) (dCB f da) :=
  q_of (pe_callTy hc hg hm hv ha.pa hn hdb he hpl) fun _ _ _ _ _ _ _ hc hd2 hq => cb_ok hf hc hd2 hq
theorem repHs1 {K : PySem.W.Frag} {B H : Hp} {d : Dt} {vs : List V} (h : RepHs K B H [d] vs) : ∃ v, vs = [v] ∧ RepH K B H d v := by
  obtain ⟨v, ws, h1, h2, h3⟩ := h
  have e : ws = [] := h3
  subst e
  exact ⟨v, h1, h2⟩
theorem repHs2 {K : PySem.W.Frag} {B H : Hp} {d e : Dt} {vs : List V} (h : RepHs K B H [d, e] vs) : ∃ v u, vs = [v, u] ∧ RepH K B H d v ∧ RepH K B H e u := by
  obtain ⟨v, ws, h1, h2, h3⟩ := h
  obtain ⟨u, rfl, h4⟩ := repHs1 h3
  exact ⟨v, u, h1, h2, h4⟩
def arg1 (g : Dt → (Res → Prop) → Prop) : CallF := fun xs k => match xs with
  | [x] => g x k
  | _ => False
def arg2 (g : Dt → Dt → (Res → Prop) → Prop) : CallF := fun xs k => match xs with
  | [x, y] => g x y k
  | _ => False
theorem arg1_ok {g : Dt → (Res → Prop) → Prop} {xs : List Dt} {k : Res → Prop} (h : arg1 g xs k) : ∃ x, xs = [x] ∧ g x k := by
  cases xs with
  | nil => exact h.elim
  | cons x r =>
    cases r with
    | nil => exact ⟨x, rfl, h⟩
    | cons y r => exact h.elim
theorem arg2_ok {g : Dt → Dt → (Res → Prop) → Prop} {xs : List Dt} {k : Res → Prop} (h : arg2 g xs k) : ∃ x y, xs = [x, y] ∧ g x y k := by
  cases xs with
  | nil => exact h.elim
  | cons x r =>
    cases r with
    | nil => exact h.elim
    | cons y r =>
      cases r with
      | nil => exact ⟨x, y, rfl, h⟩
      | cons z r => exact h.elim
/-- len -/
def lenD (x : Dt) (k : Res → Prop) : Prop := match x with
  | .lst l => k (.dat (.int l.length))
  | .tup l => k (.dat (.int l.length))
  | .frz l => k (.dat (.int l.length))
  | .str s => s.length ≤ 10000000 ∧ k (.dat (.int s.length))
  | _ => False
def fLen : CallF := arg1 lenD
def rLenA (K : PySem.W.Frag) : List V → Hp → VK → Prop := fun xs H Q => (∃ p ys, xs = [.ref p] ∧ (SqL K H p ys ∨ SqT K H p ys) ∧ Q (.int ys.length) H) ∨ (∃ z, xs = [.str z] ∧ z.length ≤ sizeLine ∧ Q (.int z.length) H)
theorem cr_lenA : CallR X (.builtin "len") (rLenA X.K) := CallR.or call_len_seq call_len_str
theorem cd_len {K : PySem.W.Frag} : CallD K PL (rLenA K) fLen := by
  intro G B c σ H xs vs k Q hc rx hf hq
  obtain ⟨x, rfl, hf⟩ := arg1_ok hf
  cases x with
  | lst l =>
    obtain ⟨v, rfl, a, ys, rfl, h1, h2⟩ := repHs1 rx
    exact .inl ⟨a, ys, rfl, .inl (.of h1), hq _ _ B H hf (Same.refl B) ⟨hc, by unfold Rep; rw [h2.length]⟩⟩
  | tup l =>
    obtain ⟨v, rfl, a, ys, rfl, h1, h2⟩ := repHs1 rx
    exact .inl ⟨a, ys, rfl, .inr (sameT hc.same h1), hq _ _ B H hf (Same.refl B) ⟨hc, by unfold Rep; rw [h2.length]⟩⟩
  | frz l =>
    obtain ⟨v, rfl, a, ys, rfl, h1, h2⟩ := repHs1 rx
    exact .inl ⟨a, ys, rfl, .inl (hc.same.seq h1), hq _ _ B H hf (Same.refl B) ⟨hc, by unfold Rep; rw [h2.length]⟩⟩
  | str s =>
    obtain ⟨v, rfl, h1⟩ := repHs1 rx
    have e : v = .str (S s) := h1
    subst e
    exact .inr ⟨S s, rfl, by rw [S_len]; exact sz7 hf.1, hq _ _ B H hf.2 (Same.refl B) ⟨hc, by unfold Rep; rw [S_len]⟩⟩
  | _ => exact hf.elim
/-- int(..), abs, min, max -/
def int1D (x : Dt) (k : Res → Prop) : Prop := match x with
  | .int i => k (.dat (.int i))
  | .bl b => k (.dat (.int (if b then 1 else 0)))
  | _ => False
def fInt1 : CallF := arg1 int1D
theorem cd_int1 {K : PySem.W.Frag} : CallD K PL (fun xs H Q => (∃ i, xs = [.int i] ∧ Q (.int i) H) ∨ ∃ k, xs = [.bl k] ∧ Q (.int (if k then 1 else 0)) H) fInt1 := by
  intro G B c σ H xs vs k Q hc rx hf hq
  obtain ⟨x, rfl, hf⟩ := arg1_ok hf
  cases x with
  | int i =>
    obtain ⟨v, rfl, h1⟩ := repHs1 rx
    have e : v = .int i := h1
    subst e
    exact .inl ⟨i, rfl, hq _ _ B H hf (Same.refl B) ⟨hc, by unfold Rep; rfl⟩⟩
  | bl b =>
    obtain ⟨v, rfl, h1⟩ := repHs1 rx
    have e : v = .bl b := h1
    subst e
    exact .inr ⟨b, rfl, hq _ _ B H hf (Same.refl B) ⟨hc, by unfold Rep; rfl⟩⟩
  | _ => exact hf.elim
def absD (x : Dt) (k : Res → Prop) : Prop := match x with
  | .int i => k (.dat (.int (if i < 0 then -i else i)))
  | _ => False
def fAbs : CallF := arg1 absD
theorem cd_abs {K : PySem.W.Frag} : CallD K PL (fun xs H Q => ∃ i, xs = [.int i] ∧ Q (.int (if i < 0 then -i else i)) H) fAbs := by
  intro G B c σ H xs vs k Q hc rx hf hq
  obtain ⟨x, rfl, hf⟩ := arg1_ok hf
  cases x with
  | int i =>
    obtain ⟨v, rfl, h1⟩ := repHs1 rx
    have e : v = .int i := h1
    subst e
    exact ⟨i, rfl, hq _ _ B H hf (Same.refl B) ⟨hc, by unfold Rep; rfl⟩⟩
  | _ => exact hf.elim
def fMin2 : CallF := arg2 (fI (fun _ _ => True) fun i j => .int (min i j))
theorem fI_ok {C : Int → Int → Prop} {g : Int → Int → Dt} {x y : Dt} {k : Res → Prop} (h : fI C g x y k) : ∃ i j, x = .int i ∧ y = .int j ∧ C i j ∧ k (.dat (g i j)) := by
  cases x with
  | int i =>
    cases y with
    | int j => exact ⟨i, j, rfl, rfl, h.1, h.2⟩
    | _ => exact h.elim
  | _ => exact h.elim
theorem cd_min2 {K : PySem.W.Frag} : CallD K PL (fun xs H Q => ∃ i j, xs = [.int i, .int j] ∧ Q (.int (if j < i then j else i)) H) fMin2 := by
  intro G B c σ H xs vs k Q hc rx hf hq
  obtain ⟨x, y, rfl, hf⟩ := arg2_ok hf
  obtain ⟨i, j, rfl, rfl, _, hf⟩ := fI_ok hf
  obtain ⟨v, u, rfl, h1, h2⟩ := repHs2 rx
  have e : v = .int i := h1
  have e2 : u = .int j := h2
  subst e e2
  refine ⟨i, j, rfl, hq _ _ B H hf (Same.refl B) ⟨hc, ?_⟩⟩
  unfold Rep
  have : (if j < i then j else i) = min i j := by split <;> omega
  rw [this]
def fMax2 : CallF := arg2 (fI (fun _ _ => True) fun i j => .int (max i j))
theorem cd_max2 {K : PySem.W.Frag} : CallD K PL (fun xs H Q => ∃ i j, xs = [.int i, .int j] ∧ Q (.int (if j > i then j else i)) H) fMax2 := by
  intro G B c σ H xs vs k Q hc rx hf hq
  obtain ⟨x, y, rfl, hf⟩ := arg2_ok hf
  obtain ⟨i, j, rfl, rfl, _, hf⟩ := fI_ok hf
  obtain ⟨v, u, rfl, h1, h2⟩ := repHs2 rx
  have e : v = .int i := h1
  have e2 : u = .int j := h2
  subst e e2
  refine ⟨i, j, rfl, hq _ _ B H hf (Same.refl B) ⟨hc, ?_⟩⟩
  unfold Rep
  have : (if j > i then j else i) = max i j := by split <;> omega
  rw [this]
/-- tuple(..), list(..) of a list or a tuple -/
def tupleD (x : Dt) (k : Res → Prop) : Prop := match x with
  | .lst l => k (.dat (.tup l))
  | .tup l => k (.dat (.tup l))
  | _ => False
def fTuple : CallF := arg1 tupleD
theorem cd_tuple {K : PySem.W.Frag} : CallD K PL (fun xs H Q => ∃ p ys, xs = [.ref p] ∧ ((SqL K H p ys ∧ ∀ l, H l = none → Q (.ref l) (upd H l (.tup ys))) ∨ (SqT K H p ys ∧ Q (.ref p) H))) fTuple := by
  intro G B c σ H xs vs k Q hc rx hf hq
  obtain ⟨x, rfl, hf⟩ := arg1_ok hf
  cases x with
  | lst l =>
    obtain ⟨v, rfl, a, ys, rfl, h1, h2⟩ := repHs1 rx
    refine ⟨a, ys, rfl, .inl ⟨.of h1, fun p hp => ?_⟩⟩
    obtain ⟨e2, cr⟩ := conc_tup hc hp h2
    exact hq _ _ _ _ hf e2 cr
  | tup l =>
    obtain ⟨v, rfl, a, ys, rfl, h1, h2⟩ := repHs1 rx
    exact ⟨a, ys, rfl, .inr ⟨sameT hc.same h1, hq _ _ B H hf (Same.refl B) ⟨hc, by unfold Rep; exact ⟨a, ys, rfl, h1, h2⟩⟩⟩⟩
  | _ => exact hf.elim
def listD (x : Dt) (k : Res → Prop) : Prop := match x with
  | .lst l => k (.new (.lst l))
  | .tup l => k (.new (.lst l))
  | _ => False
def fList : CallF := arg1 listD
theorem cd_list {K : PySem.W.Frag} : CallD K PL (fun xs H Q => ∃ p ys, xs = [.ref p] ∧ (SqL K H p ys ∨ SqT K H p ys) ∧ ∀ l, H l = none → Q (.ref l) (upd H l (.lst ys))) fList := by
  intro G B c σ H xs vs k Q hc rx hf hq
  obtain ⟨x, rfl, hf⟩ := arg1_ok hf
  cases x with
  | lst l =>
    obtain ⟨v, rfl, a, ys, rfl, h1, h2⟩ := repHs1 rx
    exact ⟨a, ys, rfl, .inl (.of h1), fun p hp => hq _ _ _ _ hf (Same.refl B) (conc_lst hc hp h2)⟩
  | tup l =>
    obtain ⟨v, rfl, a, ys, rfl, h1, h2⟩ := repHs1 rx
    exact ⟨a, ys, rfl, .inr (sameT hc.same h1), fun p hp => hq _ _ _ _ hf (Same.refl B) (conc_lst hc hp h2)⟩
  | _ => exact hf.elim

/-! ### slices -/
def dNoPart : CEnv → (Option Int → CEnv → Prop) → Prop := fun c Q => Q none c
def dPart (de : DE) : CEnv → (Option Int → CEnv → Prop) → Prop := fun c Q => de c fun r c1 => match r with
  | .dat (.int i) => Q (some i) c1
  | _ => False
def lO (K : PySem.W.Frag) (PL : PoolP) (dp : CEnv → (Option Int → CEnv → Prop) → Prop) : TO := fun σ H Q => ∃ G B c Qd, Conc K PL G B c σ H ∧ dp c Qd ∧ ∀ o c' B' H', Qd o c' → Same B B' → Conc K PL G B' c' σ H' → Q o H'
structure QO (X : Cx) (PL : PoolP) (e : Option Expr) (dp : CEnv → (Option Int → CEnv → Prop) → Prop) : Prop where
  po : PO X e (lO X.K PL dp)
theorem PO.weak {e : Option Expr} {t t' : TO} (h : PO X e t) (hw : ∀ σ H Q, t' σ H Q → t σ H Q) : PO X e t' := ⟨fun pins s σ H Q I q => h.run pins s σ H Q I (hw _ _ _ q)⟩
theorem qo_none : QO X PL none dNoPart := ⟨PO.weak po_none fun σ H Q ⟨G, B, c, Qd, h1, h2, h3⟩ => h3 _ _ _ _ h2 (Same.refl B) h1⟩
theorem qo_some {e : Expr} {de : DE} (h : QE X PL e de) : QO X PL (some e) (dPart de) := ⟨PO.weak (po_some h.pe) fun σ H Q ⟨G, B, c, Qd, h1, h2, h3⟩ => by
  refine ⟨G, B, c, _, h1, h2, fun r c1 B1 H1 v hr e1 cr => ?_⟩
  cases r with
  | dat d =>
    cases d with
    | int i =>
      obtain ⟨c2, r2⟩ := cr
      unfold Rep at r2
      exact ⟨i, r2, h3 _ _ _ _ hr e1 c2⟩
    | _ => exact hr.elim
  | _ => exact hr.elim⟩
/-- the piece of a row from lo to hi -/
def cut {α : Type} (l : List α) (lo hi : Option Int) : List α := (l.drop (HT.sIx l.length 0 lo)).take (HT.sIx l.length l.length hi - HT.sIx l.length 0 lo)
theorem cut_rep {K : PySem.W.Frag} {B : Hp} {l : List Dt} {xs : List V} (h : RepL K B l xs) (lo hi : Option Int) : RepL K B (cut l lo hi) (cutV xs lo hi) := by
  unfold cut cutV
  rw [h.length]
  exact (h.drop _).take _
def fSl (x : Dt) (lo hi : Option Int) (k : Res → Prop) : Prop := match x with
  | .lst l => k (.new (.lst (cut l lo hi)))
  | .tup l => ¬ (HT.sIx l.length 0 lo = 0 ∧ HT.sIx l.length l.length hi = l.length) ∧ k (.dat (.tup (cut l lo hi)))
  | .str s => s.length ≤ 10000000 ∧ k (.dat (.str (cut s lo hi)))
  | _ => False
def dSl (da : DE) (dl dh : CEnv → (Option Int → CEnv → Prop) → Prop) : DE := fun c Q => da c fun r c1 => dl c1 fun lo c2 => dh c2 fun hi c3 => on1 (hd r) c3 fun x => fSl x lo hi fun z => Q z c3
theorem qe_sl {e : Expr} {lo hi : Option Expr} {p2 pos : Pos} {da : DE} {dl dh : CEnv → (Option Int → CEnv → Prop) → Prop} (h : QE X PL e da) (h1 : QO X PL lo dl) (h2 : QO X PL hi dh) : QE X PL (.Subscript e (.Slice lo hi none p2) pos) (dSl da dl dh) := by
  refine q_of (pe_slice (SlR.or sl_list (SlR.or sl_tup sl_str)) h.pe h1.po h2.po) fun G B c σ H Qd Q hc hd2 hq => ?_
  refine ⟨G, B, c, _, hc, hd2, fun r c1 B1 H1 v g1 e1 cr => ?_⟩
  obtain ⟨B2, e2, hc2, hh⟩ := cr.hold
  refine ⟨G, B2, c1, _, hc2, g1, fun o1 c2 B3 H2 g2 e3 hc3 => ?_⟩
  refine ⟨G, B3, c2, _, hc3, g2, fun o2 c3 B4 H3 g3 e4 hc4 => ?_⟩
  obtain ⟨x, rx, hf⟩ := on1_ok hc4 (hh.mono (e3.trans e4)) g3
  have ee : Same B B4 := ((e1.trans e2).trans e3).trans e4
  cases x with
  | lst l =>
    obtain ⟨a, xs, rfl, q1, q2⟩ := rx
    exact .inl ⟨a, xs, rfl, .of q1, fun p hp => hq _ _ B4 _ _ hf ee (conc_lst hc4 hp (cut_rep q2 _ _))⟩
  | tup l =>
    obtain ⟨a, xs, rfl, q1, q2⟩ := rx
    obtain ⟨f1, f2⟩ := hf
    refine .inr (.inl ⟨a, xs, rfl, sameT hc4.same q1, by rw [q2.length]; exact f1, fun p hp => ?_⟩)
    obtain ⟨e5, cr5⟩ := conc_tup hc4 hp (cut_rep q2 o1 o2)
    exact hq _ _ _ _ _ f2 (ee.trans e5) cr5
  | str s =>
    have q : v = .str (S s) := rx
    subst q
    obtain ⟨f1, f2⟩ := hf
    refine .inr (.inr ⟨S s, rfl, by rw [S_len]; exact sz7 f1, hq _ _ B4 _ _ f2 ee ⟨hc4, ?_⟩⟩)
    unfold Rep cutS cut
    rw [S_len]
    rfl
  | _ => exact hf.elim

/-! ### statements -/
theorem qs_of {st : Stmt} {t : TS} {ds : DS} (h : PS X st t) (hw : ∀ G B c σ H E D, Conc X.K PL G B c σ H → ds E c → (∀ c' B' σ' H', E.nx c' → Same B B' → Conc X.K PL G B' c' σ' H' → D.nx σ' H') →
  (∀ r c' B' σ' H' v, E.rt r c' → CR X.K PL G B' c' σ' H' r v → D.rt v H') → (∀ c' B' σ' H', E.bk c' → Same B B' → Conc X.K PL G B' c' σ' H' → D.bk σ' H') → (∀ c' B' σ' H', E.ct c' → Same B B' → Conc X.K PL G B' c' σ' H' → D.ct σ' H') → t D σ H) : QS X PL st ds :=
  ⟨PS.weak h fun D σ H ⟨G, B, c, E, h1, h2, h3, h4, h5, h6⟩ => hw G B c σ H E D h1 h2 h3 h4 h5 h6⟩
def dNext : DS := fun E c => E.nx c
def dSeq (s t : DS) : DS := fun E c => s { E with nx := t E } c
theorem qss_nil : QSs X PL [] dNext := ⟨PSs.weak pss_nil fun D σ H ⟨G, B, c, E, h1, h2, h3, h4, h5, h6⟩ => h3 _ _ _ _ h2 (Same.refl B) h1⟩
theorem qss_cons {st : Stmt} {rest : List Stmt} {s t : DS} (h : QS X PL st s) (h' : QSs X PL rest t) : QSs X PL (st :: rest) (dSeq s t) :=
  ⟨PSs.weak (pss_cons h.ps h'.pss) fun D σ H ⟨G, B, c, E, h1, h2, h3, h4, h5, h6⟩ => ⟨G, B, c, { E with nx := t E }, h1, h2, fun c' B' σ' H' q e hc' => ⟨G, B', c', E, hc', q, fun c2 B2 σ2 H2 q2 e2 => h3 c2 B2 σ2 H2 q2 (e.trans e2), h4, fun c2 B2 σ2 H2 q2 e2 => h5 c2 B2 σ2 H2 q2 (e.trans e2), fun c2 B2 σ2 H2 q2 e2 => h6 c2 B2 σ2 H2 q2 (e.trans e2)⟩, h4, h5, h6⟩⟩
theorem qss_one {st : Stmt} {s : DS} (h : QS X PL st s) : QSs X PL [st] s := ⟨pss_one h.ps⟩
def dBreak : DS := fun E c => E.bk c
def dCont : DS := fun E c => E.ct c
theorem qs_pass {pos : Pos} : QS X PL (.Pass pos) dNext := qs_of ps_pass fun G B c σ H E D h1 h2 h3 h4 h5 h6 => h3 _ _ _ _ h2 (Same.refl B) h1
theorem qs_break {pos : Pos} : QS X PL (.Break pos) dBreak := qs_of ps_break fun G B c σ H E D h1 h2 h3 h4 h5 h6 => h5 _ _ _ _ h2 (Same.refl B) h1
theorem qs_cont {pos : Pos} : QS X PL (.Continue pos) dCont := qs_of ps_continue fun G B c σ H E D h1 h2 h3 h4 h5 h6 => h6 _ _ _ _ h2 (Same.refl B) h1
def dDrop (de : DE) : DS := fun E c => de c fun _ c1 => E.nx c1
theorem qs_expr {e : Expr} {pos : Pos} {de : DE} (h : QE X PL e de) (hs : swapsWith e none pos.line X.env = pure false := by rfl) : QS X PL (.Expr e pos) (dDrop de) := by
  refine qs_of (ps_expr h.pe hs) fun G B c σ H E D h1 h2 h3 h4 h5 h6 => ?_
  exact ⟨G, B, c, _, h1, h2, fun r c1 B1 H1 v q e1 cr => h3 _ _ _ _ q e1 cr.conc⟩
/-- what a def hands back: an own object goes out of its hands -/
def toRet (r : Res) (c : CEnv) (k : Res → CEnv → Prop) : Prop := match r with
  | .dat d => k (.dat d) c
  | .new o => k (.new o) c
  | .sl i => match gt c i with
    | .dat d => k (.dat d) c
    | .own o => k (.sl i) c
    | _ => False
def dRet (de : DE) : DS := fun E c => de c fun r c1 => toRet r c1 E.rt
theorem qs_ret {e : Expr} {pos : Pos} {de : DE} (h : QE X PL e de) : QS X PL (.Return (some e) pos) (dRet de) := by
  refine qs_of (ps_ret h.pe) fun G B c σ H E D h1 h2 h3 h4 h5 h6 => ?_
  refine ⟨G, B, c, _, h1, h2, fun r c1 B1 H1 v q e1 cr => ?_⟩
  cases r with
  | dat d => exact h4 _ _ _ _ _ _ q cr
  | new o => exact h4 _ _ _ _ _ _ q cr
  | sl i =>
    unfold toRet at q
    cases g : gt c1 i with
    | dat d =>
      simp only [g] at q
      obtain ⟨v', q1, q2⟩ := cr.1.getDat g
      have e := cr.2
      rw [q1] at e
      cases e
      exact h4 _ _ _ _ _ _ q ⟨cr.1, q2⟩
    | own o =>
      simp only [g] at q
      exact h4 _ _ _ _ _ _ q cr
    | no => simp only [g] at q
    | arg o => simp only [g] at q
def dRetN : DS := fun E c => E.rt (.dat .non) c
theorem qs_retN {pos : Pos} : QS X PL (.Return none pos) dRetN := by
  refine qs_of ps_retN fun G B c σ H E D h1 h2 h3 h4 h5 h6 => ?_
  exact h4 _ _ _ _ _ _ h2 ⟨h1, by unfold Rep; rfl⟩
def dIf (t : DT) (a b : DS) : DS := fun E c => t c fun k c1 => br k (a E c1) (b E c1)
theorem qs_if {t : Expr} {a b : List Stmt} {pos : Pos} {dt : DT} {da db : DS} (ht : QT X PL t dt) (ha : QSs X PL a da) (hb : QSs X PL b db) : QS X PL (.If t a b pos) (dIf dt da db) := by
  refine qs_of (ps_if ht.pt ha.pss hb.pss) fun G B c σ H E D h1 h2 h3 h4 h5 h6 => ?_
  refine ⟨G, B, c, _, h1, h2, fun k c1 B1 H1 q e1 hc1 => ?_⟩
  cases k with
  | true =>
    rw [if_pos rfl]
    exact ⟨G, B1, c1, E, hc1, q, fun c2 B2 σ2 H2 q2 e2 => h3 c2 B2 σ2 H2 q2 (e1.trans e2), h4, fun c2 B2 σ2 H2 q2 e2 => h5 c2 B2 σ2 H2 q2 (e1.trans e2), fun c2 B2 σ2 H2 q2 e2 => h6 c2 B2 σ2 H2 q2 (e1.trans e2)⟩
  | false =>
    rw [if_neg Bool.false_ne_true]
    exact ⟨G, B1, c1, E, hc1, q, fun c2 B2 σ2 H2 q2 e2 => h3 c2 B2 σ2 H2 q2 (e1.trans e2), h4, fun c2 B2 σ2 H2 q2 e2 => h5 c2 B2 σ2 H2 q2 (e1.trans e2), fun c2 B2 σ2 H2 q2 e2 => h6 c2 B2 σ2 H2 q2 (e1.trans e2)⟩
/-- a name is given what an expression gave -/
def put (i : Nat) (r : Res) (c : CEnv) (k : CEnv → Prop) : Prop := match r with
  | .dat d => k (c.set i (.dat d))
  | .new o => i < c.length ∧ k (c.set i (.own o))
  | .sl j => match gt c j with
    | .dat d => k (c.set i (.dat d))
    | .own (.lst l) => k ((c.set j (.dat (.lst l))).set i (.dat (.lst l)))
    | _ => False
theorem put_ok {K : PySem.W.Frag} {G : Ent} {B : Hp} {c : CEnv} {σ : L2.St} {H : Hp} {i : Nat} {r : Res} {v : V} {k : CEnv → Prop} (cr : CR K PL G B c σ H r v) (h : put i r c k) : ∃ B' c', k c' ∧ Same B B' ∧ Conc K PL G B' c' (σ.set i (some v)) H := by
  cases r with
  | dat d => exact ⟨B, _, h, Same.refl B, cr.1.setDat cr.2⟩
  | new o => exact ⟨B, _, h.2, Same.refl B, Conc.setNew h.1 cr⟩
  | sl j =>
    unfold put at h
    cases g : gt c j with
    | dat d =>
      simp only [g] at h
      obtain ⟨v', q1, q2⟩ := cr.1.getDat g
      have e := cr.2
      rw [q1] at e
      cases e
      exact ⟨B, _, h, Same.refl B, cr.1.setDat q2⟩
    | own o =>
      cases o with
      | lst l =>
        simp only [g] at h
        obtain ⟨B', e1, e2, e3⟩ := cr.1.freezeAt (gt_get g (by simp)) cr.2
        exact ⟨B', _, h, e1, e2.setDat e3⟩
      | pool => simp only [g] at h
    | no => simp only [g] at h
    | arg o => simp only [g] at h
def dAsg (i : Nat) (de : DE) : DS := fun E c => de c fun r c1 => put i r c1 E.nx
theorem qs_set {i : Nat} {x : Str} {e : Expr} {de : DE} {pos pos' : Pos} (h : QE X PL e de) (hN : X.N.Nodup) (hi : X.N[i]? = some x) (hx : Loc X.env.scope x) (hs : swapsWith e (some (.Name x pos')) pos.line X.env = pure false := by rfl)
    (hf : X.fn x = true ∨ X.env.scope.names.lookup x = some .local := by first | exact .inl rfl | exact .inr rfl | assumption) : QS X PL (.Assign [.Name x pos'] e pos) (dAsg i de) := by
  refine qs_of (ps_set hN hi hx h.pe hs hf) fun G B c σ H E D h1 h2 h3 h4 h5 h6 => ?_
  refine ⟨G, B, c, _, h1, h2, fun r c1 B1 H1 v q e1 cr => ?_⟩
  obtain ⟨B', c', q1, q0, q2⟩ := put_ok cr q
  exact h3 _ _ _ _ q1 (e1.trans q0) q2
/-- x op= e on data -/
def dAug (i : Nat) (f : OpF) (de : DE) : DS := fun E c => match gt c i with
  | .dat x => de c fun r c1 => on1 (hd r) c1 fun y => f x y fun z => put i z c1 E.nx
  | _ => False
theorem qs_aug {i : Nat} {x : Str} {e : Expr} {de : DE} {op : Operator} {ti : TIp} {f : OpF} {pos pos' : Pos} (h : QE X PL e de) (hN : X.N.Nodup) (hi : X.N[i]? = some x) (hx : Loc X.env.scope x) (ho : PIp X op ti) (hf' : OpD X.K PL ti f)
    (hf : X.fn x = true ∨ X.env.scope.names.lookup x = some .local := by first | exact .inl rfl | exact .inr rfl | assumption) : QS X PL (.AugAssign (.Name x pos') op e pos) (dAug i f de) := by
  refine qs_of (ps_aug hN hi hx h.pe ho hf) fun G B c σ H E D h1 h2 h3 h4 h5 h6 => ?_
  unfold dAug at h2
  cases g : gt c i with
  | dat d =>
    simp only [g] at h2
    obtain ⟨v, q1, q2⟩ := h1.getDat g
    refine ⟨v, q1, G, B, c, _, h1, h2, fun r c1 B1 H1 u q e1 cr => ?_⟩
    obtain ⟨B2, e2, hc2, hh⟩ := cr.hold
    obtain ⟨y, ry, hf2⟩ := on1_ok hc2 hh q
    refine hf' G B2 c1 σ H1 d y v u _ _ hc2 ((q2.mono (e1.trans e2)).toH hc2.same) ry hf2 fun z w B' H' hk e' cr' => ?_
    obtain ⟨B'', c', p1, p0, p2⟩ := put_ok cr' hk
    exact h3 _ _ _ _ p1 (((e1.trans e2).trans e').trans p0) p2
  | no => simp only [g] at h2
  | own o => simp only [g] at h2
  | arg o => simp only [g] at h2
end
end Cl

namespace Cl
open PySem PySem.Spec PyProof.Rows L2

section
variable {X : Cx} {PL : PoolP}
/-! ### targets -/
abbrev DG := Dt → CEnv → (CEnv → Prop) → Prop
abbrev DGs := List Dt → CEnv → (CEnv → Prop) → Prop
def lG (K : PySem.W.Frag) (PL : PoolP) (g : DG) : TG := fun v σ H Q => ∃ G B c d Qd, Conc K PL G B c σ H ∧ Rep K B d v ∧ g d c Qd ∧ ∀ c' B' σ' H', Qd c' → Same B B' → Conc K PL G B' c' σ' H' → σ'.length = σ.length → Q σ' H'
def lGs (K : PySem.W.Frag) (PL : PoolP) (g : DGs) : TGs := fun vs σ H Q => ∃ G B c ds Qd, Conc K PL G B c σ H ∧ RepL K B ds vs ∧ g ds c Qd ∧ ∀ c' B' σ' H', Qd c' → Same B B' → Conc K PL G B' c' σ' H' → σ'.length = σ.length → Q σ' H'
structure QG (X : Cx) (PL : PoolP) (e : Expr) (g : DG) : Prop where
  pg : PG X e (lG X.K PL g)
structure QGs (X : Cx) (PL : PoolP) (es : List Expr) (g : DGs) : Prop where
  pgs : PGs X es (lGs X.K PL g)
theorem PG.weak {e : Expr} {t t' : TG} (h : PG X e t) (hw : ∀ v σ H Q, t' v σ H Q → t v σ H Q) : PG X e t' := ⟨fun pins s σ H v u Q I r q => h.run pins s σ H v u Q I r (hw _ _ _ _ q)⟩
theorem PGs.weak {e : List Expr} {t t' : TGs} (h : PGs X e t) (hw : ∀ v σ H Q, t' v σ H Q → t v σ H Q) : PGs X e t' := ⟨fun pins s σ H v u Q I r q => h.run pins s σ H v u Q I r (hw _ _ _ _ q)⟩
def gN (i : Nat) : DG := fun d c Q => Q (c.set i (.dat d))
theorem qg_name {i : Nat} {x : Str} {pos : Pos} (hN : X.N.Nodup) (hi : X.N[i]? = some x) (hx : Loc X.env.scope x) (hf : X.fn x = true ∨ X.env.scope.names.lookup x = some .local := by first | exact .inl rfl | exact .inr rfl | assumption) : QG X PL (.Name x pos) (gN i) :=
  ⟨PG.weak (pg_name hN hi hx hf) fun v σ H Q ⟨G, B, c, d, Qd, h1, h2, h3, h4⟩ => h4 _ B _ H h3 (Same.refl B) (h1.setDat h2) (by rw [List.length_set])⟩
def gsNil : DGs := fun ds c Q => ds = [] ∧ Q c
def gsCons (g : DG) (gs : DGs) : DGs := fun ds c Q => match ds with
  | d :: r => g d c fun c1 => gs r c1 Q
  | [] => False
theorem qgs_nil : QGs X PL [] gsNil := ⟨PGs.weak pgs_nil fun vs σ H Q ⟨G, B, c, ds, Qd, h1, h2, h3, h4⟩ => by
  obtain ⟨rfl, h5⟩ := h3
  unfold RepL at h2
  exact ⟨h2, h4 _ _ _ _ h5 (Same.refl B) h1 rfl⟩⟩
theorem qgs_cons {e : Expr} {es : List Expr} {g : DG} {gs : DGs} (h : QG X PL e g) (h' : QGs X PL es gs) (hs : (assignEach (e :: es) X.env).map (·.2) = assign e X.env :: (assignEach es X.env).map (·.2) := by rfl) : QGs X PL (e :: es) (gsCons g gs) :=
  ⟨PGs.weak (pgs_cons h.pg h'.pgs hs) fun vs σ H Q ⟨G, B, c, ds, Qd, h1, h2, h3, h4⟩ => by
    cases ds with
    | nil => exact h3.elim
    | cons d r =>
      unfold RepL at h2
      obtain ⟨x, xs, e1, r1, r2⟩ := h2
      refine ⟨x, xs, e1, G, B, c, d, _, h1, r1, h3, fun c1 B1 σ1 H1 q1 s1 hc1 l1 => ?_⟩
      exact ⟨G, B1, c1, r, _, hc1, r2.mono s1, q1, fun c2 B2 σ2 H2 q2 s2 hc2 l2 => h4 _ _ _ _ q2 (s1.trans s2) hc2 (l2.trans l1)⟩⟩
/-- (a, b, ..) = a tuple -/
def gT (n : Nat) (gs : DGs) : DG := fun d c Q => match d with
  | .tup l => l.length = n ∧ gs l c Q
  | _ => False
theorem qg_tup {es : List Expr} {k : Nat} {gs : DGs} {n : Nat} {pos : Pos} (hc : X.calm = true) (h : QGs X PL es gs) (hn : (assignEach es X.env).length = n := by rfl) (hst : (assignEach es X.env).findIdx? (·.1) = none := by rfl) : QG X PL (.Tuple es k pos) (gT n gs) :=
  ⟨PG.weak (pg_tup hc h.pgs hn hst) fun v σ H Q ⟨G, B, c, d, Qd, h1, h2, h3, h4⟩ => by
    cases d with
    | tup l =>
      unfold Rep at h2
      obtain ⟨a, xs, e1, r1, r2⟩ := h2
      obtain ⟨h5, h6⟩ := h3
      exact ⟨a, xs, e1, sameT h1.same r1, by rw [r2.length]; exact h5, G, B, c, l, _, h1, r2, h6, h4⟩
    | _ => exact h3.elim⟩
/-- target = e, the target a tuple -/
def dAsgG (g : DG) (de : DE) : DS := fun E c => de c fun r c1 => asD r c1 fun d c2 => g d c2 E.nx
theorem qs_asg {tg e : Expr} {de : DE} {g : DG} {pos : Pos} (he : QE X PL e de) (hg : QG X PL tg g) (hs : swapsWithSole [tg] e pos.line X.env = pure false := by rfl) (hw : swappedStores [tg] e X.env = pure none := by rfl)
    (h1 : (assignEach [tg] X.env).map (·.2) = [assign tg X.env] := by rfl) : QS X PL (.Assign [tg] e pos) (dAsgG g de) := by
  refine qs_of (ps_asg he.pe hg.pg hs hw h1) fun G B c σ H E D h1 h2 h3 h4 h5 h6 => ?_
  refine ⟨G, B, c, _, h1, h2, fun r c1 B1 H1 v q e1 cr => ?_⟩
  obtain ⟨B2, c2, d, e2, hc2, rd, q2⟩ := asD_ok cr q
  exact ⟨G, B2, c2, d, _, hc2, rd, q2, fun c3 B3 σ3 H3 q3 e3 hc3 _ => h3 _ _ _ _ q3 ((e1.trans e2).trans e3) hc3⟩
/-- a, b = e1, e2 with names -/
def dPar (i j : Nat) (da : DL) : DS := fun E c => da c fun ds c1 => match ds with
  | [d, e] => E.nx ((c1.set i (.dat d)).set j (.dat e))
  | _ => False
theorem qs_par {i j : Nat} {x y : Str} {a b : Expr} {da : DL} {px py pt pos : Pos} {kt k2 : Nat} {pt2 : Pos} (ha : QL X PL [a, b] da) (hc : X.calm = true) (hN : X.N.Nodup) (hi : X.N[i]? = some x) (hj : X.N[j]? = some y) (hij : i ≠ j)
    (hx : X.env.scope.names.lookup x = some .local) (hy : X.env.scope.names.lookup y = some .local)
    (hw : swappedStores [.Tuple [.Name x px, .Name y py] kt pt] (.Tuple [a, b] k2 pt2) X.env = pure (some [x, y]))
    (hs : swapsWithSole [.Tuple [.Name x px, .Name y py] kt pt] (.Tuple [a, b] k2 pt2) pos.line X.env = pure false := by rfl) :
    QS X PL (.Assign [.Tuple [.Name x px, .Name y py] kt pt] (.Tuple [a, b] k2 pt2) pos) (dPar i j da) := by
  refine qs_of (ps_par hc hN hi hj hij hx hy ha.pa hw hs) fun G B c σ H E D h1 h2 h3 h4 h5 h6 => ?_
  refine ⟨G, B, c, _, h1, h2, fun ds c1 B1 H1 vs q e1 hc1 rl => ?_⟩
  match ds, q, rl with
  | [d, e], q, rl =>
    unfold RepL at rl
    obtain ⟨v, r, rfl, r1, r2⟩ := rl
    unfold RepL at r2
    obtain ⟨w, r, rfl, r2, r3⟩ := r2
    unfold RepL at r3
    subst r3
    exact ⟨v, w, rfl, h3 _ _ _ _ q e1 ((hc1.setDat r1).setDat r2)⟩
  | [], q, _ => exact q.elim
  | [_], q, _ => exact q.elim
  | _ :: _ :: _ :: _, q, _ => exact q.elim

/-! ### what is walked -/
abbrev DI := CEnv → (List Dt → CEnv → Prop) → Prop
structure ItemsOf (K : PySem.W.Frag) (PL : PoolP) (B : Hp) (J : It) (ds : List Dt) : Prop where
  go : ∀ i H, Same B H → i < ds.length → J.go i H
  stop : ∀ H, Same B H → J.stop ds.length H
  yld : ∀ i H x H', i < ds.length → J.yld i H x H' → ∀ G B1 c σ, Same B B1 → Conc K PL G B1 c σ H → ∃ B2 d, ds[i]? = some d ∧ Same B1 B2 ∧ Conc K PL G B2 c σ H' ∧ Rep K B2 d x
def lI (K : PySem.W.Frag) (PL : PoolP) (di : DI) : TI := fun σ H R => ∃ G B c Qd, Conc K PL G B c σ H ∧ di c Qd ∧ ∀ ds c' B' H' J, Qd ds c' → Same B B' → Conc K PL G B' c' σ H' → ItemsOf K PL B' J ds → R J H'
structure QI (X : Cx) (PL : PoolP) (tg iter : Expr) (di : DI) : Prop where
  pi : PI X tg iter (lI X.K PL di)
theorem PI.weak {tg e : Expr} {t t' : TI} (h : PI X tg e t) (hw : ∀ σ H R, t' σ H R → t σ H R) : PI X tg e t' := ⟨fun pins s σ H R I q => h.run pins s σ H R I (hw _ _ _ q)⟩
theorem items_list {K : PySem.W.Frag} {B : Hp} {a : Addr} {xs : List V} {ds : List Dt} (h : SqL K B a xs) (r : RepL K B ds xs) : ItemsOf K PL B (Itl K a) ds where
  go := fun i H e hi => ⟨xs, xs[i]'(by rw [r.length]; exact hi), e.seq h, by simp⟩
  stop := fun H e => ⟨xs, e.seq h, by rw [r.length]; exact Nat.le_refl _⟩
  yld := fun i H x H' hi y G B1 c σ e1 hc => by
    obtain ⟨rfl, y⟩ := y
    obtain ⟨d, e2, e3⟩ := r.getV (y xs ((e1.trans hc.same).seq h))
    exact ⟨B1, d, e2, Same.refl _, hc, e3.mono e1⟩
theorem items_tup {K : PySem.W.Frag} {B : Hp} {a : Addr} {xs : List V} {ds : List Dt} (h : SqT K B a xs) (r : RepL K B ds xs) : ItemsOf K PL B (Itt K a) ds where
  go := fun i H e hi => ⟨xs, xs[i]'(by rw [r.length]; exact hi), sameT e h, by simp⟩
  stop := fun H e => ⟨xs, sameT e h, by rw [r.length]; exact Nat.le_refl _⟩
  yld := fun i H x H' hi y G B1 c σ e1 hc => by
    obtain ⟨rfl, y⟩ := y
    obtain ⟨d, e2, e3⟩ := r.getV (y xs (sameT (e1.trans hc.same) h))
    exact ⟨B1, d, e2, Same.refl _, hc, e3.mono e1⟩
def chs (s : List Nat) : List Dt := s.map fun ch => .str [ch]
theorem items_str {K : PySem.W.Frag} {B : Hp} {s : List Nat} : ItemsOf K PL B (Its (S s)) (chs s) where
  go := fun i H e hi => by
    unfold chs at hi
    rw [List.length_map] at hi
    show i < (S s).cps.size
    simpa [S] using hi
  stop := fun H e => by
    show (S s).cps.size ≤ (chs s).length
    simp [S, chs]
  yld := fun i H x H' hi y G B1 c σ e1 hc => by
    obtain ⟨rfl, ch, h1, h2⟩ := y
    have h3 : s[i]? = some ch := by simpa [S] using h1
    refine ⟨B1, .str [ch], ?_, Same.refl _, hc, ?_⟩
    · unfold chs
      rw [List.getElem?_map, h3]
      rfl
    · rw [h2]
      unfold Rep
      rfl
def rngD (lo : Int) (n : Nat) : List Dt := (List.range n).map fun (k : Nat) => .int (lo + (k : Int))
theorem items_rng {K : PySem.W.Frag} {B : Hp} {lo : Int} {n : Nat} : ItemsOf K PL B (Itr lo n) (rngD lo n) where
  go := fun i H e hi => by
    unfold rngD at hi
    rw [List.length_map, List.length_range] at hi
    exact hi
  stop := fun H e => by
    show n ≤ (rngD lo n).length
    simp [rngD]
  yld := fun i H x H' hi y G B1 c σ e1 hc => by
    obtain ⟨rfl, h2⟩ := y
    unfold rngD at hi
    rw [List.length_map, List.length_range] at hi
    refine ⟨B1, .int (lo + (i : Int)), ?_, Same.refl _, hc, ?_⟩
    · unfold rngD
      rw [List.getElem?_map, List.getElem?_range hi]
      rfl
    · rw [h2]
      unfold Rep
      rfl
def rngC (lo st : Int) (n : Nat) : List Dt := (List.range n).map fun (k : Nat) => .int (lo + (k : Int) * st)
theorem items_rngC {K : PySem.W.Frag} {B : Hp} {lo st : Int} {n : Nat} : ItemsOf K PL B (Itc lo st n) (rngC lo st n) where
  go := fun i H e hi => by
    unfold rngC at hi
    rw [List.length_map, List.length_range] at hi
    exact hi
  stop := fun H e => by
    show n ≤ (rngC lo st n).length
    simp [rngC]
  yld := fun i H x H' hi y G B1 c σ e1 hc => by
    obtain ⟨rfl, h2⟩ := y
    unfold rngC at hi
    rw [List.length_map, List.length_range] at hi
    refine ⟨B1, .int (lo + (i : Int) * st), ?_, Same.refl _, hc, ?_⟩
    · unfold rngC
      rw [List.getElem?_map, List.getElem?_range hi]
      rfl
    · rw [h2]
      unfold Rep
      rfl
/-- anything with items: a list, a tuple, a text -/
theorem pi_any {tg l : Expr} {tl : TE} (hl : PE X l tl) : PI X tg l (fun σ H R => tl σ H fun x H1 => (∃ a xs, x = .ref a ∧ SqL X.K H1 a xs ∧ R (Itl X.K a) H1) ∨ (∃ a xs, x = .ref a ∧ SqT X.K H1 a xs ∧ R (Itt X.K a) H1) ∨ ∃ z, x = .str z ∧ R (Its z) H1) := by
  refine ⟨fun pins s σ H R I hw => thn (hl.run pins s σ H _ I hw) fun v s1 ⟨x, H1, I1, rv, q⟩ => ?_⟩
  rcases q with ⟨a, xs, rfl, hs, q⟩ | ⟨a, xs, rfl, hs, q⟩ | ⟨z, rfl, q⟩
  · obtain ⟨its, _, p, _⟩ := I1.list hs
    cases rv
    exact wpAny_pyIter_list p.isList (pi_one (tk := s1.toks) I1 _ (turn_list a _) ⟨_, Heap.get?_push_size _ rfl, rfl, rfl⟩ q)
  · obtain ⟨its, _, p, _⟩ := I1.tuple hs
    cases rv
    exact wpAny_pyIter_tuple (show s1.heap.IsTuple a its.toArray from p) (pi_one (tk := s1.toks) I1 _ (turn_tuple a _) ⟨_, Heap.get?_push_size _ rfl, rfl, rfl⟩ q)
  · obtain ⟨t, rfl⟩ := rv
    cases g : z.cps.all (· < 128)
    · exact wpAny_pyIter_wide g (pi_one (tk := s1.toks) I1 _ (turn_str _ z t _ (.inr rfl)) ⟨_, Heap.get?_push_size _ rfl, rfl, rfl⟩ q)
    · exact wpAny_pyIter_ascii g (pi_one (tk := s1.toks) I1 _ (turn_str _ z t _ (.inl rfl)) ⟨_, Heap.get?_push_size _ rfl, rfl, rfl⟩ q)
def itemsD (d : Dt) (k : List Dt → Prop) : Prop := match d with
  | .lst l => k l
  | .tup l => k l
  | .frz l => k l
  | .str s => k (chs s)
  | _ => False
def dItems (de : DE) : DI := fun c Q => de c fun r c1 => asD r c1 fun d c2 => itemsD d fun l => Q l c2
theorem qi_of {tg e : Expr} {t : TI} {di : DI} (h : PI X tg e t) (hw : ∀ G B c σ H Qd R, Conc X.K PL G B c σ H → di c Qd → (∀ ds c' B' H' J, Qd ds c' → Same B B' → Conc X.K PL G B' c' σ H' → ItemsOf X.K PL B' J ds → R J H') → t σ H R) : QI X PL tg e di :=
  ⟨PI.weak h fun σ H R ⟨G, B, c, Qd, h1, h2, h3⟩ => hw G B c σ H Qd R h1 h2 h3⟩
theorem qi_any {tg e : Expr} {de : DE} (h : QE X PL e de) : QI X PL tg e (dItems de) := by
  refine qi_of (pi_any h.pe) fun G B c σ H Qd R hc hd2 hq => ?_
  refine ⟨G, B, c, _, hc, hd2, fun r c1 B1 H1 v g1 e1 cr => ?_⟩
  obtain ⟨B2, c2, d, e2, hc2, rd, g2⟩ := asD_ok cr g1
  cases d with
  | lst l =>
    unfold Rep at rd
    obtain ⟨a, xs, rfl, q1, q2⟩ := rd
    exact .inl ⟨a, xs, rfl, .of (hc2.same _ _ q1), hq _ _ B2 _ _ g2 (e1.trans e2) hc2 (items_list (.of q1) q2)⟩
  | tup l =>
    unfold Rep at rd
    obtain ⟨a, xs, rfl, q1, q2⟩ := rd
    exact .inr (.inl ⟨a, xs, rfl, sameT hc2.same q1, hq _ _ B2 _ _ g2 (e1.trans e2) hc2 (items_tup q1 q2)⟩)
  | frz l =>
    unfold Rep at rd
    obtain ⟨a, xs, rfl, q1, q2⟩ := rd
    exact .inl ⟨a, xs, rfl, hc2.same.seq q1, hq _ _ B2 _ _ g2 (e1.trans e2) hc2 (items_list q1 q2)⟩
  | str s =>
    unfold Rep at rd
    subst rd
    exact .inr (.inr ⟨S s, rfl, hq _ _ B2 _ _ g2 (e1.trans e2) hc2 items_str⟩)
  | _ => exact g2.elim
/-- range(n), range(a, b), range(a, b, s) -/
def dRng1 (da : DL) : DI := fun c Q => da c fun ds c1 => match ds with
  | [.int n] => (n ≤ 1000000000 ∧ -1000000000 ≤ n) ∧ Q (rngD 0 n.toNat) c1
  | _ => False
theorem int_of {ds : List Dt} {k : Int → Prop} (h : match ds with
  | [.int n] => k n
  | _ => False) : ∃ n, ds = [.int n] ∧ k n := by
  cases ds with
  | nil => exact h.elim
  | cons d r =>
    cases d with
    | int n =>
      cases r with
      | nil => exact ⟨n, rfl, h⟩
      | cons e r => exact h.elim
    | _ => exact h.elim
theorem qi_rng1 {tg a : Expr} {da : DL} {p pos : Pos} (h : QL X PL [a] da) (hg : Gl X "range") (hm : X.mg "range" = none) (hs : starEach [a] X.env = [(false, eval a X.env)] := by rfl) : QI X PL tg (.Call (.Name "range" p) [a] [] pos) (dRng1 da) := by
  refine qi_of (pi_range1 hg hm h.pa hs) fun G B c σ H Qd R hc hd2 hq => ?_
  refine ⟨G, B, c, _, hc, hd2, fun ds c1 B1 H1 vs g1 e1 hc1 rl => ?_⟩
  obtain ⟨n, rfl, ⟨h1, h2⟩, h3⟩ := int_of (k := fun n => (n ≤ 1000000000 ∧ -1000000000 ≤ n) ∧ Qd (rngD 0 n.toNat) c1) g1
  unfold RepL at rl
  obtain ⟨v, r, rfl, r1, r2⟩ := rl
  unfold RepL at r2
  subst r2
  unfold Rep at r1
  subst r1
  exact ⟨n, rfl, by omega, by omega, hq _ _ B1 _ _ h3 e1 hc1 items_rng⟩
def cints2 (ds : List Dt) (k : Int → Int → Prop) : Prop := match ds with
  | [.int a, .int b] => k a b
  | _ => False
theorem cints2_ok {ds : List Dt} {k : Int → Int → Prop} (h : cints2 ds k) : ∃ a b, ds = [.int a, .int b] ∧ k a b := by
  cases ds with
  | nil => exact h.elim
  | cons d r =>
    cases d with
    | int n =>
      cases r with
      | nil => exact h.elim
      | cons e r =>
        cases e with
        | int m =>
          cases r with
          | nil => exact ⟨n, m, rfl, h⟩
          | cons f r => exact h.elim
        | _ => exact h.elim
    | _ => exact h.elim
def dRng2 (da : DL) : DI := fun c Q => da c fun ds c1 => cints2 ds fun a b => (a ≤ 1000000000 ∧ -1000000000 ≤ a ∧ b ≤ 1000000000 ∧ -1000000000 ≤ b) ∧ Q (rngD a (b - a).toNat) c1
theorem qi_rng2 {tg a b : Expr} {da : DL} {p pos : Pos} (h : QL X PL [a, b] da) (hg : Gl X "range") (hm : X.mg "range" = none) (hs : starEach [a, b] X.env = [(false, eval a X.env), (false, eval b X.env)] := by rfl) (hs2 : starEach [b] X.env = [(false, eval b X.env)] := by rfl) :
    QI X PL tg (.Call (.Name "range" p) [a, b] [] pos) (dRng2 da) := by
  refine qi_of (pi_range2 hg hm h.pa hs hs2) fun G B c σ H Qd R hc hd2 hq => ?_
  refine ⟨G, B, c, _, hc, hd2, fun ds c1 B1 H1 vs g1 e1 hc1 rl => ?_⟩
  obtain ⟨i, j, rfl, h1, h3⟩ := cints2_ok g1
  unfold RepL at rl
  obtain ⟨v, r, rfl, r1, r2⟩ := rl
  unfold RepL at r2
  obtain ⟨w, r, rfl, r2, r3⟩ := r2
  unfold RepL at r3
  subst r3
  unfold Rep at r1 r2
  subst r1 r2
  exact ⟨i, j, rfl, by omega, hq _ _ B1 _ _ h3 e1 hc1 items_rng⟩
def cints3 (ds : List Dt) (k : Int → Int → Int → Prop) : Prop := match ds with
  | .int a :: r => cints2 r (k a)
  | _ => False
theorem cints3_ok {ds : List Dt} {k : Int → Int → Int → Prop} (h : cints3 ds k) : ∃ a b d, ds = [.int a, .int b, .int d] ∧ k a b d := by
  cases ds with
  | nil => exact h.elim
  | cons d r =>
    cases d with
    | int n =>
      obtain ⟨b, e, rfl, h2⟩ := cints2_ok (show cints2 r (k n) from h)
      exact ⟨n, b, e, rfl, h2⟩
    | _ => exact h.elim
def dRng3 (da : DL) : DI := fun c Q => da c fun ds c1 => cints3 ds fun a b s => ∃ n, RgC a b s n ∧ Q (rngC a s n) c1
theorem qi_rng3 {tg a b d : Expr} {da : DL} {p pos : Pos} (h : QL X PL [a, b, d] da) (hg : Gl X "range") (hm : X.mg "range" = none) (hs : starEach [a, b, d] X.env = (false, eval a X.env) :: starEach [b, d] X.env := by rfl) (hpl : (backTo pos (starEach [b, d] X.env)).any (·.1) = false := by rfl) :
    QI X PL tg (.Call (.Name "range" p) [a, b, d] [] pos) (dRng3 da) := by
  refine qi_of (pi_range3 hg hm h.pa hs hpl) fun G B c σ H Qd R hc hd2 hq => ?_
  refine ⟨G, B, c, _, hc, hd2, fun ds c1 B1 H1 vs g1 e1 hc1 rl => ?_⟩
  obtain ⟨i, j, k, rfl, n, h1, h3⟩ := cints3_ok g1
  unfold RepL at rl
  obtain ⟨v, r, rfl, r1, r2⟩ := rl
  unfold RepL at r2
  obtain ⟨w, r, rfl, r2, r3⟩ := r2
  unfold RepL at r3
  obtain ⟨u, r, rfl, r3, r4⟩ := r3
  unfold RepL at r4
  subst r4
  unfold Rep at r1 r2 r3
  subst r1 r2 r3
  exact ⟨i, j, k, n, rfl, h1, hq _ _ B1 _ _ h3 e1 hc1 items_rngC⟩

/-! ### for, while -/
def dFor (di : DI) (g : DG) (body : DS) : DS := fun E c => di c fun ds c1 => ∃ I : Nat → CEnv → Prop, I 0 c1 ∧
  (∀ k d c', ds[k]? = some d → I k c' → g d c' fun c2 => body { nx := I (k + 1), rt := E.rt, bk := E.nx, ct := I (k + 1) } c2) ∧ ∀ c', I ds.length c' → E.nx c'
theorem qs_for {tg iter : Expr} {body : List Stmt} {di : DI} {g : DG} {db : DS} {pos : Pos} (hi : QI X PL tg iter di) (hg : QG X PL tg g) (hb : QSs X PL body db) (hp : PassesOwn (model X.prog X.w) X.A X.env X.xe) (hc : X.calm = true)
    (hs : ∀ x, foldedSetIterable iter X.env x = pure x := by intro _; rfl) : QS X PL (.For tg iter body [] pos) (dFor di g db) := by
  refine qs_of (ps_for hp hc hi.pi hg.pg hb.pss hs) fun G B c σ H E D h1 h2 h3 h4 h5 h6 => ?_
  refine ⟨G, B, c, _, h1, h2, fun ds c1 B1 H1 J ⟨I, i0, it, ie⟩ e1 hc1 HJ => ?_⟩
  refine ⟨fun i m σ' H' => m = ds.length - i ∧ i ≤ ds.length ∧ ∃ B2 c2, Same B1 B2 ∧ Conc X.K PL G B2 c2 σ' H' ∧ I i c2, ⟨_, rfl, Nat.zero_le _, B1, c1, Same.refl _, hc1, i0⟩, ?_⟩
  rintro i m σ' H' ⟨rfl, hil, B2, c2, e2, hc2, hI⟩
  by_cases hlt : i < ds.length
  · refine .inr ⟨HJ.go i H' (e2.trans hc2.same) hlt, fun σ2 H2 => ∃ B3 c3, Same B1 B3 ∧ Conc X.K PL G B3 c3 σ2 H2 ∧ I (i + 1) c3, fun σ2 H2 ⟨B3, c3, e3, hc3, hI3⟩ => ⟨ds.length - (i + 1), by omega, rfl, hlt, B3, c3, e3, hc3, hI3⟩, fun x H3 hy => ?_⟩
    obtain ⟨B3, d, hd3, e3, hc3, rd⟩ := HJ.yld i H' x H3 hlt hy G B2 c2 σ' e2 hc2
    refine ⟨G, B3, c2, d, _, hc3, rd, it i d c2 hd3 hI, fun c4 B4 σ4 H4 q4 e4 hc4 _ => ?_⟩
    have ee : Same B1 B4 := (e2.trans e3).trans e4
    exact ⟨G, B4, c4, _, hc4, q4, fun c5 B5 σ5 H5 q5 e5 hc5 => ⟨B5, c5, ee.trans e5, hc5, q5⟩, h4, fun c5 B5 σ5 H5 q5 e5 hc5 => h3 _ _ _ _ q5 ((e1.trans ee).trans e5) hc5, fun c5 B5 σ5 H5 q5 e5 hc5 => ⟨B5, c5, ee.trans e5, hc5, q5⟩⟩
  · have hie : i = ds.length := by omega
    subst hie
    exact .inl ⟨HJ.stop H' (e2.trans hc2.same), h3 _ _ _ _ (ie c2 hI) (e1.trans e2) hc2⟩
def dWhile (t : DT) (body : DS) : DS := fun E c => ∃ I : Nat → CEnv → Prop, (∃ m, I m c) ∧ ∀ m c', I m c' → t c' fun b c2 => br b (body { nx := fun c3 => ∃ m', m' < m ∧ I m' c3, rt := E.rt, bk := E.nx, ct := fun c3 => ∃ m', m' < m ∧ I m' c3 } c2) (E.nx c2)
theorem qs_while {t : Expr} {body : List Stmt} {dt : DT} {db : DS} {pos : Pos} (ht : QT X PL t dt) (hb : QSs X PL body db) (hp : PassesOwn (model X.prog X.w) X.A X.env X.xe) : QS X PL (.While t body [] pos) (dWhile dt db) := by
  refine qs_of (ps_while hp ht.pt hb.pss) fun G B c σ H E D h1 h2 h3 h4 h5 h6 => ?_
  obtain ⟨I, ⟨m0, i0⟩, it⟩ := h2
  refine ⟨fun m σ' H' => ∃ B2 c2, Same B B2 ∧ Conc X.K PL G B2 c2 σ' H' ∧ I m c2, ⟨m0, B, c, Same.refl _, h1, i0⟩, ?_⟩
  rintro m σ' H' ⟨B2, c2, e2, hc2, hI⟩
  refine ⟨G, B2, c2, _, hc2, it m c2 hI, fun b c3 B3 H3 q3 e3 hc3 => ?_⟩
  cases b with
  | true =>
    rw [if_pos rfl]
    refine ⟨fun σ4 H4 => ∃ m', m' < m ∧ ∃ B4 c4, Same B B4 ∧ Conc X.K PL G B4 c4 σ4 H4 ∧ I m' c4, fun σ4 H4 ⟨m', hm, r⟩ => ⟨m', hm, r⟩, ?_⟩
    exact ⟨G, B3, c3, _, hc3, q3, fun c5 B5 σ5 H5 ⟨m', hm, q5⟩ e5 hc5 => ⟨m', hm, B5, c5, (e2.trans e3).trans e5, hc5, q5⟩, h4, fun c5 B5 σ5 H5 q5 e5 hc5 => h3 _ _ _ _ q5 ((e2.trans e3).trans e5) hc5, fun c5 B5 σ5 H5 ⟨m', hm, q5⟩ e5 hc5 => ⟨m', hm, B5, c5, (e2.trans e3).trans e5, hc5, q5⟩⟩
  | false =>
    rw [if_neg Bool.false_ne_true]
    exact h3 _ _ _ _ q3 (e2.trans e3) hc3
end
end Cl

namespace Cl
open PySem PySem.Spec PyProof.Rows L2

section
variable {X : Cx} {PL : PoolP}
/-! ### a list of one's own is changed -/
def obL (c : CEnv) (i : Nat) (k : List Dt → Prop) : Prop := match gt c i with
  | .own (.lst l) => k l
  | .arg (.lst l) => k l
  | _ => False
def setL (c : CEnv) (i : Nat) (m : List Dt) : CEnv := c.set i (match gt c i with
  | .arg _ => .arg (.lst m)
  | _ => .own (.lst m))
theorem obL_ok {c : CEnv} {i : Nat} {k : List Dt → Prop} (h : obL c i k) : ∃ l, (c[i]? = some (.own (.lst l)) ∨ c[i]? = some (.arg (.lst l))) ∧ k l := by
  unfold obL at h
  cases g : gt c i with
  | no => simp only [g] at h
  | dat d => simp only [g] at h
  | own o =>
    cases o with
    | lst l =>
      simp only [g] at h
      exact ⟨l, .inl (gt_get g (by simp)), h⟩
    | pool => simp only [g] at h
  | arg o =>
    cases o with
    | lst l =>
      simp only [g] at h
      exact ⟨l, .inr (gt_get g (by simp)), h⟩
    | pool => simp only [g] at h
abbrev MutF := List Dt → List Dt → (Dt → List Dt → Prop) → Prop
def MutD (K : PySem.W.Frag) (r : V → List V → Hp → VK → Prop) (f : MutF) : Prop := ∀ B H a l xs ds vs k (Q : VK), H a = some (.lst xs) → RepL K B l xs → RepL K B ds vs → f l ds k → Same B H →
  (∀ d m v ys, k d m → RepL K B m ys → Rep K B d v → Q v (upd H a (.lst ys))) → r (.ref a) vs H Q
def dMeth (i : Nat) (f : MutF) (dl : DL) : DE := fun c Q => obL c i fun _ => dl c fun ds c1 => obL c1 i fun l => f l ds fun d m => Q (.dat d) (setL c1 i m)
theorem meth_ok {r : V → List V → Hp → VK → Prop} {f : MutF} (hf : MutD X.K r f) {i : Nat} {G : Ent} {B : Hp} {c1 : CEnv} {σ : L2.St} {H1 : Hp} {a : Addr} {ds : List Dt} {vs : List V} {Qd : Res → CEnv → Prop} {Q : VK} (hc1 : Conc X.K PL G B c1 σ H1) (hv : σ[i]? = some (some (.ref a))) (rl : RepL X.K B ds vs)
    (q : obL c1 i fun l => f l ds fun d m => Qd (.dat d) (setL c1 i m)) (hq : ∀ r c' B' H' v, Qd r c' → Same B B' → CR X.K PL G B' c' σ H' r v → Q v H') : r (.ref a) vs H1 Q := by
  obtain ⟨l, hs, q2⟩ := obL_ok q
  obtain ⟨a', fp, e1, e2⟩ := hc1.getOb hs
  rw [hv] at e1
  cases e1
  obtain ⟨_, xs, e3, e4⟩ := e2
  refine hf B H1 a l xs ds vs _ Q e3 e4 rl q2 hc1.same fun d m v ys hk rm rd => ?_
  obtain ⟨hc2, _⟩ := hc1.write hs hv rm
  exact hq _ _ B _ v hk (Same.refl B) ⟨hc2, rd⟩
theorem qe_meth {i : Nat} {e : Expr} {es : List Expr} {apos cpos : Pos} {x : Str} {xpos : Pos} {T id : String} {name : Str} {r : V → List V → Hp → VK → Prop} {f : MutF} {dl : DL} (pa : PlainAttrs "list") (slot : PySem.Slot "list" name id) (hty : typeOf (.builtin id) = pure (.type "method_descriptor")) (hm : MtR X id r) (hf : MutD X.K r f)
    (ho : PE X (.Name x xpos) (tVar i)) (ha : QL X PL (e :: es) dl) (hbase : attributeBase (.Name x xpos) name X.env (eval (.Name x xpos) X.env) = eval (.Name x xpos) X.env := by rfl)
    (hfew : ((backTo cpos (starEach (e :: es) X.env)).all (fun x => !x.1) && (backToKw cpos (keywordEach [] X.env)).all (fun x => x.1.isSome) && decide ((e :: es).length + ([] : List Keyword).length + (if ([] : List Keyword).isEmpty then 0 else 1) < 30)) = true := by rfl)
    (hline : (apos.endLine == cpos.line) = true := by rfl) (hs : starEach (e :: es) X.env = (false, eval e X.env) :: starEach es X.env := by rfl) (hplain : (backTo cpos (starEach es X.env)).any (·.1) = false := by rfl) :
    QE X PL (.Call (.Attribute (.Name x xpos) name apos) (e :: es) [] cpos) (dMeth i f dl) := by
  refine q_of (pe_bm pa slot hty hm ho ha.pa hbase hfew hline hs hplain) fun G B c σ H Qd Q hc hd2 hq => ?_
  obtain ⟨l, hs', hd3⟩ := obL_ok hd2
  obtain ⟨a, fp, e1, _, xs, e2, e3⟩ := hc.getOb hs'
  refine ⟨.ref a, e1, .inl ⟨rfl, xs, .of e2⟩, G, B, c, _, hc, hd3, fun ds c1 B1 H1 vs q ee hc1 rl => ?_⟩
  exact meth_ok hf hc1 e1 rl q fun r c' B' H' v h1 h2 h3 => hq r c' B' H' v h1 (ee.trans h2) h3
theorem qe_meth0 {i : Nat} {apos cpos : Pos} {x : Str} {xpos : Pos} {T id : String} {name : Str} {r : V → List V → Hp → VK → Prop} {f : MutF} (pa : PlainAttrs "list") (slot : PySem.Slot "list" name id) (hty : typeOf (.builtin id) = pure (.type "method_descriptor")) (hm : MtR X id r) (hf : MutD X.K r f)
    (ho : PE X (.Name x xpos) (tVar i)) (hbase : attributeBase (.Name x xpos) name X.env (eval (.Name x xpos) X.env) = eval (.Name x xpos) X.env := by rfl) (hline : (apos.endLine == cpos.line) = true := by rfl) :
    QE X PL (.Call (.Attribute (.Name x xpos) name apos) [] [] cpos) (dMeth i f lNil) := by
  refine q_of (pe_bm0 pa slot hty hm ho hbase hline) fun G B c σ H Qd Q hc hd2 hq => ?_
  obtain ⟨l, hs', hd3⟩ := obL_ok hd2
  obtain ⟨a, fp, e1, _, xs, e2, e3⟩ := hc.getOb hs'
  exact ⟨.ref a, e1, .inl ⟨rfl, xs, .of e2⟩, meth_ok hf hc e1 .nil hd3 hq⟩
def oneD {α : Type} (ds : List α) (P : α → Prop) : Prop := match ds with
  | [d] => P d
  | _ => False
theorem oneD_ok {α : Type} {ds : List α} {P : α → Prop} (h : oneD ds P) : ∃ d, ds = [d] ∧ P d := by
  cases ds with
  | nil => exact h.elim
  | cons d r =>
    cases r with
    | nil => exact ⟨d, rfl, h⟩
    | cons e r => exact h.elim
def mAppend : MutF := fun l ds k => oneD ds fun d => l.length < 10000000 ∧ k .non (l ++ [d])
theorem repL1 {K : PySem.W.Frag} {B : Hp} {d : Dt} {vs : List V} (h : RepL K B [d] vs) : ∃ v, vs = [v] ∧ Rep K B d v := by
  unfold RepL at h
  obtain ⟨v, r, h1, h2, h3⟩ := h
  unfold RepL at h3
  subst h3
  exact ⟨v, h1, h2⟩
theorem mut_append {K : PySem.W.Frag} : MutD K rAppend mAppend := by
  intro B H a l xs ds vs k Q h1 h2 h3 h4 h5 hq
  obtain ⟨d, rfl, h6, h7⟩ := oneD_ok h4
  obtain ⟨v, rfl, h8⟩ := repL1 h3
  exact ⟨a, xs, v, rfl, rfl, h1, by rw [h2.length]; exact sz7l h6, hq _ _ _ _ h7 (h2.app (.one h8)) (by unfold Rep; rfl)⟩
def mPop : MutF := fun l ds k => match ds with
  | [] => (match l.getLast? with
    | some d => k d l.dropLast
    | none => False)
  | _ => False
theorem RepL.dropLast {K : PySem.W.Frag} {B : Hp} {l : List Dt} {xs : List V} (h : RepL K B l xs) : RepL K B l.dropLast xs.dropLast := by
  rw [List.dropLast_eq_take, List.dropLast_eq_take, h.length]
  exact h.take _
theorem mut_pop {K : PySem.W.Frag} : MutD K rPop mPop := by
  intro B H a l xs ds vs k Q h1 h2 h3 h4 h5 hq
  cases ds with
  | cons d r => exact h4.elim
  | nil =>
    unfold RepL at h3
    subst h3
    have h6 : (match l.getLast? with
      | some d => k d l.dropLast
      | none => False) := h4
    cases g : l.getLast? with
    | none => simp only [g] at h6
    | some d =>
      simp only [g] at h6
      rw [List.getLast?_eq_getElem?] at g
      obtain ⟨v, e1, e2⟩ := h2.get g
      exact ⟨a, xs, v, rfl, rfl, h1, by rw [h2.length]; exact e1, hq _ _ _ _ h6 h2.dropLast e2⟩
/-- xs[i] = e -/
def dSetIx (i : Nat) (dx de : DE) : DS := fun E c => de c fun r c1 => asD r c1 fun d c2 => obL c2 i fun _ => dx c2 fun rx c3 => match rx with
  | .dat (.int j) => obL c3 i fun l => match ixN l.length j with
    | some n => E.nx (setL c3 i (l.set n d))
    | none => False
  | _ => False
theorem qs_setIx {i : Nat} {x : Str} {xpos pos spos : Pos} {ix e : Expr} {dx de : DE} (he : QE X PL e de) (ho : PE X (.Name x xpos) (tVar i)) (hi : QE X PL ix dx)
    (ha : ∀ v, assign (.Subscript (.Name x xpos) ix spos) X.env v = (do
      let ov ← holding [v] (eval (.Name x xpos) X.env)
      let iv ← holding [v, ov] (eval ix X.env)
      standAt spos
      holding [v, ov, iv] (setItem ov iv v)
      release [v, ov, iv] []) := by intro _; rfl)
    (hs : swapsWithSole [.Subscript (.Name x xpos) ix spos] e pos.line X.env = pure false := by rfl) (hw : swappedStores [.Subscript (.Name x xpos) ix spos] e X.env = pure none := by rfl)
    (h1 : (assignEach [.Subscript (.Name x xpos) ix spos] X.env).map (·.2) = [assign (.Subscript (.Name x xpos) ix spos) X.env] := by rfl) : QS X PL (.Assign [.Subscript (.Name x xpos) ix spos] e pos) (dSetIx i dx de) := by
  refine qs_of (ps_asg he.pe (pg_sub ho hi.pe set_list ha) hs hw h1) fun G B c σ H E D h1 h2 h3 h4 h5 h6 => ?_
  refine ⟨G, B, c, _, h1, h2, fun r c1 B1 H1 v q e1 cr => ?_⟩
  obtain ⟨B2, c2, d, e2, hc2, rd, q2⟩ := asD_ok cr q
  obtain ⟨l, hs', q3⟩ := obL_ok q2
  obtain ⟨a, fp, g1, _⟩ := hc2.getOb hs'
  refine ⟨.ref a, g1, G, B2, c2, _, hc2, q3, fun rx c3 B3 H3 w q4 e3 cr3 => ?_⟩
  cases rx with
  | dat dd =>
    cases dd with
    | int j =>
      obtain ⟨hc3, r3⟩ := cr3
      unfold Rep at r3
      subst r3
      obtain ⟨m, hs3, q5⟩ := obL_ok q4
      obtain ⟨a', fp', e5, _, xs, e6, e7⟩ := hc3.getOb hs3
      rw [g1] at e5
      cases e5
      cases g : ixN m.length j with
      | none => simp only [g] at q5
      | some n =>
        simp only [g] at q5
        refine ⟨a, xs, j, n, rfl, rfl, e6, by rw [e7.length]; exact g, ?_⟩
        obtain ⟨hc4, _⟩ := hc3.write hs3 g1 (e7.set (rd.mono e3) n)
        exact h3 _ _ _ _ q5 ((e1.trans e2).trans e3) hc4
    | _ => exact q4.elim
  | _ => exact q4.elim

/-! ### methods of texts -/
abbrev MtF := Dt → List Dt → (Res → Prop) → Prop
def MtD (K : PySem.W.Frag) (PL : PoolP) (r : V → List V → Hp → VK → Prop) (f : MtF) : Prop := ∀ G B c σ H s xs vs k (Q : VK), Conc K PL G B c σ H → RepHs K B H xs vs → f (.str s) xs k →
  (∀ z w B' H', k z → Same B B' → CR K PL G B' c σ H' z w → Q w H') → r (.str (S s)) vs H Q
def dMt (f : MtF) (de : DE) (da : DA) : DE := fun c Q => de c fun r c1 => match r with
  | .dat (.str s) => da c1 fun rs c2 => vws rs c2 fun xs => f (.str s) xs fun z => Q z c2
  | _ => False
theorem qe_mt {o e : Expr} {es : List Expr} {apos cpos : Pos} {id : String} {name : Str} {r : V → List V → Hp → VK → Prop} {f : MtF} {de : DE} {da : DA} (pa : PlainAttrs "str") (slot : PySem.Slot "str" name id) (hty : typeOf (.builtin id) = pure (.type "method_descriptor")) (hm : MtR X id r) (hf : MtD X.K PL r f)
    (ho : QE X PL o de) (ha : QA X PL (e :: es) da) (hbase : attributeBase o name X.env (eval o X.env) = eval o X.env := by rfl)
    (hfew : ((backTo cpos (starEach (e :: es) X.env)).all (fun x => !x.1) && (backToKw cpos (keywordEach [] X.env)).all (fun x => x.1.isSome) && decide ((e :: es).length + ([] : List Keyword).length + (if ([] : List Keyword).isEmpty then 0 else 1) < 30)) = true := by rfl)
    (hline : (apos.endLine == cpos.line) = true := by rfl) (hs : starEach (e :: es) X.env = (false, eval e X.env) :: starEach es X.env := by rfl) (hplain : (backTo cpos (starEach es X.env)).any (·.1) = false := by rfl) :
    QE X PL (.Call (.Attribute o name apos) (e :: es) [] cpos) (dMt f de da) := by
  refine q_of (pe_bm pa slot hty hm ho.pe ha.pa hbase hfew hline hs hplain) fun G B c σ H Qd Q hc hd2 hq => ?_
  refine ⟨G, B, c, _, hc, hd2, fun r1 c1 B1 H1 v q e1 cr => ?_⟩
  cases r1 with
  | dat d =>
    cases d with
    | str s =>
      obtain ⟨hc1, rv⟩ := cr
      unfold Rep at rv
      subst rv
      refine ⟨rfl, G, B1, c1, _, hc1, q, fun rs c2 B2 H2 vs q2 e2 hc2 hl => ?_⟩
      obtain ⟨xs, rx, q3⟩ := vws_ok hc2 hl q2
      exact hf G B2 c2 σ H2 s xs vs _ Q hc2 rx q3 fun z w B' H' hk e' cr' => hq z c2 B' H' w hk ((e1.trans e2).trans e') cr'
    | _ => exact q.elim
  | _ => exact q.elim
end

/-! ### calls of the text's own defs -/
inductive AV where
  | dat (d : Dt)
  | own (i : Nat)
inductive AArg where
  | dat (d : Dt)
  | ob (o : Ob)
/-- what a def does, said of plain data: its arguments, what is wanted of the result and of the own objects behind it -/
abbrev FS := List AArg → (Res → List AArg → Prop) → Prop
def lookA (c : CEnv) : AV → Option AArg
  | .dat d => some (.dat d)
  | .own i => match gt c i with
    | .own o => some (.ob o)
    | .arg o => some (.ob o)
    | _ => none
def looks (c : CEnv) : List AV → Option (List AArg)
  | [] => some []
  | a :: r => match lookA c a with
    | none => none
    | some x => match looks c r with
      | none => none
      | some xs => some (x :: xs)
def ownAt : List AV → List AArg → Nat → Option Ob
  | .own i :: avs, .ob o :: as, j => if i = j then some o else ownAt avs as j
  | _ :: avs, _ :: as, j => ownAt avs as j
  | _, _, _ => none
def newSlot (s : Slot) (o : Option Ob) : Slot := match o with
  | none => s
  | some o => match s with
    | .arg _ => .arg o
    | _ => .own o
def putA (avs : List AV) (as : List AArg) : Nat → CEnv → CEnv
  | _, [] => []
  | j, s :: r => newSlot s (ownAt avs as j) :: putA avs as (j + 1) r
theorem putA_length (avs : List AV) (as : List AArg) : ∀ (j : Nat) (c : CEnv), (putA avs as j c).length = c.length
  | _, [] => rfl
  | j, s :: r => by
    unfold putA
    rw [List.length_cons, List.length_cons, putA_length avs as (j + 1) r]
theorem putA_get (avs : List AV) (as : List AArg) : ∀ (j : Nat) (c : CEnv) (i : Nat) (s : Slot), (putA avs as j c)[i]? = some s → ∃ t, c[i]? = some t ∧ s = newSlot t (ownAt avs as (j + i))
  | _, [], i, s, h => by simp [putA] at h
  | j, t :: r, 0, s, h => by
    unfold putA at h
    exact ⟨t, rfl, by simpa using h.symm⟩
  | j, t :: r, i + 1, s, h => by
    unfold putA at h
    obtain ⟨u, h1, h2⟩ := putA_get avs as (j + 1) r i s (by simpa using h)
    exact ⟨u, by simpa using h1, by rw [h2]; congr 2; omega⟩
/-- each own object is handed in once -/
def nodupO : List AV → Bool
  | [] => true
  | .own i :: r => (r.all fun a => match a with
    | .own j => i != j
    | _ => true) && nodupO r
  | _ :: r => nodupO r
theorem ownAt_some : ∀ {avs : List AV} {as : List AArg} {j : Nat} {o : Ob}, ownAt avs as j = some o → ∃ k : Nat, avs[k]? = some (.own j) ∧ as[k]? = some (.ob o)
  | [], as, j, o, h => by cases as <;> simp [ownAt] at h
  | .own i :: avs, [], j, o, h => by simp [ownAt] at h
  | .dat d :: avs, [], j, o, h => by simp [ownAt] at h
  | .own i :: avs, .ob u :: as, j, o, h => by
    unfold ownAt at h
    by_cases e : i = j
    · rw [if_pos e] at h
      cases h
      exact ⟨0, by rw [e]; rfl, rfl⟩
    · rw [if_neg e] at h
      obtain ⟨k, h1, h2⟩ := ownAt_some h
      exact ⟨k + 1, by simpa using h1, by simpa using h2⟩
  | .own i :: avs, .dat u :: as, j, o, h => by
    obtain ⟨k, h1, h2⟩ := ownAt_some (show ownAt avs as j = some o from h)
    exact ⟨k + 1, by simpa using h1, by simpa using h2⟩
  | .dat d :: avs, a :: as, j, o, h => by
    obtain ⟨k, h1, h2⟩ := ownAt_some (show ownAt avs as j = some o from h)
    exact ⟨k + 1, by simpa using h1, by simpa using h2⟩
theorem ownAt_none : ∀ {avs : List AV} {as : List AArg} {j : Nat}, ownAt avs as j = none → ∀ (k : Nat) (o : Ob), avs[k]? = some (.own j) → as[k]? ≠ some (.ob o)
  | [], as, j, h, k, o, e => by simp at e
  | .own i :: avs, [], j, h, k, o, e => by simp
  | .dat d :: avs, [], j, h, k, o, e => by simp
  | .own i :: avs, .ob u :: as, j, h, 0, o, e => by
    have e' : i = j := by simpa using e
    unfold ownAt at h
    rw [if_pos e'] at h
    cases h
  | .own i :: avs, .ob u :: as, j, h, k + 1, o, e => by
    unfold ownAt at h
    by_cases e' : i = j
    · rw [if_pos e'] at h
      cases h
    · rw [if_neg e'] at h
      simpa using ownAt_none h k o (by simpa using e)
  | .own i :: avs, .dat u :: as, j, h, 0, o, e => by simp
  | .own i :: avs, .dat u :: as, j, h, k + 1, o, e => by
    simpa using ownAt_none (show ownAt avs as j = none from h) k o (by simpa using e)
  | .dat d :: avs, a :: as, j, h, 0, o, e => by simp at e
  | .dat d :: avs, a :: as, j, h, k + 1, o, e => by
    simpa using ownAt_none (show ownAt avs as j = none from h) k o (by simpa using e)
theorem nodupO_inj : ∀ {avs : List AV}, nodupO avs = true → ∀ (k l i : Nat), avs[k]? = some (.own i) → avs[l]? = some (.own i) → k = l
  | [], _, k, l, i, h, _ => by simp at h
  | .dat d :: r, h, 0, l, i, e, _ => by simp at e
  | .dat d :: r, h, k + 1, 0, i, _, e => by simp at e
  | .dat d :: r, h, k + 1, l + 1, i, e, f => by
    rw [nodupO_inj (show nodupO r = true from h) k l i (by simpa using e) (by simpa using f)]
  | .own m :: r, h, 0, 0, i, e, f => rfl
  | .own m :: r, h, 0, l + 1, i, e, f => by
    unfold nodupO at h
    rw [Bool.and_eq_true, List.all_eq_true] at h
    have e1 : m = i := by simpa using e
    have := h.1 _ (List.mem_of_getElem? (show r[l]? = some (.own i) by simpa using f))
    simp [e1] at this
  | .own m :: r, h, k + 1, 0, i, f, e => by
    unfold nodupO at h
    rw [Bool.and_eq_true, List.all_eq_true] at h
    have e1 : m = i := by simpa using e
    have := h.1 _ (List.mem_of_getElem? (show r[k]? = some (.own i) by simpa using f))
    simp [e1] at this
  | .own m :: r, h, k + 1, l + 1, i, e, f => by
    unfold nodupO at h
    rw [Bool.and_eq_true] at h
    rw [nodupO_inj h.2 k l i (by simpa using e) (by simpa using f)]
section
variable {K : PySem.W.Frag} {PL : PoolP}
def ArgOk (K : PySem.W.Frag) (PL : PoolP) (B H : Hp) (a : AArg) (v : V) (f : List Addr) : Prop := match a with
  | .dat d => f = [] ∧ Rep K B d v
  | .ob o => ∃ p, v = .ref p ∧ RepO K PL B H o p f
/-- the arguments stand for what is said of them; fs: the own objects' footprints -/
def ArgsOk (K : PySem.W.Frag) (PL : PoolP) (B H : Hp) (as : List AArg) (vs : List V) (fs : Nat → List Addr) : Prop :=
  as.length = vs.length ∧ ∀ k a, as[k]? = some a → ∃ v, vs[k]? = some v ∧ ArgOk K PL B H a v (fs k)
structure Apart (B H : Hp) (n : Nat) (fs : Nat → List Addr) : Prop where
  out : ∀ k, n ≤ k → fs k = []
  disj : ∀ k l, k ≠ l → ∀ b ∈ fs k, b ∉ fs l
  off : ∀ k, ∀ b ∈ fs k, B b = none
def RetOk (K : PySem.W.Frag) (PL : PoolP) (B H H' : Hp) (fs : Nat → List Addr) : Res → V → Prop
  | .dat d, v => Rep K B d v
  | .new o, v => ∃ p fp, v = .ref p ∧ RepO K PL B H' o p fp ∧ ∀ b ∈ fp, B b = none ∧ H b = none ∧ ∀ k, b ∉ fs k
  | .sl _, _ => False
def spC (K : PySem.W.Frag) (PL : PoolP) (n : Nat) (F : FS) : Sp := fun vs H Q _ => ∃ B as fs R, as.length = n ∧ Same B H ∧ ArgsOk K PL B H as vs fs ∧ Apart B H n fs ∧ F as R ∧
  ∀ r as' B' H' v fs', R r as' → Same B B' → (∀ a o, B' a = some o → B a = some o ∨ H a = none) → Same B' H' → (∀ a o, H a = some o → (∀ k, a ∉ fs k) → H' a = some o) → (∀ a, H a ≠ none → H' a ≠ none) →
    ArgsOk K PL B' H' as' vs fs' → Apart B' H' n fs' → (∀ k, ∀ b ∈ fs' k, H b = none ∨ b ∈ fs k) → (∀ (k : Nat) (o : Ob), as[k]? = some (AArg.ob o) → ∃ o' : Ob, as'[k]? = some (AArg.ob o')) → RetOk K PL B' H H' fs' r v → Q v H'
end
end Cl

namespace Cl
open PySem PySem.Spec PyProof.Rows L2

section
variable {X : Cx} {PL : PoolP}
/-! ### a call's arguments -/
abbrev DV := CEnv → (List AV → CEnv → Prop) → Prop
def AVOk (K : PySem.W.Frag) (B : Hp) (σ : L2.St) : List AV → List V → Prop
  | [], vs => vs = []
  | .dat d :: r, vs => ∃ v ws, vs = v :: ws ∧ Rep K B d v ∧ AVOk K B σ r ws
  | .own i :: r, vs => ∃ v ws, vs = v :: ws ∧ σ[i]? = some (some v) ∧ AVOk K B σ r ws
theorem AVOk.mono {K : PySem.W.Frag} {B B' : Hp} {σ : L2.St} (e : Same B B') : ∀ {avs : List AV} {vs : List V}, AVOk K B σ avs vs → AVOk K B' σ avs vs
  | [], _, h => h
  | .dat d :: r, vs, h => by
    obtain ⟨v, ws, h1, h2, h3⟩ := h
    exact ⟨v, ws, h1, h2.mono e, h3.mono e⟩
  | .own i :: r, vs, h => by
    obtain ⟨v, ws, h1, h2, h3⟩ := h
    exact ⟨v, ws, h1, h2, h3.mono e⟩
theorem AVOk.length {K : PySem.W.Frag} {B : Hp} {σ : L2.St} : ∀ {avs : List AV} {vs : List V}, AVOk K B σ avs vs → vs.length = avs.length
  | [], _, h => by
    have e : _ = [] := h
    rw [e]
    rfl
  | .dat d :: r, vs, h => by
    obtain ⟨v, ws, h1, h2, h3⟩ := h
    rw [h1, List.length_cons, List.length_cons, h3.length]
  | .own i :: r, vs, h => by
    obtain ⟨v, ws, h1, h2, h3⟩ := h
    rw [h1, List.length_cons, List.length_cons, h3.length]
theorem AVOk.get {K : PySem.W.Frag} {B : Hp} {σ : L2.St} : ∀ {avs : List AV} {vs : List V} {k : Nat} {a : AV}, AVOk K B σ avs vs → avs[k]? = some a → ∃ v, vs[k]? = some v ∧ match a with
    | .dat d => Rep K B d v
    | .own i => σ[i]? = some (some v)
  | [], _, k, a, _, e => by simp at e
  | .dat d :: r, vs, 0, a, h, e => by
    obtain ⟨v, ws, h1, h2, h3⟩ := h
    have e' : AV.dat d = a := by simpa using e
    subst e'
    exact ⟨v, by rw [h1]; rfl, h2⟩
  | .own i :: r, vs, 0, a, h, e => by
    obtain ⟨v, ws, h1, h2, h3⟩ := h
    have e' : AV.own i = a := by simpa using e
    subst e'
    exact ⟨v, by rw [h1]; rfl, h2⟩
  | .dat d :: r, vs, k + 1, a, h, e => by
    obtain ⟨v, ws, h1, h2, h3⟩ := h
    obtain ⟨u, q1, q2⟩ := h3.get (k := k) (by simpa using e)
    exact ⟨u, by rw [h1]; simpa using q1, q2⟩
  | .own i :: r, vs, k + 1, a, h, e => by
    obtain ⟨v, ws, h1, h2, h3⟩ := h
    obtain ⟨u, q1, q2⟩ := h3.get (k := k) (by simpa using e)
    exact ⟨u, by rw [h1]; simpa using q1, q2⟩
def lV (K : PySem.W.Frag) (PL : PoolP) (dv : DV) : TA := fun σ H Q => ∃ G B c Qd, Conc K PL G B c σ H ∧ dv c Qd ∧ ∀ avs c' B' H' vs, Qd avs c' → Same B B' → Conc K PL G B' c' σ H' → AVOk K B' σ avs vs → Q vs H'
structure QV (X : Cx) (PL : PoolP) (es : List Expr) (dv : DV) : Prop where
  pa : PA X es (lV X.K PL dv)
theorem qv_of {es : List Expr} {t : TA} {da : DV} (h : PA X es t) (hw : ∀ G B c σ H Qd Q, Conc X.K PL G B c σ H → da c Qd → (∀ rs c' B' H' vs, Qd rs c' → Same B B' → Conc X.K PL G B' c' σ H' → AVOk X.K B' σ rs vs → Q vs H') → t σ H Q) : QV X PL es da :=
  ⟨PA.weak h fun σ H Q ⟨G, B, c, Qd, h1, h2, h3⟩ => hw G B c σ H Qd Q h1 h2 h3⟩
def vNil : DV := fun c Q => Q [] c
def vCons (de : DE) (dv : DV) : DV := fun c Q => de c fun r c1 => asD r c1 fun d c2 => dv c2 fun avs c3 => Q (.dat d :: avs) c3
def vOwn (i : Nat) (dv : DV) : DV := fun c Q => (gt c i matches .own _ | .arg _) ∧ dv c fun avs c3 => Q (.own i :: avs) c3
theorem qv_nil : QV X PL [] vNil := by
  refine qv_of pa_nil fun G B c σ H Qd Q hc hd2 hq => ?_
  exact hq [] c B H [] hd2 (Same.refl B) hc rfl
theorem qv_cons {e : Expr} {es : List Expr} {de : DE} {da : DV} (h : QE X PL e de) (h' : QV X PL es da) (hs : starEach (e :: es) X.env = (false, eval e X.env) :: starEach es X.env := by rfl) : QV X PL (e :: es) (vCons de da) := by
  refine qv_of (pa_cons h.pe h'.pa hs) fun G B c σ H Qd Q hc hd2 hq => ?_
  refine ⟨G, B, c, _, hc, hd2, fun r c1 B1 H1 v h1 e1 cr => ?_⟩
  obtain ⟨B2, c2, d, e2, hc2, rd, h2⟩ := asD_ok cr h1
  refine ⟨G, B2, c2, _, hc2, h2, fun rs c3 B3 H2 vs h3 e3 hc3 hl => ?_⟩
  exact hq _ c3 B3 H2 _ h3 ((e1.trans e2).trans e3) hc3 ⟨v, vs, rfl, rd.mono e3, hl⟩
theorem qv_own {i : Nat} {x : Str} {pos : Pos} {es : List Expr} {da : DV} (h : PE X (.Name x pos) (tVar i)) (h' : QV X PL es da) (hs : starEach (.Name x pos :: es) X.env = (false, eval (.Name x pos) X.env) :: starEach es X.env := by rfl) : QV X PL (.Name x pos :: es) (vOwn i da) := by
  refine qv_of (pa_cons h h'.pa hs) fun G B c σ H Qd Q hc hd2 hq => ?_
  obtain ⟨h0, h1⟩ := hd2
  have : ∃ a, σ[i]? = some (some (.ref a)) := by
    cases g : gt c i with
    | own o =>
      obtain ⟨a, fp, q, _⟩ := hc.getOb (.inl (gt_get g (by simp)))
      exact ⟨a, q⟩
    | arg o =>
      obtain ⟨a, fp, q, _⟩ := hc.getOb (.inr (gt_get g (by simp)))
      exact ⟨a, q⟩
    | no => rw [g] at h0; cases h0
    | dat d => rw [g] at h0; cases h0
  obtain ⟨a, ha⟩ := this
  refine ⟨.ref a, ha, G, B, c, _, hc, h1, fun rs c3 B3 H2 vs h3 e3 hc3 hl => ?_⟩
  exact hq _ c3 B3 H2 _ h3 e3 hc3 ⟨.ref a, vs, rfl, ha, hl⟩

/-! ### the call -/
theorem looks_get {c : CEnv} : ∀ {avs : List AV} {as : List AArg}, looks c avs = some as → as.length = avs.length ∧ ∀ (k : Nat) (a : AV), avs[k]? = some a → ∃ x, as[k]? = some x ∧ lookA c a = some x
  | [], as, h => by
    have e : [] = as := by simpa [looks] using h
    subst e
    exact ⟨rfl, fun k a e => by simp at e⟩
  | a :: r, as, h => by
    unfold looks at h
    cases g : lookA c a with
    | none => rw [g] at h; cases h
    | some x =>
      simp only [g] at h
      cases g2 : looks c r with
      | none => rw [g2] at h; cases h
      | some xs =>
        simp only [g2] at h
        have e : x :: xs = as := by simpa using h
        subst e
        obtain ⟨h1, h2⟩ := looks_get g2
        refine ⟨by simp [h1], fun k b e => ?_⟩
        cases k with
        | zero =>
          have e' : a = b := by simpa using e
          subst e'
          exact ⟨x, rfl, g⟩
        | succ k =>
          obtain ⟨y, q1, q2⟩ := h2 k b (by simpa using e)
          exact ⟨y, by simpa using q1, q2⟩
theorem lookA_own {c : CEnv} {i : Nat} {x : AArg} (h : lookA c (.own i) = some x) : ∃ o, x = .ob o ∧ (c[i]? = some (.own o) ∨ c[i]? = some (.arg o)) := by
  unfold lookA at h
  cases g : gt c i with
  | own o =>
    simp only [g] at h
    exact ⟨o, (Option.some.inj h).symm, .inl (gt_get g (by simp))⟩
  | arg o =>
    simp only [g] at h
    exact ⟨o, (Option.some.inj h).symm, .inr (gt_get g (by simp))⟩
  | no => simp only [g] at h; cases h
  | dat d => simp only [g] at h; cases h
/-- the position at which slot j is handed in -/
def posO : List AV → Nat → Option Nat
  | [], _ => none
  | .own i :: r, j => if i = j then some 0 else (posO r j).map (· + 1)
  | .dat _ :: r, j => (posO r j).map (· + 1)
theorem posO_some : ∀ {avs : List AV} {j k : Nat}, posO avs j = some k → avs[k]? = some (.own j)
  | [], j, k, h => by cases h
  | .own i :: r, j, k, h => by
    unfold posO at h
    by_cases e : i = j
    · rw [if_pos e] at h
      cases h
      rw [e]
      rfl
    · rw [if_neg e] at h
      cases g : posO r j with
      | none => rw [g] at h; cases h
      | some m =>
        rw [g] at h
        have e2 : m + 1 = k := by simpa using h
        subst e2
        simpa using posO_some g
  | .dat d :: r, j, k, h => by
    unfold posO at h
    cases g : posO r j with
    | none => rw [g] at h; cases h
    | some m =>
      rw [g] at h
      have e2 : m + 1 = k := by simpa using h
      subst e2
      simpa using posO_some g
theorem posO_none : ∀ {avs : List AV} {j : Nat}, posO avs j = none → ∀ k : Nat, avs[k]? ≠ some (.own j)
  | [], j, h, k => by simp
  | .own i :: r, j, h, k => by
    unfold posO at h
    by_cases e : i = j
    · rw [if_pos e] at h
      cases h
    · rw [if_neg e] at h
      cases g : posO r j with
      | some m => rw [g] at h; cases h
      | none =>
        cases k with
        | zero => simpa using e
        | succ k => simpa using posO_none g k
  | .dat d :: r, j, h, k => by
    unfold posO at h
    cases g : posO r j with
    | some m => rw [g] at h; cases h
    | none =>
      cases k with
      | zero => simp
      | succ k => simpa using posO_none g k
def retC (r : Res) (c : CEnv) (Q : Res → CEnv → Prop) : Prop := match r with
  | .dat d => Q (.dat d) c
  | .new o => Q (.new o) c
  | .sl _ => False
def callQ (F : FS) (avs : List AV) (c : CEnv) (Q : Res → CEnv → Prop) : Prop := nodupO avs = true ∧ match looks c avs with
  | none => False
  | some as => F as fun r as' => retC r (putA avs as' 0 c) Q
theorem call_ok {K : PySem.W.Frag} {n : Nat} {F : FS} {G : Ent} {B : Hp} {c : CEnv} {σ : L2.St} {H : Hp} {avs : List AV} {vs : List V} {Qd : Res → CEnv → Prop} {Q : VK} {E : XK} (hc : Conc K PL G B c σ H) (hv : AVOk K B σ avs vs) (hn : avs.length = n) (h : callQ F avs c Qd)
    (hq : ∀ r c' B' H' v, Qd r c' → Same B B' → CR K PL G B' c' σ H' r v → Q v H') : spC K PL n F vs H Q E := by
  obtain ⟨nd, h⟩ := h
  cases g : looks c avs with
  | none => simp only [g] at h
  | some as =>
  simp only [g] at h
  obtain ⟨Fc, C⟩ := hc
  obtain ⟨hl, hg⟩ := looks_get g
  have own_pos : ∀ (k i : Nat), avs[k]? = some (.own i) → i < c.length := fun k i e => by
    obtain ⟨x, _, q⟩ := hg k _ e
    obtain ⟨o, _, q | q⟩ := lookA_own q <;> exact (List.getElem?_eq_some_iff.mp q).1
  let fs : Nat → List Addr := fun k => match avs[k]? with
    | some (.own i) => Fc i
    | _ => []
  have fs_own : ∀ (k i : Nat), avs[k]? = some (.own i) → fs k = Fc i := fun k i e => by
    show (match avs[k]? with
      | some (.own i) => Fc i
      | _ => []) = _
    rw [e]
  have fs_mem : ∀ (k : Nat) (b : Addr), b ∈ fs k → ∃ i, avs[k]? = some (.own i) ∧ b ∈ Fc i := fun k b hb => by
    have hb' : b ∈ (match avs[k]? with
      | some (.own i) => Fc i
      | _ => []) := hb
    cases q : avs[k]? with
    | none => rw [q] at hb'; simp at hb'
    | some a =>
      rw [q] at hb'
      cases a with
      | own i => exact ⟨i, rfl, hb'⟩
      | dat d => simp at hb'
  refine ⟨B, as, fs, _, hl.trans hn, C.ex, ⟨hl.trans hv.length.symm, fun k a e => ?_⟩, ⟨fun k hk => ?_, fun k l hkl b hb hb' => ?_, fun k b hb => ?_⟩, h, ?_⟩
  · have hk : k < avs.length := by
      rw [← hl]
      exact (List.getElem?_eq_some_iff.mp e).1
    have ea := List.getElem?_eq_getElem hk
    obtain ⟨x, q1, q2⟩ := hg k _ ea
    rw [e] at q1
    cases q1
    obtain ⟨v, p1, p2⟩ := hv.get ea
    refine ⟨v, p1, ?_⟩
    generalize hav : avs[k] = av at *
    cases av with
    | dat d =>
      have e2 : AArg.dat d = a := Option.some.inj q2
      subst e2
      refine ⟨?_, p2⟩
      show (match avs[k]? with
        | some (.own i) => Fc i
        | _ => []) = _
      rw [ea]
    | own i =>
      obtain ⟨o, rfl, q3⟩ := lookA_own q2
      rw [show fs k = Fc i from fs_own k i ea]
      rcases q3 with q3 | q3
      · obtain ⟨y, s1, p, s2, s3, _⟩ := C.slots i _ q3
        have p2' : σ[i]? = some (some v) := p2
        rw [p2'] at s1
        cases s1
        cases s2
        exact ⟨p, rfl, s3⟩
      · obtain ⟨y, s1, p, s2, _, s3, _⟩ := C.slots i _ q3
        have p2' : σ[i]? = some (some v) := p2
        rw [p2'] at s1
        cases s1
        cases s2
        exact ⟨p, rfl, s3⟩
  · show (match avs[k]? with
      | some (.own i) => Fc i
      | _ => []) = _
    rw [List.getElem?_eq_none (by omega)]
  · obtain ⟨i, e1, m1⟩ := fs_mem k b hb
    obtain ⟨j, e2, m2⟩ := fs_mem l b hb'
    by_cases e : i = j
    · subst e
      exact hkl (nodupO_inj nd k l i e1 e2)
    · exact C.disj i j e b m1 m2
  · obtain ⟨i, e1, m1⟩ := fs_mem k b hb
    exact C.off i b m1
  · intro r as' B' H' v fs' hr sB nB sH fr kp ao ap mig kinds ro
    -- the own objects behind the call
    let F2 : Nat → List Addr := fun j => match posO avs j with
      | some k => fs' k
      | none => Fc j
    have F2s : ∀ {j k : Nat}, posO avs j = some k → F2 j = fs' k := fun {j k} e => by
      show (match posO avs j with
        | some k => fs' k
        | none => Fc j) = _
      rw [e]
    have F2n : ∀ {j : Nat}, posO avs j = none → F2 j = Fc j := fun {j} e => by
      show (match posO avs j with
        | some k => fs' k
        | none => Fc j) = _
      rw [e]
    have stays : ∀ {j : Nat}, posO avs j = none → ∀ b ∈ Fc j, H' b = H b := fun {j} e b hb => by
      cases q : H b with
      | none => exact absurd q (C.alive j b hb)
      | some o =>
        refine fr b o q fun k hk => ?_
        obtain ⟨i, e1, m1⟩ := fs_mem k b hk
        by_cases hij : i = j
        · subst hij
          exact posO_none e k e1
        · exact C.disj i j hij b m1 hb
    have mig2 : ∀ {j k : Nat}, posO avs j = some k → ∀ b ∈ fs' k, H b = none ∨ b ∈ Fc j := fun {j k} e b hb => by
      rcases mig k b hb with q | q
      · exact .inl q
      · rw [fs_own k j (posO_some e)] at q
        exact .inr q
    have C2 : ConcF K PL G B' (putA avs as' 0 c) σ H' F2 := by
      refine ⟨sH, C.bb.trans sB, fun a o q => ?_, fun a o q nf => ?_, fun a q => kp a (C.keep a q), by rw [putA_length]; exact C.len, fun j s hs => ?_, fun j hj => ?_, fun i j hij b hbi hbj => ?_, fun j b hb => ?_, fun a o q => ?_⟩
      · rcases nB a o q with z | z
        · exact C.new a o z
        · refine .inr ?_
          cases w : G.H a with
          | none => rfl
          | some u => exact absurd z (C.keep a (by rw [w]; simp))
      · refine fr a o (C.frame a o q nf) fun k hk => ?_
        obtain ⟨i, e1, m1⟩ := fs_mem k a hk
        obtain ⟨x, _, q2⟩ := hg k _ e1
        obtain ⟨u, _, q3 | q3⟩ := lookA_own q2
        · obtain ⟨y, s1, p, s2, s3, s4⟩ := C.slots i _ q3
          have := s4 a m1
          rw [q] at this
          cases this
        · obtain ⟨y, s1, p, s2, _, s3, s4⟩ := C.slots i _ q3
          rcases s4 a m1 with w | w
          · rw [q] at w
            cases w
          · exact nf i w
      · obtain ⟨t, h1, h2⟩ := putA_get avs as' 0 c j s hs
        rw [Nat.zero_add] at h2
        obtain ⟨o, h3, h4⟩ := C.slots j t h1
        refine ⟨o, h3, ?_⟩
        cases w : posO avs j with
        | none =>
          have on : ownAt avs as' j = none := by
            cases z : ownAt avs as' j with
            | none => rfl
            | some u =>
              obtain ⟨k, z1, _⟩ := ownAt_some z
              exact absurd z1 (posO_none w k)
          rw [on] at h2
          rw [F2n w, show s = t from h2]
          exact h4.mono sB (stays w)
        | some k =>
          have e1 := posO_some w
          obtain ⟨x, q1, q2⟩ := hg k _ e1
          obtain ⟨u, rfl, q3⟩ := lookA_own q2
          obtain ⟨u', q4⟩ := kinds k u q1
          obtain ⟨v', p1, p2⟩ := ao.2 k _ q4
          obtain ⟨p, rfl, p3⟩ := p2
          obtain ⟨v2, p4, p5⟩ := hv.get e1
          rw [p1] at p4
          cases p4
          have p5' : σ[j]? = some (some (.ref p)) := p5
          rw [h3] at p5'
          cases p5'
          have on : ownAt avs as' j = some u' := by
            cases z : ownAt avs as' j with
            | none => exact absurd q4 (ownAt_none z k u' e1)
            | some u2 =>
              obtain ⟨k2, z1, z2⟩ := ownAt_some z
              rw [nodupO_inj nd k2 k j z1 e1, q4] at z2
              cases z2
              rfl
          rw [on] at h2
          rw [F2s w]
          rcases q3 with q3 | q3
          · rw [h1] at q3
            cases q3
            have hs2 : s = .own u' := h2
            subst hs2
            obtain ⟨a2, s1, s2, s3⟩ := h4
            refine ⟨p, rfl, p3, fun b hb => ?_⟩
            rcases mig2 w b hb with z | z
            · cases y : G.H b with
              | none => rfl
              | some o' => exact absurd z (C.keep b (by rw [y]; simp))
            · exact s3 b z
          · rw [h1] at q3
            cases q3
            have hs2 : s = .arg u' := h2
            subst hs2
            obtain ⟨a2, s1, s1', s2, s3⟩ := h4
            cases s1
            refine ⟨p, rfl, s1', p3, fun b hb => ?_⟩
            rcases mig2 w b hb with z | z
            · refine .inl ?_
              cases y : G.H b with
              | none => rfl
              | some o' => exact absurd z (C.keep b (by rw [y]; simp))
            · exact s3 b z
      · rw [putA_length] at hj
        cases w : posO avs j with
        | none =>
          rw [F2n w]
          exact C.out j hj
        | some k => exact absurd (own_pos k j (posO_some w)) (by omega)
      · cases w : posO avs i with
        | none =>
          rw [F2n w] at hbi
          cases w2 : posO avs j with
          | none =>
            rw [F2n w2] at hbj
            exact C.disj i j hij b hbi hbj
          | some l =>
            rw [F2s w2] at hbj
            rcases mig2 w2 b hbj with z | z
            · exact C.alive i b hbi z
            · exact C.disj i j hij b hbi z
        | some k =>
          rw [F2s w] at hbi
          cases w2 : posO avs j with
          | none =>
            rw [F2n w2] at hbj
            rcases mig2 w b hbi with z | z
            · exact C.alive j b hbj z
            · exact C.disj i j hij b z hbj
          | some l =>
            rw [F2s w2] at hbj
            have hkl : k ≠ l := fun e => by
              subst e
              have e1 := posO_some w
              rw [posO_some w2] at e1
              cases e1
              exact hij rfl
            exact ap.disj k l hkl b hbi hbj
      · cases w : posO avs j with
        | none =>
          rw [F2n w] at hb
          cases q : B' b with
          | none => rfl
          | some o =>
            rcases nB b o q with z | z
            · rw [C.off j b hb] at z
              cases z
            · exact absurd z (C.alive j b hb)
        | some k =>
          rw [F2s w] at hb
          exact ap.off k b hb
      · obtain ⟨z1, z2, z3⟩ := C.pin a o q
        refine ⟨fr a o z1 fun k hk => ?_, ?_, fun j hj => ?_⟩
        · obtain ⟨i, e1, m1⟩ := fs_mem k a hk
          exact z3 i m1
        · cases w : B' a with
          | none => rfl
          | some u =>
            rcases nB a u w with y | y
            · rw [z2] at y
              cases y
            · rw [z1] at y
              cases y
        · cases w : posO avs j with
          | none =>
            rw [F2n w] at hj
            exact z3 j hj
          | some k =>
            rw [F2s w] at hj
            rcases mig2 w a hj with y | y
            · rw [z1] at y
              cases y
            · exact z3 j y
    cases r with
    | dat d => exact hq _ _ B' H' v hr sB ⟨⟨_, C2⟩, ro⟩
    | sl i => exact ro.elim
    | new o =>
      obtain ⟨p, fp, rfl, p2, p3⟩ := ro
      refine hq _ _ B' H' _ hr sB ⟨_, C2.push rfl p2 (fun b hb => ?_) (fun b hb => (p3 b hb).1) (fun j b hj hb => ?_) (fun b hb => ?_)⟩
      · cases y : G.H b with
        | none => rfl
        | some o' => exact absurd (p3 b hb).2.1 (C.keep b (by rw [y]; simp))
      · cases w : posO avs j with
        | none =>
          rw [F2n w] at hj
          exact C.alive j b hj (p3 b hb).2.1
        | some k =>
          rw [F2s w] at hj
          exact (p3 b hb).2.2 k hj
      · cases y : G.pin b with
        | none => rfl
        | some o' =>
          have := (C.pin b o' y).1
          rw [(p3 b hb).2.1] at this
          cases this
end
end Cl

namespace Cl
open PySem PySem.Spec PyProof.Rows L2

section
variable {X : Cx} {PL : PoolP}
/-! ### a call as an expression -/
def dCall (n : Nat) (F : FS) (dvs : List Dt) (dv : DV) : DE := fun c Q => dv c fun avs c1 => (avs ++ dvs.map AV.dat).length = n ∧ callQ F (avs ++ dvs.map AV.dat) c1 Q
theorem AVOk.app {K : PySem.W.Frag} {B : Hp} {σ : L2.St} : ∀ {avs bvs : List AV} {vs ws : List V}, AVOk K B σ avs vs → AVOk K B σ bvs ws → AVOk K B σ (avs ++ bvs) (vs ++ ws)
  | [], _, vs, ws, h, h' => by
    have e : vs = [] := h
    rw [e]
    exact h'
  | .dat d :: r, _, vs, ws, h, h' => by
    obtain ⟨v, us, h1, h2, h3⟩ := h
    exact ⟨v, us ++ ws, by rw [h1]; rfl, h2, h3.app h'⟩
  | .own i :: r, _, vs, ws, h, h' => by
    obtain ⟨v, us, h1, h2, h3⟩ := h
    exact ⟨v, us ++ ws, by rw [h1]; rfl, h2, h3.app h'⟩
theorem AVOk.dats {K : PySem.W.Frag} {B : Hp} {σ : L2.St} : ∀ {ds : List Dt} {vs : List V}, RepL K B ds vs → AVOk K B σ (ds.map AV.dat) vs
  | [], vs, h => by unfold RepL at h; exact h
  | d :: r, vs, h => by
    unfold RepL at h
    obtain ⟨x, q, h1, h2, h3⟩ := h
    exact ⟨x, q, h1, h2, AVOk.dats h3⟩
/-- what a caller knows of a def -/
structure Def (P : Program) (w : World) (K : PySem.W.Frag) (mg : Str → Option Value) (base : Heap) (PL : PoolP) (CX : CXT) (k : Nat) (x : Str) (st : Stmt) (dvs : List V) (kws : List (Str × V)) (ps : List Str) (F : FS) : Prop where
  ex : ∃ f fd, FnOk P w K mg base CX k f fd ps (spC K PL ps.length F) ∧ mg x = some (.ref f) ∧ PySem.W.keepIn K (.ref f) = true ∧ FunD K x x (defArgs st) (defBody st) (defScope st) dvs kws f fd
theorem Def.imp {P : Program} {w : World} {K : PySem.W.Frag} {mg : Str → Option Value} {base : Heap} {PL : PoolP} {CX : CXT} {k : Nat} {x : Str} {st : Stmt} {dvs : List V} {kws : List (Str × V)} {ps : List Str} {F F' : FS} (D : Def P w K mg base PL CX k x st dvs kws ps F) (h : ∀ as R, F' as R → F as R) : Def P w K mg base PL CX k x st dvs kws ps F' := by
  obtain ⟨f, fd, h1, h2, h3, h4⟩ := D.ex
  refine ⟨f, fd, h1.imp fun vs H Q E ⟨B, as, fs, R, g1, g2, g3, g4, g5, g6⟩ => ⟨B, as, fs, R, g1, g2, g3, g4, h _ _ g5, g6⟩, h2, h3, h4⟩
theorem Def.mono {P : Program} {w : World} {K : PySem.W.Frag} {mg : Str → Option Value} {base : Heap} {PL : PoolP} {CX : CXT} {j k : Nat} {x : Str} {st : Stmt} {dvs : List V} {kws : List (Str × V)} {ps : List Str} {F : FS} (D : Def P w K mg base PL CX j x st dvs kws ps F) (h : j ≤ k) : Def P w K mg base PL CX k x st dvs kws ps F := by
  obtain ⟨f, fd, h1, h2, h3, h4⟩ := D.ex
  exact ⟨f, fd, h1.mono h, h2, h3, h4⟩
/-- the last arguments by their defaults: dds what they are -/
theorem qe_call {P : Program} {w : World} {K : PySem.W.Frag} {mg : Str → Option Value} {base : Heap} {CX : CXT} {k : Nat} {x : Str} {st : Stmt} {dvs : List V} {kws : List (Str × V)} {ps : List Str} {F : FS} {p pos : Pos} {e : Expr} {es : List Expr} {dv : DV} {dds : List Dt} {E : XK} (D : Def P w K mg base PL CX k x st dvs kws ps F) (hP : X.prog = P) (hw : X.w = w) (hK : X.K = K) (hmg : X.mg = mg) (hb : X.base = base)
    (hbi : ∀ {f : Addr} {fd : FuncData}, FunD K x x (defArgs st) (defBody st) (defScope st) dvs kws f fd → ∃ ws ds, Vals ws ds ∧ (∀ B, RepL K B dds ws) ∧ Binds K fd ps ds)
    (ha : QV X PL (e :: es) dv) (hr : Room k X.A) (hg : Gl X x) (hx : Passes CX X E) (hdb : (x == ("__debug__" : Str)) = false := by decide) (he : starEach (e :: es) X.env = (false, eval e X.env) :: starEach es X.env := by rfl) (hpl : (backTo pos (starEach es X.env)).any (·.1) = false := by rfl) :
    QE X PL (.Call (.Name x p) (e :: es) [] pos) (dCall ps.length F dds dv) := by
  subst hP hw hK hmg hb
  obtain ⟨f, fd, hf, hm, hk, hfd⟩ := D.ex
  obtain ⟨ws, ds, hv, hrep, hbd⟩ := hbi hfd
  refine q_of (pe_call hf hr hg hm hk hbd hv hx ha.pa hdb he hpl) fun G B c σ H Qd Q hc hd2 hq => ?_
  refine ⟨G, B, c, _, hc, hd2, fun avs c1 B1 H1 vs ⟨hn, h1⟩ e1 hc1 hv => ?_⟩
  exact call_ok hc1 (hv.app (AVOk.dats (hrep B1))) hn h1 fun r c' B' H' v q e2 cr => hq r c' B' H' v q (e1.trans e2) cr
theorem qe_call0 {P : Program} {w : World} {K : PySem.W.Frag} {mg : Str → Option Value} {base : Heap} {CX : CXT} {k : Nat} {x : Str} {st : Stmt} {dvs : List V} {kws : List (Str × V)} {ps : List Str} {F : FS} {p pos : Pos} {dds : List Dt} {E : XK} (D : Def P w K mg base PL CX k x st dvs kws ps F) (hP : X.prog = P) (hw : X.w = w) (hK : X.K = K) (hmg : X.mg = mg) (hb : X.base = base)
    (hbi : ∀ {f : Addr} {fd : FuncData}, FunD K x x (defArgs st) (defBody st) (defScope st) dvs kws f fd → ∃ ws ds, Vals ws ds ∧ (∀ B, RepL K B dds ws) ∧ Binds K fd ps ds)
    (hr : Room k X.A) (hg : Gl X x) (hx : Passes CX X E) (hdb : (x == ("__debug__" : Str)) = false := by decide) : QE X PL (.Call (.Name x p) [] [] pos) (dCall ps.length F dds vNil) := by
  subst hP hw hK hmg hb
  obtain ⟨f, fd, hf, hm, hk, hfd⟩ := D.ex
  obtain ⟨ws, ds, hv, hrep, hbd⟩ := hbi hfd
  refine q_of (pe_call0 hf hr hg hm hk hbd hv hx hdb) fun G B c σ H Qd Q hc hd2 hq => ?_
  obtain ⟨hn, h1⟩ := hd2
  exact call_ok (E := E) hc (show AVOk X.K B σ (dds.map AV.dat) ws from AVOk.dats (hrep B)) hn h1 hq
/-! ### keywords -/
structure QK (X : Cx) (PL : PoolP) (kws : List Keyword) (dv : DV) : Prop where
  pk : PK X kws (lV X.K PL dv)
theorem PK.weak {kws : List Keyword} {t t' : TA} (h : PK X kws t) (hw : ∀ σ H Q, t' σ H Q → t σ H Q) : PK X kws t' := ⟨fun pos pins s σ H Q I q => h.run pos pins s σ H Q I (hw _ _ _ q)⟩
theorem qk_nil : QK X PL [] vNil := ⟨PK.weak pk_nil fun σ H Q ⟨G, B, c, Qd, h1, h2, h3⟩ => h3 [] c B H [] h2 (Same.refl B) h1 rfl⟩
theorem qk_cons {nm : Option Str} {e : Expr} {kpos : Pos} {kws : List Keyword} {de : DE} {dv : DV} (h : QE X PL e de) (h' : QK X PL kws dv) : QK X PL (⟨nm, e, kpos⟩ :: kws) (vCons de dv) :=
  ⟨PK.weak (pk_cons h.pe h'.pk) fun σ H Q ⟨G, B, c, Qd, hc, hd2, hq⟩ => by
    refine ⟨G, B, c, _, hc, hd2, fun r c1 B1 H1 v h1 e1 cr => ?_⟩
    obtain ⟨B2, c2, d, e2, hc2, rd, h2⟩ := asD_ok cr h1
    refine ⟨G, B2, c2, _, hc2, h2, fun rs c3 B3 H2 vs h3 e3 hc3 hl => ?_⟩
    exact hq _ c3 B3 H2 _ h3 ((e1.trans e2).trans e3) hc3 ⟨v, vs, rfl, rd.mono e3, hl⟩⟩
/-- gA: the positional arguments and the keywords' in the parameters' order, defaults among them -/
def dCallK (n np nk : Nat) (F : FS) (gA : List AV → List AV → List AV) (dv dk : DV) : DE := fun c Q => dv c fun avs c1 => dk c1 fun kvs c2 => (avs.length = np ∧ kvs.length = nk ∧ (gA avs kvs).length = n) ∧ callQ F (gA avs kvs) c2 Q
theorem qe_callN {P : Program} {w : World} {K : PySem.W.Frag} {mg : Str → Option Value} {base : Heap} {CX : CXT} {k n : Nat} {x : Str} {st : Stmt} {dvs : List V} {kws : List (Str × V)} {ps ks : List Str} {F : FS} {p pos : Pos} {e : Expr} {es : List Expr} {kwl : List Keyword} {dv dk : DV} {gA : List AV → List AV → List AV} {E : XK}
    (D : Def P w K mg base PL CX k x st dvs kws ps F) (hP : X.prog = P) (hw : X.w = w) (hK : X.K = K) (hmg : X.mg = mg) (hb : X.base = base)
    (hbi : ∀ {f : Addr} {fd : FuncData}, FunD K x x (defArgs st) (defBody st) (defScope st) dvs kws f fd → ∃ g gV, KBn K fd ps n ks g gV ∧ ∀ B σ avs kvs vs zs, avs.length = n → kvs.length = ks.length → AVOk K B σ avs vs → AVOk K B σ kvs zs → AVOk K B σ (gA avs kvs) (gV vs zs))
    (ha : QV X PL (e :: es) dv) (hkw : QK X PL kwl dk) (hr : Room k X.A) (hg : Gl X x) (hx : Passes CX X E) (hall : (backToKw pos (keywordEach kwl X.env)).all (·.1.isSome) = true := by rfl) (hks : (backToKw pos (keywordEach kwl X.env)).filterMap (·.1) = ks := by rfl)
    (hdb : (x == ("__debug__" : Str)) = false := by decide) (he : starEach (e :: es) X.env = (false, eval e X.env) :: starEach es X.env := by rfl)
    (hpl : ((backTo pos (starEach (e :: es) X.env)).any (·.1) || (backToKw pos (keywordEach kwl X.env)).any (·.1.isNone)) = false := by rfl) :
    QE X PL (.Call (.Name x p) (e :: es) kwl pos) (dCallK ps.length n ks.length F gA dv dk) := by
  subst hP hw hK hmg hb
  obtain ⟨f, fd, hf, hm, hk, hfd⟩ := D.ex
  obtain ⟨g, gV, hkb, hrel⟩ := hbi hfd
  refine q_of (pe_callN hf hr hg hm hk hkb hx ha.pa hkw.pk hall hks hdb he hpl) fun G B c σ H Qd Q hc hd2 hq => ?_
  refine ⟨G, B, c, _, hc, hd2, fun avs c1 B1 H1 vs q1 e1 hc1 hv => ?_⟩
  refine ⟨G, B1, c1, _, hc1, q1, fun kvs c2 B2 H2 zs q2 e2 hc2 hz => ?_⟩
  obtain ⟨⟨l1, l2, l3⟩, q3⟩ := q2
  have hv2 := hv.mono e2
  exact ⟨hv2.length.trans l1, hz.length.trans l2, call_ok (E := E) hc2 (hrel B2 σ avs kvs vs zs l1 l2 hv2 hz) l3 q3 fun r c' B' H' v q e3 cr => hq r c' B' H' v q ((e1.trans e2).trans e3) cr⟩
/-- keywords alone -/
theorem qe_callN0 {P : Program} {w : World} {K : PySem.W.Frag} {mg : Str → Option Value} {base : Heap} {CX : CXT} {k : Nat} {x : Str} {st : Stmt} {dvs : List V} {kws : List (Str × V)} {ps ks : List Str} {F : FS} {p pos : Pos} {kwl : List Keyword} {dk : DV} {gA : List AV → List AV → List AV} {E : XK}
    (D : Def P w K mg base PL CX k x st dvs kws ps F) (hP : X.prog = P) (hw : X.w = w) (hK : X.K = K) (hmg : X.mg = mg) (hb : X.base = base)
    (hbi : ∀ {f : Addr} {fd : FuncData}, FunD K x x (defArgs st) (defBody st) (defScope st) dvs kws f fd → ∃ g gV, KBn K fd ps 0 ks g gV ∧ ∀ B σ avs kvs vs zs, avs.length = 0 → kvs.length = ks.length → AVOk K B σ avs vs → AVOk K B σ kvs zs → AVOk K B σ (gA avs kvs) (gV vs zs))
    (hkw : QK X PL kwl dk) (hr : Room k X.A) (hg : Gl X x) (hx : Passes CX X E) (hall : (backToKw pos (keywordEach kwl X.env)).all (·.1.isSome) = true := by rfl) (hks : (backToKw pos (keywordEach kwl X.env)).filterMap (·.1) = ks := by rfl)
    (hdb : (x == ("__debug__" : Str)) = false := by decide) (hpl : ((backTo pos (starEach [] X.env)).any (·.1) || (backToKw pos (keywordEach kwl X.env)).any (·.1.isNone)) = false := by rfl) :
    QE X PL (.Call (.Name x p) [] kwl pos) (dCallK ps.length 0 ks.length F gA vNil dk) := by
  subst hP hw hK hmg hb
  obtain ⟨f, fd, hf, hm, hk, hfd⟩ := D.ex
  obtain ⟨g, gV, hkb, hrel⟩ := hbi hfd
  have key : PE X (.Call (.Name x p) [] kwl pos) (fun σ H Q => lV X.K PL dk σ H fun zs H2 => zs.length = ks.length ∧ spC X.K PL ps.length F (gV [] zs) H2 Q E) := by
    refine ⟨fun pins s σ H Q I hw => wpAny_Call_Name_kw (ld_glob I hg hm ?_ hdb)⟩
    refine PySem.W.callWith_KW0 (h₀ := X.base) I.ok.mod.kin hk hall (thn (hkw.pk.run pos pins s σ H _ I hw) fun ws s2 ⟨zs, H2, I2, rz, l2, q2⟩ => ⟨I2.kIn, ?_⟩) hpl
    rw [hks]
    exact run_fnN (us := []) (vs := []) hf hr hkb hx I2 .nil rz rfl l2 q2
  refine q_of key fun G B c σ H Qd Q hc hd2 hq => ?_
  refine ⟨G, B, c, _, hc, hd2, fun kvs c2 B2 H2 zs q2 e2 hc2 hz => ?_⟩
  obtain ⟨⟨l1, l2, l3⟩, q3⟩ := q2
  exact ⟨hz.length.trans l2, call_ok (E := E) hc2 (hrel B2 σ [] kvs [] zs rfl l2 rfl hz) l3 q3 fun r c' B' H' v q e3 cr => hq r c' B' H' v q (e2.trans e3) cr⟩

/-! ### a def, by its body -/
def toSlot : AArg → Slot
  | .dat d => .dat d
  | .ob o => .arg o
def c0 (as : List AArg) (m : Nat) : CEnv := as.map toSlot ++ List.replicate (m - as.length) .no
def backA : List AArg → CEnv → Option (List AArg)
  | [], _ => some []
  | .dat d :: as, _ :: c => (backA as c).map (.dat d :: ·)
  | .ob _ :: as, .arg o :: c => (backA as c).map (.ob o :: ·)
  | _, _ => none
def bk (as : List AArg) (c : CEnv) (k : List AArg → Prop) : Prop := match backA as c with
  | some as' => k as'
  | none => False
def retB (as : List AArg) (R : Res → List AArg → Prop) (r : Res) (c : CEnv) : Prop := match r with
  | .dat d => bk as c (R (.dat d))
  | .new o => bk as c (R (.new o))
  | .sl i => match gt c i with
    | .own o => bk as c (R (.new o))
    | _ => False
def fnEnds (as : List AArg) (R : Res → List AArg → Prop) : CEnds := { nx := fun c => bk as c (R (.dat .non)), rt := retB as R }
theorem backA_ok : ∀ {as : List AArg} {c : CEnv} {as' : List AArg}, backA as c = some as' → as'.length = as.length ∧ ∀ (k : Nat) (a : AArg), as'[k]? = some a → (∃ d, a = .dat d ∧ as[k]? = some (.dat d)) ∨ (∃ o o', a = .ob o ∧ as[k]? = some (.ob o') ∧ c[k]? = some (.arg o))
  | [], c, as', h => by
    have e : [] = as' := by simpa [backA] using h
    subst e
    exact ⟨rfl, fun k a e => by simp at e⟩
  | .dat d :: as, [], as', h => by cases h
  | .ob o :: as, [], as', h => by cases h
  | .dat d :: as, s :: c, as', h => by
    unfold backA at h
    cases g : backA as c with
    | none => rw [g] at h; cases h
    | some r =>
      rw [g] at h
      have e : .dat d :: r = as' := by simpa using h
      subst e
      obtain ⟨h1, h2⟩ := backA_ok g
      refine ⟨by simp [h1], fun k a e => ?_⟩
      cases k with
      | zero =>
        have e' : AArg.dat d = a := by simpa using e
        subst e'
        exact .inl ⟨d, rfl, rfl⟩
      | succ k =>
        rcases h2 k a (by simpa using e) with ⟨d', q1, q2⟩ | ⟨o, o', q1, q2, q3⟩
        · exact .inl ⟨d', q1, by simpa using q2⟩
        · exact .inr ⟨o, o', q1, by simpa using q2, by simpa using q3⟩
  | .ob u :: as, .arg o :: c, as', h => by
    unfold backA at h
    cases g : backA as c with
    | none => rw [g] at h; cases h
    | some r =>
      rw [g] at h
      have e : .ob o :: r = as' := by simpa using h
      subst e
      obtain ⟨h1, h2⟩ := backA_ok g
      refine ⟨by simp [h1], fun k a e => ?_⟩
      cases k with
      | zero =>
        have e' : AArg.ob o = a := by simpa using e
        subst e'
        exact .inr ⟨o, u, rfl, rfl, rfl⟩
      | succ k =>
        rcases h2 k a (by simpa using e) with ⟨d', q1, q2⟩ | ⟨o, o', q1, q2, q3⟩
        · exact .inl ⟨d', q1, by simpa using q2⟩
        · exact .inr ⟨o, o', q1, by simpa using q2, by simpa using q3⟩
  | .ob u :: as, .no :: c, as', h => by cases h
  | .ob u :: as, .dat _ :: c, as', h => by cases h
  | .ob u :: as, .own _ :: c, as', h => by cases h
theorem backA_kinds : ∀ {as : List AArg} {c : CEnv} {as' : List AArg}, backA as c = some as' → ∀ (k : Nat) (o : Ob), as[k]? = some (.ob o) → ∃ o', as'[k]? = some (.ob o')
  | as, c, as', h, k, o, e => by
    obtain ⟨h1, h2⟩ := backA_ok h
    have hk : k < as'.length := by
      rw [h1]
      exact (List.getElem?_eq_some_iff.mp e).1
    rcases h2 k _ (List.getElem?_eq_getElem hk) with ⟨d, _, q⟩ | ⟨o', _, q1, _, _⟩
    · rw [e] at q
      cases q
    · exact ⟨o', by rw [List.getElem?_eq_getElem hk, q1]⟩
theorem start_get {N : List Str} {vs : List V} {i : Nat} {v : V} (h : vs[i]? = some v) : (L2.start N vs)[i]? = some (some v) := by
  unfold L2.start
  have hi := (List.getElem?_eq_some_iff.mp h).1
  rw [List.getElem?_append_left (by simpa using hi), List.getElem?_map, h]
  rfl
/-- the state at a def's entry -/
theorem conc_start {K : PySem.W.Frag} {B H : Hp} {n : Nat} {as : List AArg} {vs : List V} {fs : Nat → List Addr} {N : List Str} (hn : as.length = n) (hN : n ≤ N.length) (sB : Same B H) (ao : ArgsOk K PL B H as vs fs) (ap : Apart B H n fs) :
    ConcF K PL ⟨B, H, fun i => match as[i]?, vs[i]? with
      | some (.ob _), some (.ref p) => some p
      | _, _ => none, fs, fun _ => none⟩ B (c0 as N.length) (L2.start N vs) H fs := by
  obtain ⟨al, ag⟩ := ao
  refine ⟨sB, Same.refl B, fun a o q => .inl q, fun a o q _ => q, fun a q => q, ?_, fun i s hs => ?_, fun i hi => ?_, ap.disj, ap.off, fun a o q => by cases q⟩
  · unfold c0 L2.start
    rw [List.length_append, List.length_map, List.length_replicate, List.length_append, List.length_map, List.length_replicate, al]
  · unfold c0 at hs
    by_cases hi : i < as.length
    · rw [List.getElem?_append_left (by simpa using hi), List.getElem?_map, List.getElem?_eq_getElem hi] at hs
      have es : toSlot as[i] = s := by simpa using hs
      subst es
      obtain ⟨v, h1, h2⟩ := ag i _ (List.getElem?_eq_getElem hi)
      refine ⟨some v, start_get h1, ?_⟩
      generalize hav : as[i] = a at *
      have ea : as[i]? = some a := by rw [List.getElem?_eq_getElem hi, hav]
      cases a with
      | dat d => exact ⟨h2.1, v, rfl, h2.2⟩
      | ob o =>
        obtain ⟨p, rfl, h3⟩ := h2
        refine ⟨p, rfl, ?_, h3, fun b hb => .inr hb⟩
        show (match as[i]?, vs[i]? with
          | some (.ob _), some (.ref p) => some p
          | _, _ => none) = _
        rw [ea, h1]
    · rw [List.getElem?_append_right (by simpa using hi)] at hs
      rw [List.getElem?_replicate] at hs
      split at hs
      · rename_i hlt
        cases hs
        have hi2 : i < (L2.start N vs).length := by
          unfold L2.start
          rw [List.length_append, List.length_map, List.length_replicate, ← al]
          rw [List.length_map] at hlt
          omega
        exact ⟨_, List.getElem?_eq_getElem hi2, ap.out i (by omega)⟩
      · cases hs
  · unfold c0 at hi
    rw [List.length_append, List.length_map, List.length_replicate] at hi
    exact ap.out i (by omega)
/-- handing back -/
theorem conc_back {K : PySem.W.Frag} {B H : Hp} {n : Nat} {as as' : List AArg} {vs : List V} {fs : Nat → List Addr} {G : Ent} {B' : Hp} {c' : CEnv} {σ' : L2.St} {H' : Hp} {F' : Nat → List Addr} (hn : as.length = n) (hGB : G.B = B) (hGH : G.H = H) (hGf : G.fp = fs)
    (hGo : ∀ i o, as[i]? = some (.ob o) → ∀ p, G.ow i = some p → vs[i]? = some (.ref p)) (ao : ArgsOk K PL B H as vs fs) (C : ConcF K PL G B' c' σ' H' F') (hb : backA as c' = some as') :
    ∃ fs' : Nat → List Addr, (∀ k b, b ∈ fs' k → b ∈ F' k ∧ ∃ o, c'[k]? = some (.arg o)) ∧ Same B B' ∧ (∀ a o, B' a = some o → B a = some o ∨ H a = none) ∧ Same B' H' ∧ (∀ a o, H a = some o → (∀ k, a ∉ fs k) → H' a = some o) ∧ (∀ a, H a ≠ none → H' a ≠ none) ∧
      ArgsOk K PL B' H' as' vs fs' ∧ Apart B' H' n fs' ∧ (∀ k, ∀ b ∈ fs' k, H b = none ∨ b ∈ fs k) ∧ (∀ (k : Nat) (o : Ob), as[k]? = some (AArg.ob o) → ∃ o' : Ob, as'[k]? = some (AArg.ob o')) := by
  subst hGB hGH hGf
  obtain ⟨h1, h2⟩ := backA_ok hb
  let fs' : Nat → List Addr := fun k => match as'[k]? with
    | some (.ob _) => F' k
    | _ => []
  have mem : ∀ k b, b ∈ fs' k → b ∈ F' k ∧ ∃ o, as'[k]? = some (.ob o) := fun k b hb' => by
    have hb2 : b ∈ (match as'[k]? with
      | some (.ob _) => F' k
      | _ => []) := hb'
    cases q : as'[k]? with
    | none => rw [q] at hb2; simp at hb2
    | some a =>
      rw [q] at hb2
      cases a with
      | dat d => simp at hb2
      | ob o => exact ⟨hb2, o, rfl⟩
  have argK : ∀ (k : Nat) (o : Ob), as'[k]? = some (AArg.ob o) → c'[k]? = some (Slot.arg o) ∧ ∃ o' : Ob, as[k]? = some (AArg.ob o') := fun k o e => by
    rcases h2 k _ e with ⟨d, q, _⟩ | ⟨u, u', q1, q2, q3⟩
    · cases q
    · cases q1
      exact ⟨q3, u', q2⟩
  refine ⟨fs', fun k b hb' => ?_, C.bb, C.new, C.ex, C.frame, C.keep, ⟨by rw [h1, ao.1], fun k a e => ?_⟩, ⟨fun k hk => ?_, fun k l hkl b hk hl => ?_, fun k b hb' => C.off k b (mem k b hb').1⟩, fun k b hb' => ?_, backA_kinds hb⟩
  · obtain ⟨m1, o, m2⟩ := mem k b hb'
    exact ⟨m1, o, (argK k o m2).1⟩
  · rcases h2 k a e with ⟨d, rfl, q⟩ | ⟨o, o', rfl, q2, q3⟩
    · obtain ⟨v, p1, p2, p3⟩ := ao.2 k _ q
      refine ⟨v, p1, ?_, p3.mono C.bb⟩
      show (match as'[k]? with
        | some (.ob _) => F' k
        | _ => []) = _
      rw [e]
    · obtain ⟨x, s1, p, s2, s3, s4, _⟩ := C.slots k _ q3
      refine ⟨.ref p, hGo k o' q2 p s3, p, rfl, ?_⟩
      have : fs' k = F' k := by
        show (match as'[k]? with
          | some (.ob _) => F' k
          | _ => []) = _
        rw [e]
      rw [this]
      exact s4
  · show (match as'[k]? with
      | some (.ob _) => F' k
      | _ => []) = _
    rw [List.getElem?_eq_none (by omega)]
  · exact C.disj k l hkl b (mem k b hk).1 (mem l b hl).1
  · obtain ⟨m1, o, m2⟩ := mem k b hb'
    obtain ⟨x, s1, p, s2, s3, s4, s5⟩ := C.slots k _ (argK k o m2).1
    exact s5 b m1
theorem bk_ok {as : List AArg} {c : CEnv} {k : List AArg → Prop} (h : bk as c k) : ∃ as', backA as c = some as' ∧ k as' := by
  unfold bk at h
  cases g : backA as c with
  | none => simp only [g] at h
  | some as' =>
    simp only [g] at h
    exact ⟨as', rfl, h⟩
theorem fnC {P : Program} {w : World} {K : PySem.W.Frag} {mg : Str → Option Value} {base : Heap} {x qual : Str} {st : Stmt} {dvs : List V} {kws : List (Str × V)} {f : Addr} {fd : FuncData} {N ps : List Str} {k : Nat} {F : FS} {ds : DS} (Fn : FunD K x qual (defArgs st) (defBody st) (defScope st) dvs kws f fd) (Sc : FnScope N ps (defScope st))
    (body : ∀ (cdv : Value) (A : Around) (outer : List Env) (s : Shared) (H : Hp) (E : XK), Room k (A.deeper (envOfC qual (defScope st) s.heap.objs.size f cdv)) → QSs (cxOf CX0 P w K mg base N qual (defScope st) f cdv A outer s H E).nox PL (defBody st) ds)
    (red : ∀ as R, as.length = ps.length → F as R → ds (fnEnds as R) (c0 as N.length)) : FnOk P w K mg base CX0 (k + 1) f fd ps (spC K PL ps.length F) := by
  have hN : ps.length ≤ N.length := by
    have := congrArg List.length Sc.pre
    rw [List.length_take] at this
    omega
  refine Fn.ok Sc (fun vs H Q E h => ?_) fun cdv A outer s H vs Q E hr h => ?_
  · obtain ⟨B, as, fs, R, h1, _, h3, _⟩ := h
    rw [← h3.1, h1]
  · obtain ⟨B, as, fs, R, hn, sB, ao, ap, hF, q⟩ := h
    have fin : ∀ (G : Ent), G.B = B → G.H = H → G.fp = fs → (∀ i o, as[i]? = some (.ob o) → ∀ p, G.ow i = some p → vs[i]? = some (.ref p)) → ∀ (r : Res) (c' : CEnv) (B' : Hp) (σ' : L2.St) (H' : Hp) (v : V), retB as R r c' → CR K PL G B' c' σ' H' r v → Q v H' := by
      intro G g1 g2 g3 g4 r c' B' σ' H' v hr' cr
      cases r with
      | dat d =>
        obtain ⟨as', b1, b2⟩ := bk_ok (show bk as c' (R (.dat d)) from hr')
        obtain ⟨⟨F', C⟩, rd⟩ := cr
        obtain ⟨fs', m0, m1, m2, m3, m4, m5, m6, m7, m8, m9⟩ := conc_back hn g1 g2 g3 g4 ao C b1
        exact q _ as' B' H' v fs' b2 m1 m2 m3 m4 m5 m6 m7 m8 m9 rd
      | new o =>
        obtain ⟨as', b1, b2⟩ := bk_ok (show bk as c' (R (.new o)) from hr')
        obtain ⟨F2, C2⟩ := (show Conc K PL G B' (c' ++ [.own o]) (σ' ++ [some v]) H' from cr)
        have C := C2.pop
        obtain ⟨fs', m0, m1, m2, m3, m4, m5, m6, m7, m8, m9⟩ := conc_back hn g1 g2 g3 g4 ao C b1
        have hl : c'.length = σ'.length := by simpa using C2.len
        obtain ⟨y, s1, p, s2, s3, s4⟩ := C2.slots c'.length (.own o) (by rw [List.getElem?_append_right (Nat.le_refl _)]; simp)
        rw [hl, List.getElem?_append_right (Nat.le_refl _)] at s1
        have ey : y = some v := by simpa using s1.symm
        subst ey
        have ev : v = .ref p := Option.some.inj s2
        refine q _ as' B' H' v fs' b2 m1 m2 m3 m4 m5 m6 m7 m8 m9 ⟨p, F2 c'.length, ev, s3, fun b hb => ⟨C2.off _ b hb, by rw [← g2]; exact s4 b hb, fun k hk => ?_⟩⟩
        obtain ⟨z1, o2, z2⟩ := m0 k b hk
        have hk2 : k < c'.length := (List.getElem?_eq_some_iff.mp z2).1
        simp only [hk2, if_true] at z1
        exact C2.disj k c'.length (by omega) b z1 hb
      | sl i =>
        have hr2 : (match gt c' i with
          | .own o => bk as c' (R (.new o))
          | _ => False) := hr'
        cases g : gt c' i with
        | no => simp only [g] at hr2
        | dat d => simp only [g] at hr2
        | arg o => simp only [g] at hr2
        | own o =>
          simp only [g] at hr2
          obtain ⟨as', b1, b2⟩ := bk_ok hr2
          obtain ⟨⟨F', C⟩, rv⟩ := cr
          obtain ⟨fs', m0, m1, m2, m3, m4, m5, m6, m7, m8, m9⟩ := conc_back hn g1 g2 g3 g4 ao C b1
          have gi := gt_get g (by simp)
          obtain ⟨y, s1, p, s2, s3, s4⟩ := C.slots i _ gi
          rw [rv] at s1
          cases s1
          cases s2
          refine q _ as' B' H' _ fs' b2 m1 m2 m3 m4 m5 m6 m7 m8 m9 ⟨p, F' i, rfl, s3, fun b hb => ⟨C.off _ b hb, by rw [← g2]; exact s4 b hb, fun k hk => ?_⟩⟩
          obtain ⟨z1, o2, z2⟩ := m0 k b hk
          have hki : k ≠ i := fun e => by
            rw [e, gi] at z2
            cases z2
          exact C.disj k i hki b z1 hb
    refine ⟨_, (body cdv A outer s H E hr).pss.nox, _, B, _, _, ⟨_, conc_start hn (by omega) sB ao ap⟩, red as R hn hF, ?_, ?_, ?_, ?_⟩
    · intro c' B' σ' H' hx e hc
      exact fin _ rfl rfl rfl (fun i o e1 p e2 => by
        have e3 : (match as[i]?, vs[i]? with
          | some (.ob _), some (.ref p) => some p
          | _, _ => none) = some p := e2
        rw [e1] at e3
        cases g : vs[i]? with
        | none => rw [g] at e3; cases e3
        | some u =>
          rw [g] at e3
          cases u with
          | ref a => rw [show a = p from Option.some.inj e3]
          | _ => cases e3) (.dat .non) c' B' σ' H' .non hx ⟨hc, by unfold Rep; rfl⟩
    · intro r c' B' σ' H' v hx cr
      exact fin _ rfl rfl rfl (fun i o e1 p e2 => by
        have e3 : (match as[i]?, vs[i]? with
          | some (.ob _), some (.ref p) => some p
          | _, _ => none) = some p := e2
        rw [e1] at e3
        cases g : vs[i]? with
        | none => rw [g] at e3; cases e3
        | some u =>
          rw [g] at e3
          cases u with
          | ref a => rw [show a = p from Option.some.inj e3]
          | _ => cases e3) r c' B' σ' H' v hx cr
    · intro c' B' σ' H' hx e hc
      exact hx.elim
    · intro c' B' σ' H' hx e hc
      exact hx.elim
end
end Cl

namespace Cl
open PySem PySem.Spec PyProof.Rows L2

/-! ### list comprehensions -/
section
variable {K : PySem.W.Frag} {PL : PoolP} {G : Ent} {B : Hp} {c c' : CEnv} {σ σ' : L2.St} {H : Hp}
open Classical in
/-- other slots, of which each is as before, forgotten, or plain data -/
theorem Conc.swap (h : Conc K PL G B c σ H) (hl : c'.length = σ'.length) (hl2 : c'.length = c.length) (hs : ∀ i, i < c'.length → (c'[i]? = c[i]? ∧ σ'[i]? = σ[i]?) ∨ c'[i]? = some .no ∨ ∃ d v, c'[i]? = some (.dat d) ∧ σ'[i]? = some (some v) ∧ Rep K B d v) : Conc K PL G B c' σ' H := by
  obtain ⟨F, C⟩ := h
  refine ⟨fun i => if c'[i]? = c[i]? ∧ σ'[i]? = σ[i]? then F i else [], C.ex, C.bb, C.new, C.frame, C.keep, hl, fun i s e => ?_, fun i hi => ?_, fun i j hij b hi hj => ?_, fun i b hb => ?_, fun a o q => ⟨(C.pin a o q).1, (C.pin a o q).2.1, fun i hi => ?_⟩⟩
  · by_cases w : c'[i]? = c[i]? ∧ σ'[i]? = σ[i]?
    · rw [if_pos w]
      obtain ⟨o, h1, h2⟩ := C.slots i s (w.1.symm.trans e)
      exact ⟨o, w.2.trans h1, h2⟩
    · rw [if_neg w]
      have hi := (List.getElem?_eq_some_iff.mp e).1
      rcases hs i hi with z | z | ⟨d, v, z1, z2, z3⟩
      · exact absurd z w
      · rw [e] at z
        cases z
        exact ⟨_, List.getElem?_eq_getElem (by omega), rfl⟩
      · rw [e] at z1
        cases z1
        exact ⟨_, z2, rfl, v, rfl, z3⟩
  · show (if c'[i]? = c[i]? ∧ σ'[i]? = σ[i]? then F i else []) = []
    split
    · exact C.out i (by omega)
    · rfl
  · split at hi
    · split at hj
      · exact C.disj i j hij b hi hj
      · simp at hj
    · simp at hi
  · split at hb
    · exact C.off i b hb
    · simp at hb
  · split at hi
    · exact (C.pin a o q).2.2 i hi
    · simp at hi
end
def wipeC : List Nat → CEnv → CEnv
  | [], c => c
  | v :: vs, c => (wipeC vs c).set v .no
def unw : List Nat → CEnv → CEnv → CEnv
  | [], _, c => c
  | v :: vs, c1, c => (unw vs c1 c).set v (match gt c1 v with
    | .dat d => .dat d
    | _ => .no)
theorem wipeC_length (c : CEnv) : ∀ vs, (wipeC vs c).length = c.length
  | [] => rfl
  | v :: vs => by
    unfold wipeC
    rw [List.length_set, wipeC_length c vs]
theorem wipeC_in {c : CEnv} {i : Nat} (hi : i < c.length) : ∀ {vs : List Nat}, i ∈ vs → (wipeC vs c)[i]? = some .no
  | [], h => by simp at h
  | v :: vs, h => by
    unfold wipeC
    by_cases e : v = i
    · subst e
      exact List.getElem?_set_self (by rw [wipeC_length]; exact hi)
    · rw [List.getElem?_set_ne e]
      exact wipeC_in hi (by simpa [Ne.symm e] using h)
theorem wipeC_out {c : CEnv} {i : Nat} : ∀ {vs : List Nat}, i ∉ vs → (wipeC vs c)[i]? = c[i]?
  | [], h => rfl
  | v :: vs, h => by
    unfold wipeC
    simp only [List.mem_cons, not_or] at h
    rw [List.getElem?_set_ne (Ne.symm h.1)]
    exact wipeC_out h.2
theorem unw_length (c1 c : CEnv) : ∀ vs, (unw vs c1 c).length = c.length
  | [] => rfl
  | v :: vs => by
    unfold unw
    rw [List.length_set, unw_length c1 c vs]
theorem unw_in {c1 c : CEnv} {i : Nat} (hi : i < c.length) : ∀ {vs : List Nat}, i ∈ vs → (unw vs c1 c)[i]? = some (match gt c1 i with
    | .dat d => .dat d
    | _ => .no)
  | [], h => by simp at h
  | v :: vs, h => by
    unfold unw
    by_cases e : v = i
    · subst e
      exact List.getElem?_set_self (by rw [unw_length]; exact hi)
    · rw [List.getElem?_set_ne e]
      exact unw_in hi (by simpa [Ne.symm e] using h)
theorem unw_out {c1 c : CEnv} {i : Nat} : ∀ {vs : List Nat}, i ∉ vs → (unw vs c1 c)[i]? = c[i]?
  | [], h => rfl
  | v :: vs, h => by
    unfold unw
    simp only [List.mem_cons, not_or] at h
    rw [List.getElem?_set_ne (Ne.symm h.1)]
    exact unw_out h.2
section
variable {K : PySem.W.Frag} {PL : PoolP} {G : Ent} {B : Hp} {c c1 : CEnv} {σ : L2.St} {H : Hp} {vs : List Nat}
theorem Conc.wipe (h : Conc K PL G B c σ H) : Conc K PL G B (wipeC vs c) (L2.wipe σ vs) H := by
  refine h.swap (by rw [wipeC_length, L2.wipe_length]; exact h.len) (wipeC_length _ _) fun i hi => ?_
  rw [wipeC_length] at hi
  by_cases e : i ∈ vs
  · exact .inr (.inl (wipeC_in hi e))
  · exact .inl ⟨wipeC_out e, L2.wipe_out e⟩
theorem Conc.unwipe {B1 : Hp} {H1 : Hp} {G1 : Ent} (h : Conc K PL G B c (L2.wipe σ vs) H) (h1 : Conc K PL G1 B1 c1 σ H1) (e : Same B1 B) : Conc K PL G B (unw vs c1 c) σ H := by
  have hl : c.length = σ.length := by rw [h.len, L2.wipe_length]
  refine h.swap (by rw [unw_length]; exact hl) (unw_length _ _ _) fun i hi => ?_
  rw [unw_length] at hi
  by_cases m : i ∈ vs
  · have q := unw_in (c1 := c1) hi m
    cases g : gt c1 i with
    | dat d =>
      rw [g] at q
      obtain ⟨v, z1, z2⟩ := h1.getDat g
      exact .inr (.inr ⟨d, v, q, z1, z2.mono e⟩)
    | no => rw [g] at q; exact .inr (.inl q)
    | own o => rw [g] at q; exact .inr (.inl q)
    | arg o => rw [g] at q; exact .inr (.inl q)
  · exact .inl ⟨unw_out m, (L2.wipe_out m).symm⟩
def pinned (G : Ent) (D : Addr) (xs : List V) : Ent := { G with pin := fun a => if a = D then some (.lst xs) else G.pin a }
theorem Conc.pinNew {D : Addr} (h : Conc K PL G B c σ H) (hD : H D = none) : Conc K PL (pinned G D []) B c σ (upd H D (.lst [])) := by
  obtain ⟨F, C⟩ := h
  have C2 := C.grow (Same.new (o := .lst []) hD)
  refine ⟨F, C2.ex, C2.bb, C2.new, C2.frame, C2.keep, C2.len, C2.slots, C2.out, C2.disj, C2.off, fun a o q => ?_⟩
  have q' : (if a = D then some (HO.lst []) else G.pin a) = some o := q
  by_cases e : a = D
  · rw [if_pos e] at q'
    cases q'
    subst e
    exact ⟨upd_same, C.ex.free hD, fun i hi => C.alive i a hi hD⟩
  · rw [if_neg e] at q'
    exact C2.pin a o q'
theorem Conc.pinAt {D : Addr} {xs : List V} (h : Conc K PL (pinned G D xs) B c σ H) : H D = some (.lst xs) ∧ B D = none := by
  obtain ⟨F, C⟩ := h
  obtain ⟨h1, h2, _⟩ := C.pin D (.lst xs) (by show (if D = D then _ else _) = _; rw [if_pos rfl])
  exact ⟨h1, h2⟩
theorem Conc.pinSet {D : Addr} {xs ys : List V} (h : Conc K PL (pinned G D xs) B c σ H) (hG : G.H D = none) : Conc K PL (pinned G D ys) B c σ (upd H D (.lst ys)) := by
  obtain ⟨F, C⟩ := h
  obtain ⟨p1, p2, p3⟩ := C.pin D (.lst xs) (by show (if D = D then _ else _) = _; rw [if_pos rfl])
  refine ⟨F, fun a o q => ?_, C.bb, C.new, fun a o q nf => ?_, fun a q => ?_, C.len, fun i s hs => ?_, C.out, C.disj, C.off, fun a o q => ?_⟩
  · have : a ≠ D := fun z => by rw [z, p2] at q; cases q
    rw [upd_ne this]
    exact C.ex a o q
  · have : a ≠ D := fun z => by
      rw [z] at q
      rw [show (pinned G D ys).H D = none from hG] at q
      cases q
    rw [upd_ne this]
    exact C.frame a o q nf
  · by_cases e : a = D
    · rw [e, upd_same]
      simp
    · rw [upd_ne e]
      exact C.keep a q
  · obtain ⟨o, h1, h2⟩ := C.slots i s hs
    refine ⟨o, h1, SlotOk.mono (Same.refl B) (fun b hb => ?_) h2⟩
    have : b ≠ D := fun z => p3 i (by rw [← z]; exact hb)
    rw [upd_ne this]
  · have q' : (if a = D then some (HO.lst ys) else G.pin a) = some o := q
    by_cases e : a = D
    · rw [if_pos e] at q'
      cases q'
      subst e
      exact ⟨upd_same, p2, p3⟩
    · rw [if_neg e] at q'
      have q2 := C.pin a o (by show (if a = D then _ else _) = _; rw [if_neg e]; exact q')
      rw [upd_ne e]
      exact q2
theorem Conc.pinOut {D : Addr} {xs : List V} {acc : List Dt} (h : Conc K PL (pinned G D xs) B c σ H) (hG : G.H D = none) (hp : G.pin D = none) (r : RepL K B acc xs) : Conc K PL G B (c ++ [.own (.lst acc)]) (σ ++ [some (.ref D)]) H := by
  obtain ⟨F, C⟩ := h
  obtain ⟨p1, p2, p3⟩ := C.pin D (.lst xs) (by show (if D = D then _ else _) = _; rw [if_pos rfl])
  have C2 : ConcF K PL G B c σ H F := ⟨C.ex, C.bb, C.new, C.frame, C.keep, C.len, C.slots, C.out, C.disj, C.off, fun a o q => C.pin a o (by
    show (if a = D then _ else _) = _
    have : a ≠ D := fun z => by rw [z, hp] at q; cases q
    rw [if_neg this]
    exact q)⟩
  refine ⟨_, C2.push (a := D) (fp := [D]) rfl ⟨rfl, xs, p1, r⟩ (fun b hb => ?_) (fun b hb => ?_) (fun i b hb hb' => ?_) (fun b hb => ?_)⟩
  · have e : b = D := by simpa using hb
    rw [e]
    exact hG
  · have e : b = D := by simpa using hb
    rw [e]
    exact p2
  · have e : b = D := by simpa using hb'
    rw [e] at hb
    exact p3 i hb
  · have e : b = D := by simpa using hb
    rw [e]
    exact hp
end
/-- a target of names alone, all of them the block's own -/
def NG (K : PySem.W.Frag) (PL : PoolP) (vs : List Nat) (g : TG) (dg : DG) : Prop := ∀ G B c d v σ H (Qd : CEnv → Prop) (Q : L2.St → Hp → Prop), Conc K PL G B c σ H → Rep K B d v → dg d c Qd →
  (∀ c' σ', Qd c' → Conc K PL G B c' σ' H → L2.wipe σ' vs = L2.wipe σ vs → Q σ' H) → g v σ H Q
theorem wipe_set {σ : L2.St} {i : Nat} {x : Option V} {vs : List Nat} (h : i ∈ vs) : L2.wipe (σ.set i x) vs = L2.wipe σ vs := by
  apply List.ext_getElem?
  intro j
  by_cases hj : j ∈ vs
  · by_cases hlt : j < σ.length
    · have key : ∀ (τ : L2.St), j < τ.length → (L2.wipe τ vs)[j]? = some none := fun τ hτ => by
        have hl : j < (L2.wipe τ vs).length := by rw [L2.wipe_length]; exact hτ
        cases q : (L2.wipe τ vs)[j]? with
        | none => rw [List.getElem?_eq_none_iff] at q; omega
        | some o =>
          cases o with
          | none => rfl
          | some y => exact absurd hj (L2.wipe_some q).2
      rw [key _ (by rw [List.length_set]; exact hlt), key _ hlt]
    · rw [List.getElem?_eq_none (by rw [L2.wipe_length, List.length_set]; omega), List.getElem?_eq_none (by rw [L2.wipe_length]; omega)]
  · have hij : i ≠ j := fun e => hj (e ▸ h)
    rw [L2.wipe_out hj, L2.wipe_out hj, List.getElem?_set_ne hij]
theorem wipe_wipe {σ : L2.St} {vs : List Nat} : L2.wipe (L2.wipe σ vs) vs = L2.wipe σ vs := by
  apply List.ext_getElem?
  intro j
  by_cases hj : j ∈ vs
  · by_cases hlt : j < σ.length
    · have key : ∀ (τ : L2.St), j < τ.length → (L2.wipe τ vs)[j]? = some none := fun τ hτ => by
        have hl : j < (L2.wipe τ vs).length := by rw [L2.wipe_length]; exact hτ
        cases q : (L2.wipe τ vs)[j]? with
        | none => rw [List.getElem?_eq_none_iff] at q; omega
        | some o =>
          cases o with
          | none => rfl
          | some y => exact absurd hj (L2.wipe_some q).2
      rw [key _ (by rw [L2.wipe_length]; exact hlt), key _ hlt]
    · rw [List.getElem?_eq_none (by rw [L2.wipe_length, L2.wipe_length]; omega), List.getElem?_eq_none (by rw [L2.wipe_length]; omega)]
  · rw [L2.wipe_out hj]
theorem ng_name {K : PySem.W.Frag} {PL : PoolP} {vs : List Nat} {i : Nat} (h : i ∈ vs) : NG K PL vs (L2.gName i) (gN i) := by
  intro G B c d v σ H Qd Q hc rd hd hq
  exact hq _ _ hd (hc.setDat rd) (wipe_set h)
def NGs (K : PySem.W.Frag) (PL : PoolP) (vs : List Nat) (g : TGs) (dg : DGs) : Prop := ∀ G B c ds ws σ H (Qd : CEnv → Prop) (Q : L2.St → Hp → Prop), Conc K PL G B c σ H → RepL K B ds ws → dg ds c Qd →
  (∀ c' σ', Qd c' → Conc K PL G B c' σ' H → L2.wipe σ' vs = L2.wipe σ vs → Q σ' H) → g ws σ H Q
theorem ngs_nil {K : PySem.W.Frag} {PL : PoolP} {vs : List Nat} : NGs K PL vs L2.gNil gsNil := by
  intro G B c ds ws σ H Qd Q hc rd hd hq
  obtain ⟨rfl, h⟩ := hd
  unfold RepL at rd
  exact ⟨rd, hq _ _ h hc rfl⟩
theorem ngs_cons {K : PySem.W.Frag} {PL : PoolP} {vs : List Nat} {g : TG} {dg : DG} {gs : TGs} {dgs : DGs} (h : NG K PL vs g dg) (h' : NGs K PL vs gs dgs) : NGs K PL vs (L2.gCons g gs) (gsCons dg dgs) := by
  intro G B c ds ws σ H Qd Q hc rd hd hq
  cases ds with
  | nil => exact hd.elim
  | cons d r =>
    unfold RepL at rd
    obtain ⟨x, xs, e1, r1, r2⟩ := rd
    refine ⟨x, xs, e1, h G B c d x σ H _ _ hc r1 hd fun c' σ' q hc' w => ?_⟩
    exact h' G B c' r xs σ' H _ _ hc' r2 q fun c2 σ2 q2 hc2 w2 => hq c2 σ2 q2 hc2 (w2.trans w)
theorem ng_tup {K : PySem.W.Frag} {PL : PoolP} {vs : List Nat} {n : Nat} {gs : TGs} {dgs : DGs} (h : NGs K PL vs gs dgs) : NG K PL vs (L2.gTup K n gs) (gT n dgs) := by
  intro G B c d v σ H Qd Q hc rd hd hq
  cases d with
  | tup l =>
    unfold Rep at rd
    obtain ⟨a, xs, e1, r1, r2⟩ := rd
    obtain ⟨h1, h2⟩ := hd
    exact ⟨a, xs, e1, sameT hc.same r1, by rw [r2.length]; exact h1, h G B c l xs σ H _ _ hc r2 h2 hq⟩
  | _ => exact hd.elim
section
variable {X : Cx} {PL : PoolP}
structure QTs (X : Cx) (PL : PoolP) (ifs : List Expr) (dt : DT) : Prop where
  pts : PTs X ifs (lT X.K PL dt)
def dYes : DT := fun c Q => Q true c
theorem qts_nil : QTs X PL [] dYes := ⟨⟨fun pins s σ H Q I ⟨G, B, c, Qd, h1, h2, h3⟩ => pts_nil.run pins s σ H Q I (h3 _ _ _ _ h2 (Same.refl B) h1)⟩⟩
theorem qts_one {e : Expr} {dt : DT} (h : QT X PL e dt) : QTs X PL [e] dt := ⟨pts_one h.pt⟩
def dLc (di : DI) (g : DG) (dt : DT) (de : DE) (vs : List Nat) : DE := fun c Q => di c fun ds c1 => ds.length ≤ 9000000 ∧ ∃ I : Nat → List Dt → CEnv → Prop, I 0 [] (wipeC vs c1) ∧
  (∀ k acc d c', ds[k]? = some d → acc.length ≤ k → I k acc c' → g d c' fun c2 => dt c2 fun b c3 => br b (de c3 fun r c4 => asD r c4 fun e c5 => I (k + 1) (acc ++ [e]) (wipeC vs c5)) (I (k + 1) acc (wipeC vs c3))) ∧ ∀ acc c', acc.length ≤ ds.length → I ds.length acc c' → Q (.new (.lst acc)) (unw vs c1 c')
theorem lc_ok {K : PySem.W.Frag} {di : DI} {g : TG} {dg : DG} {dt : DT} {de : DE} {vs : List Nat} (hn : NG K PL vs g dg) {G : Ent} {B : Hp} {c : CEnv} {σ : L2.St} {H : Hp} {Qd : Res → CEnv → Prop} {Q : VK} (hc : Conc K PL G B c σ H) (hd' : dLc di dg dt de vs c Qd)
    (hq : ∀ r c' B' H' v, Qd r c' → Same B B' → CR K PL G B' c' σ H' r v → Q v H') : tLc (lI K PL di) g (lT K PL dt) (lE K PL de) vs σ H Q := by
  refine ⟨G, B, c, _, hc, hd', fun ds c1 B1 H1 J ⟨hz, I, i0, it, ie⟩ e1 hc1 HJ D hD => ?_⟩
  have hGD : G.H D = none := by
    obtain ⟨F, C⟩ := hc1
    cases q : G.H D with
    | none => rfl
    | some o => exact absurd hD (C.keep D (by rw [q]; simp))
  have hpD : G.pin D = none := by
    obtain ⟨F, C⟩ := hc1
    cases q : G.pin D with
    | none => rfl
    | some o =>
      have := (C.pin D o q).1
      rw [hD] at this
      cases this
  refine ⟨fun i m H' => m = ds.length - i ∧ i ≤ ds.length ∧ ∃ acc xs B2 c2, Same B1 B2 ∧ RepL K B2 acc xs ∧ acc.length ≤ i ∧ Conc K PL (pinned G D xs) B2 c2 (L2.wipe σ vs) H' ∧ I i acc c2, ⟨_, rfl, Nat.zero_le _, [], [], B1, _, Same.refl _, .nil, Nat.le_refl _, hc1.wipe.pinNew hD, i0⟩, ?_⟩
  rintro i m H' ⟨rfl, hil, acc, xs, B2, c2, e2, ra, hal, hc2, hI⟩
  by_cases hlt : i < ds.length
  · refine .inr ⟨HJ.go i H' (e2.trans hc2.same) hlt, fun H2 => ∃ acc xs B3 c3, Same B1 B3 ∧ RepL K B3 acc xs ∧ acc.length ≤ i + 1 ∧ Conc K PL (pinned G D xs) B3 c3 (L2.wipe σ vs) H2 ∧ I (i + 1) acc c3, fun H2 h2 => ⟨ds.length - (i + 1), by omega, rfl, hlt, h2⟩, fun x H3 hy => ?_⟩
    obtain ⟨B3, d, hd3, e3, hc3, rd⟩ := HJ.yld i H' x H3 hlt hy _ B2 c2 _ e2 hc2
    refine hn _ B3 c2 d x _ H3 _ _ hc3 rd (it i acc d c2 hd3 hal hI) fun c4 σ4 q4 hc4 w4 => ?_
    rw [wipe_wipe] at w4
    refine ⟨w4, _, B3, c4, _, hc4, q4, fun b c5 B5 H5 q5 e5 hc5 => ?_⟩
    cases b with
    | false =>
      rw [if_neg Bool.false_ne_true]
      have hc6 := hc5.wipe (vs := vs)
      rw [w4] at hc6
      exact ⟨acc, xs, B5, _, (e2.trans e3).trans e5, ra.mono (e3.trans e5), by omega, hc6, q5⟩
    | true =>
      rw [if_pos rfl]
      refine ⟨_, B5, c5, _, hc5, q5, fun r c6 B6 H6 y q6 e6 cr6 => ?_⟩
      obtain ⟨B7, c7, d7, e7, hc7, rd7, q7⟩ := asD_ok cr6 q6
      have ee : Same B2 B7 := ((e3.trans e5).trans e6).trans e7
      have hl : xs.length = acc.length := ra.length
      refine ⟨xs, hc7.pinAt.1, sz7l (by omega), acc ++ [d7], xs ++ [y], B7, wipeC vs c7, e2.trans ee, (ra.mono ee).app (.one rd7), by simp; omega, ?_, q7⟩
      have hc8 := (hc7.pinSet (ys := xs ++ [y]) hGD).wipe (vs := vs)
      rw [w4] at hc8
      exact hc8
  · have hie : i = ds.length := by omega
    subst hie
    refine .inl ⟨HJ.stop H' (e2.trans hc2.same), ?_⟩
    have hpin := hc2.unwipe hc1 e2
    exact hq _ _ B2 H' _ (ie acc c2 hal hI) (e1.trans e2) (hpin.pinOut hGD hpD ra)
theorem qe_lc {elt tg iter : Expr} {ifs : List Expr} {scope : Scope} {own : List (Str × Nat)} {pos : Pos} {di : DI} {g : TG} {dg : DG} {dt : DT} {de : DE} (hi : QI X PL tg iter di) (hn : NG X.K PL (own.map (·.2)) g dg) (hc : X.calm = true) (hN : X.N.Nodup) (ok : BlkOk X.N X.env.scope scope own)
    (hg : ∀ (s : Shared) (H : Hp) (C : Addr) (cl : List (Str × Addr)) (fp : List Addr), PG (X.blk s H scope (compEnvC scope cl C X.env) fp) tg g) (ht : ∀ (s : Shared) (H : Hp) (C : Addr) (cl : List (Str × Addr)) (fp : List Addr), QTs (X.blk s H scope (compEnvC scope cl C X.env) fp) PL ifs dt)
    (he : ∀ (s : Shared) (H : Hp) (C : Addr) (cl : List (Str × Addr)) (fp : List Addr), QE (X.blk s H scope (compEnvC scope cl C X.env) fp) PL elt de) (hs : ∀ x, foldedSetIterable iter X.env x = pure x := by intro _; rfl) :
    QE X PL (.ListComp elt [⟨tg, iter, ifs, 0⟩] scope pos) (dLc di dg dt de (own.map (·.2))) :=
  q_of (pe_lc (te := lE X.K PL de) (tt := lT X.K PL dt) hc hN hi.pi ok hg (fun s H C cl fp => (ht s H C cl fp).pts) (fun s H C cl fp => (he s H C cl fp).pe) hs) fun _ _ _ _ _ _ _ h1 h2 h3 => lc_ok hn h1 h2 h3
theorem qs_setLc {i : Nat} {y : Str} {py : Pos} {elt tg iter : Expr} {ifs : List Expr} {scope : Scope} {own : List (Str × Nat)} {pos spos : Pos} {di : DI} {g : TG} {dg : DG} {dt : DT} {de : DE} (hi : QI X PL tg iter di) (hn : NG X.K PL (own.map (·.2)) g dg) (hc : X.calm = true) (hN : X.N.Nodup) (hy : X.N[i]? = some y) (hyl : X.env.scope.names.lookup y = some .local)
    (hsw : swapsWith (.ListComp elt [⟨tg, iter, ifs, 0⟩] scope pos) (some (.Name y py)) spos.line X.env = pure true) (ok : BlkOk X.N X.env.scope scope own)
    (hg : ∀ (s : Shared) (H : Hp) (C : Addr) (cl : List (Str × Addr)) (fp : List Addr), PG (X.blk s H scope (compEnvC scope cl C X.env) fp) tg g) (ht : ∀ (s : Shared) (H : Hp) (C : Addr) (cl : List (Str × Addr)) (fp : List Addr), QTs (X.blk s H scope (compEnvC scope cl C X.env) fp) PL ifs dt)
    (he : ∀ (s : Shared) (H : Hp) (C : Addr) (cl : List (Str × Addr)) (fp : List Addr), QE (X.blk s H scope (compEnvC scope cl C X.env) fp) PL elt de) (hs : ∀ x, foldedSetIterable iter X.env x = pure x := by intro _; rfl) :
    QS X PL (.Assign [.Name y py] (.ListComp elt [⟨tg, iter, ifs, 0⟩] scope pos) spos) (dAsg i (dLc di dg dt de (own.map (·.2)))) := by
  refine qs_of (ps_setLc (te := lE X.K PL de) (tt := lT X.K PL dt) hc hN hy hyl hsw hi.pi ok hg (fun s H C cl fp => (ht s H C cl fp).pts) (fun s H C cl fp => (he s H C cl fp).pe) hs) fun G B c σ H E D h1 h2 h3 h4 h5 h6 => ?_
  refine lc_ok hn h1 h2 fun r c1 B1 H1 v q e1 cr => ?_
  obtain ⟨B', c', q1, q0, q2⟩ := put_ok cr q
  exact h3 _ _ _ _ q1 (e1.trans q0) q2
end
end Cl

namespace Cl
open PySem PySem.Spec PyProof.Rows L2

/-! ### how arguments come to parameters -/
def pick {α : Type} (d : α) (p : List (Sum Nat Nat)) (us ws : List α) : List α := p.map fun q => match q with
  | .inl i => us.getD i d
  | .inr j => ws.getD j d
theorem vals_getD {vs : List V} {us : List Value} (r : Vals vs us) (i : Nat) : RelV (vs.getD i .non) (us.getD i .none) := by
  rw [List.getD_eq_getElem?_getD, List.getD_eq_getElem?_getD]
  cases q : vs[i]? with
  | none =>
    rw [r.none_of q]
    rfl
  | some x =>
    obtain ⟨u, h1, h2⟩ := r.get q
    rw [h1]
    exact h2
theorem vals_pick {vs zs : List V} {us ws : List Value} (r : Vals vs us) (r' : Vals zs ws) : ∀ p : List (Sum Nat Nat), Vals (pick .non p vs zs) (pick .none p us ws)
  | [] => .nil
  | .inl i :: p => .cons (vals_getD r i) (vals_pick r r' p)
  | .inr i :: p => .cons (vals_getD r' i) (vals_pick r r' p)
theorem av_getD {K : PySem.W.Frag} {B : Hp} {σ : L2.St} {avs : List AV} {vs : List V} (r : AVOk K B σ avs vs) (i : Nat) {as : List AV} {ws : List V} (h : AVOk K B σ as ws) : AVOk K B σ (avs.getD i (.dat .non) :: as) (vs.getD i .non :: ws) := by
  rw [List.getD_eq_getElem?_getD, List.getD_eq_getElem?_getD]
  cases q : avs[i]? with
  | none =>
    rw [List.getElem?_eq_none (by rw [r.length]; exact List.getElem?_eq_none_iff.mp q)]
    exact ⟨.non, ws, rfl, by unfold Rep; rfl, h⟩
  | some a =>
    obtain ⟨v, h1, h2⟩ := r.get q
    rw [h1]
    cases a with
    | dat d => exact ⟨v, ws, rfl, h2, h⟩
    | own j => exact ⟨v, ws, rfl, h2, h⟩
theorem av_pick {K : PySem.W.Frag} {B : Hp} {σ : L2.St} {avs bvs : List AV} {vs zs : List V} (r : AVOk K B σ avs vs) (r' : AVOk K B σ bvs zs) {as : List AV} {ws : List V} (h : AVOk K B σ as ws) : ∀ p : List (Sum Nat Nat), AVOk K B σ (pick (.dat .non) p avs bvs ++ as) (pick .non p vs zs ++ ws)
  | [] => h
  | .inl i :: p => av_getD r i (av_pick r r' h p)
  | .inr i :: p => av_getD r' i (av_pick r r' h p)
section
variable {K : PySem.W.Frag} {x qual : Str} {params : Arguments} {body : List Stmt} {scope : Scope} {kws : List (Str × V)} {f : Addr} {fd : FuncData} {ps : List Str}
theorem bi_N (F : FunD K x qual params body scope [] kws f fd) (h : ∀ (kV doc pm : Value) (an : Option Addr) (cdv ct : Value) (us : List Value), us.length = ps.length → bindArgs (PySem.W.fnOf x qual params body scope .none kV doc pm an cdv ct) ⟨us, []⟩ = pure (ps.zip us)) :
    ∃ ws ds, Vals ws ds ∧ (∀ B, RepL K B [] ws) ∧ Binds K fd ps ds := ⟨[], [], .nil, fun _ => .nil, F.bindsN h⟩
/-- keyword-only defaults fill up -/
theorem bi_K (F : FunD K x qual params body scope [] kws f fd) (n : Nat) (dds : List Dt) (hr : ∀ B, RepL K B dds (kws.map (·.2))) (hk : kws ≠ []) (hn : n + kws.length = ps.length)
    (h : ∀ (D : Addr) (doc pm : Value) (an : Option Addr) (cdv ct : Value) (us ks : List Value), us.length = n → ks.length = kws.length →
      KwChain D ((kws.map (·.1)).zip ks) (bindArgs (PySem.W.fnOf x qual params body scope .none (.ref D) doc pm an cdv ct) ⟨us, []⟩) (ps.zip (us ++ ks))) : ∃ ws ds, Vals ws ds ∧ (∀ B, RepL K B dds ws) ∧ Binds K fd ps ds := by
  obtain ⟨ds, h1, h2⟩ := F.binds0 n hk hn h
  exact ⟨_, ds, h1, hr, h2⟩
theorem fund_of (F : FunD K x qual params body scope [] kws f fd) : ∃ (oc kV doc pm : Value) (od an : Option Addr) (cdv ct : Value) (osl : Array (Option Value)), fd = PySem.W.fnOf x qual params body scope .none kV doc pm an cdv ct ∧ K.lookup f = some ⟨oc, od, .func fd, osl⟩ ∧ KwdV K kV kws := by
  obtain ⟨oc, od, dV, kV, doc, pm, an, cdv, ct, osl, h1, lk, hcd, hD, hK⟩ := F.ex
  rcases hD with ⟨_, rfl⟩ | ⟨e, _⟩
  · exact ⟨oc, kV, doc, pm, od, an, cdv, ct, osl, h1, lk, hK⟩
  · exact absurd rfl e
/-- all parameters are given, some by their names -/
theorem kb_all (F : FunD K x qual params body scope [] kws f fd) (n : Nat) (ks : List Str) (p : List (Sum Nat Nat))
    (h : ∀ (kV doc pm : Value) (an : Option Addr) (cdv ct : Value) (us ws : List Value), us.length = n → ws.length = ks.length → bindArgs (PySem.W.fnOf x qual params body scope .none kV doc pm an cdv ct) ⟨us, ks.zip ws⟩ = pure (ps.zip (pick .none p us ws))) :
    ∃ g gV, KBn K fd ps n ks g gV ∧ ∀ B σ avs kvs vs zs, avs.length = n → kvs.length = ks.length → AVOk K B σ avs vs → AVOk K B σ kvs zs → AVOk K B σ (pick (.dat .non) p avs kvs ++ []) (gV vs zs) := by
  obtain ⟨oc, kV, doc, pm, od, an, cdv, ct, osl, rfl, lk, hK⟩ := fund_of F
  refine ⟨fun us ws => pick .none p us ws, fun vs zs => pick .non p vs zs ++ [], ⟨fun s us ws X l1 l2 => .of_eq (h kV doc pm an cdv ct us ws l1 l2), fun {vs us zs ws} r1 r2 => ?_⟩, fun B σ avs kvs vs zs _ _ r1 r2 => av_pick r1 r2 (show AVOk K B σ [] [] from rfl) p⟩
  rw [List.append_nil]
  exact vals_pick r1 r2 p
/-- .. and the keyword-only ones that lack by their defaults -/
theorem kb_dfl (F : FunD K x qual params body scope [] kws f fd) (n : Nat) (ks : List Str) (p : List (Sum Nat Nat)) (dds : List Dt) (hr : ∀ B, RepL K B dds (kws.map (·.2))) (hk : kws ≠ [])
    (h : ∀ (D : Addr) (doc pm : Value) (an : Option Addr) (cdv ct : Value) (us ws ms : List Value), us.length = n → ws.length = ks.length → ms.length = kws.length →
      KwChain D ((kws.map (·.1)).zip ms) (bindArgs (PySem.W.fnOf x qual params body scope .none (.ref D) doc pm an cdv ct) ⟨us, ks.zip ws⟩) (ps.zip (pick .none p us ws ++ ms))) :
    ∃ g gV, KBn K fd ps n ks g gV ∧ ∀ B σ avs kvs vs zs, avs.length = n → kvs.length = ks.length → AVOk K B σ avs vs → AVOk K B σ kvs zs → AVOk K B σ (pick (.dat .non) p avs kvs ++ dds.map AV.dat) (gV vs zs) := by
  obtain ⟨oc, kV, doc, pm, od, an, cdv, ct, osl, rfl, lk, hK⟩ := fund_of F
  rcases hK with e | ⟨D, rfl, hq⟩
  · exact absurd e hk
  · obtain ⟨ms, hl, rk, hks⟩ := kwd_vals hq
    refine ⟨fun us ws => pick .none p us ws ++ ms, fun vs zs => pick .non p vs zs ++ kws.map (·.2), ⟨fun s us ws X l1 l2 => BindsTo.of_looks fun M => KwChain.looks X hks (h D doc pm an cdv ct us ws ms l1 l2 hl), fun {vs us zs ws} r1 r2 => (vals_pick r1 r2 p).append rk⟩, fun B σ avs kvs vs zs _ _ r1 r2 => av_pick r1 r2 (AVOk.dats (hr B)) p⟩
end

/-! ### methods of texts -/
section
variable {PL : PoolP}
def strsD : List Dt → Option (List (List Nat))
  | [] => some []
  | .str s :: r => match strsD r with
    | some l => some (s :: l)
    | none => none
  | _ :: _ => none
theorem strsD_ok {K : PySem.W.Frag} {B : Hp} : ∀ {ds : List Dt} {l : List (List Nat)} {vs : List V}, strsD ds = some l → RepL K B ds vs → vs = (l.map S).map V.str ∧ ds = l.map Dt.str
  | [], l, vs, h, r => by
    have e : [] = l := by simpa [strsD] using h
    subst e
    unfold RepL at r
    exact ⟨r, rfl⟩
  | .str s :: q, l, vs, h, r => by
    unfold strsD at h
    cases g : strsD q with
    | none => rw [g] at h; cases h
    | some m =>
      rw [g] at h
      have e : s :: m = l := by simpa using h
      subst e
      unfold RepL at r
      obtain ⟨x, t, h1, h2, h3⟩ := r
      obtain ⟨h4, h5⟩ := strsD_ok g h3
      unfold Rep at h2
      exact ⟨by rw [h1, h2, h4]; rfl, by rw [h5]; rfl⟩
  | .non :: q, l, vs, h, r => by cases h
  | .bl _ :: q, l, vs, h, r => by cases h
  | .int _ :: q, l, vs, h, r => by cases h
  | .tup _ :: q, l, vs, h, r => by cases h
  | .lst _ :: q, l, vs, h, r => by cases h
  | .frz _ :: q, l, vs, h, r => by cases h
theorem strsD_map : ∀ l : List (List Nat), strsD (l.map Dt.str) = some l
  | [] => rfl
  | s :: l => by
    show (match strsD (l.map Dt.str) with
      | some m => some (s :: m)
      | none => none) = _
    rw [strsD_map l]
abbrev joinN := TL.joinL
def strM (g : List Nat → CallF) : MtF := fun x xs k => match x with
  | .str s => g s xs k
  | _ => False
def joinK (s : List Nat) (l : List Dt) (k : Res → Prop) : Prop := match strsD l with
  | some ys => ((ys.map List.length).sum + ys.length * s.length ≤ 10000000) ∧ k (.dat (.str (joinN s ys)))
  | none => False
def joinD (s : List Nat) (x : Dt) (k : Res → Prop) : Prop := match x with
  | .lst l => joinK s l k
  | .tup l => joinK s l k
  | _ => False
def fJoin : MtF := strM fun s => arg1 (joinD s)
theorem sum_len (ys : List (List Nat)) : ((ys.map S).map (·.length)).sum = (ys.map List.length).sum := by
  induction ys with
  | nil => rfl
  | cons y r ih =>
    simp only [List.map_cons, List.sum_cons, S_len]
    simp only [List.map_map] at ih ⊢
    rw [ih]
theorem join_S (s : List Nat) (ys : List (List Nat)) : Txt.join (S s) (ys.map S) = S (joinN s ys) := by
  rw [TL.join_eq]
  apply TL.ext_tl
  rw [TL.tl_join]
  show TL.joinL s ((ys.map S).map TL.tl) = joinN s ys
  have : (ys.map S).map TL.tl = ys := by
    rw [List.map_map]
    exact List.map_id _
  rw [this]
theorem mtd_join {K : PySem.W.Frag} : MtD K PL (fun x xs H Q => ∃ a p, ∃ ys : List Str, x = .str a ∧ xs = [.ref p] ∧ (SqL K H p (ys.map V.str) ∨ SqT K H p (ys.map V.str)) ∧
    (ys.map (·.length)).sum + ys.length * a.length ≤ 16777216 ∧ Q (.str (Txt.join a ys)) H) fJoin := by
  intro G B c σ H s xs vs k Q hc rx hf hq
  obtain ⟨x, rfl, hf⟩ := arg1_ok hf
  have fin : ∀ {l : List Dt} {us : List V}, RepL K B l us → joinK s l k → ∃ ys : List Str, us = ys.map V.str ∧ (ys.map (·.length)).sum + ys.length * (S s).length ≤ 16777216 ∧ Q (.str (Txt.join (S s) ys)) H := fun {l us} r h => by
    unfold joinK at h
    cases g : strsD l with
    | none => simp only [g] at h
    | some ys =>
      simp only [g] at h
      obtain ⟨h1, h2⟩ := h
      obtain ⟨h3, _⟩ := strsD_ok g r
      refine ⟨ys.map S, h3, ?_, hq _ _ B H h2 (Same.refl B) ⟨hc, by unfold Rep; rw [join_S]⟩⟩
      rw [sum_len, List.length_map, S_len]
      omega
  cases x with
  | lst l =>
    obtain ⟨v, rfl, a, us, rfl, h1, h2⟩ := repHs1 rx
    obtain ⟨ys, rfl, h3, h4⟩ := fin h2 hf
    exact ⟨S s, a, ys, rfl, rfl, .inl (.of h1), h3, h4⟩
  | tup l =>
    obtain ⟨v, rfl, a, us, rfl, h1, h2⟩ := repHs1 rx
    obtain ⟨ys, rfl, h3, h4⟩ := fin h2 hf
    exact ⟨S s, a, ys, rfl, rfl, .inr (sameT hc.same h1), h3, h4⟩
  | _ => exact hf.elim
/-- the last place from lo to hi - 1 at which the sign stands, or -1 -/
def IsLast (s : List Nat) (ch lo hi : Nat) (r : Int) : Prop := (r = -1 ∧ ∀ i : Nat, lo ≤ i → i < hi → s[i]? ≠ some ch) ∨ ∃ n : Nat, r = (n : Int) ∧ lo ≤ n ∧ n < hi ∧ s[n]? = some ch ∧ ∀ m : Nat, n < m → m < hi → s[m]? ≠ some ch
theorem at_one {s : List Nat} {ch hi i : Nat} (hh : hi ≤ s.length) : StrLaws.At (S s) (S [ch]) hi i ↔ i < hi ∧ s[i]? = some ch := by
  unfold StrLaws.At Builtin.Str.subAt
  rw [S_len]
  show i + 1 ≤ hi ∧ ((S s).cps.extract i (i + (S [ch]).length) == (S [ch]).cps) = true ↔ _
  rw [S_len]
  show i + 1 ≤ hi ∧ (s.toArray.extract i (i + 1) == #[ch]) = true ↔ _
  constructor
  · rintro ⟨h1, h2⟩
    refine ⟨by omega, ?_⟩
    have h3 : s.toArray.extract i (i + 1) = #[ch] := by simpa using h2
    have h4 := congrArg (fun a => a[0]?) h3
    rw [Array.getElem?_extract] at h4
    simp at h4
    have hi2 : i < s.length := by omega
    exact h4.2
  · rintro ⟨h1, h2⟩
    refine ⟨by omega, ?_⟩
    have hi2 : i < s.length := by omega
    have h3 : s.toArray.extract i (i + 1) = #[ch] := by
      apply Array.ext'
      have e : s[i] = ch := by
        rw [List.getElem?_eq_getElem hi2] at h2
        exact Option.some.inj h2
      simp [List.drop_eq_getElem_cons hi2, e]
    simp [h3]
theorem last_mem {x y : Str} {hi a : Nat} : ∀ (l : List Nat) (st : Option Nat), (forIn l st (StrLaws.lastBody x y hi)).run = some a → st = some a ∨ a ∈ l
  | [], st, h => .inl (by simpa using h)
  | b :: l, st, h => by
    rw [List.forIn_cons] at h
    unfold StrLaws.lastBody at h
    by_cases q : b + y.length ≤ hi ∧ Builtin.Str.subAt x y b = true
    · rw [if_pos q] at h
      rcases last_mem l (some b) h with z | z
      · exact .inr (by simp [Option.some.inj z])
      · exact .inr (List.mem_cons_of_mem _ z)
    · rw [if_neg q] at h
      rcases last_mem l st h with z | z
      · exact .inl z
      · exact .inr (List.mem_cons_of_mem _ z)
theorem last_is {s : List Nat} {ch lo hi : Nat} (hh : hi ≤ s.length) : IsLast s ch lo hi (match Builtin.Str.lastOccurrence (S s) (S [ch]) lo hi with
    | some k => (k : Int)
    | none => -1) := by
  rw [StrLaws.last_eq]
  have key := StrLaws.last_run (S s) (S [ch]) hi (List.range' lo (hi + 1 - lo)) [] none (fun _ h => nomatch h) (fun _ h => nomatch h) (by simpa using List.pairwise_lt_range' (s := lo) (n := hi + 1 - lo))
  have mem : ∀ i, lo ≤ i → i < hi → i ∈ [] ++ List.range' lo (hi + 1 - lo) := fun i h1 h2 => by simp [List.mem_range'] ; exact ⟨i - lo, by omega, by omega⟩
  cases hr : (forIn (List.range' lo (hi + 1 - lo)) none (StrLaws.lastBody (S s) (S [ch]) hi)).run with
  | none =>
    rw [hr] at key
    exact .inl ⟨rfl, fun i h1 h2 h3 => key i (mem i h1 h2) ((at_one hh).mpr ⟨h2, h3⟩)⟩
  | some a =>
    rw [hr] at key
    obtain ⟨k1, k2⟩ := key
    obtain ⟨a1, a2⟩ := (at_one hh).mp k1
    by_cases hl : lo ≤ a
    · exact .inr ⟨a, rfl, hl, a1, a2, fun m h1 h2 h3 => k2 m (mem m (by omega) h2) h1 ((at_one hh).mpr ⟨h2, h3⟩)⟩
    · rcases last_mem _ _ hr with z | z
      · cases z
      · rw [List.mem_range'] at z
        obtain ⟨i, _, z⟩ := z
        omega
/-- s.rfind(c, lo, hi) and s.rfind(c), c one sign -/
def rfind4D (s : List Nat) (xs : List Dt) (k : Res → Prop) : Prop := match xs with
  | .str t :: r => one1 t fun ch => cints2 r fun lo hi => (s.length ≤ 10000000 ∧ 0 ≤ lo ∧ 0 ≤ hi) ∧ ∀ v, IsLast s ch lo.toNat (min hi.toNat s.length) v → k (.dat (.int v))
  | _ => False
def fRfind4 : MtF := strM rfind4D
theorem repHs3 {K : PySem.W.Frag} {B H : Hp} {t : List Nat} {i j : Int} {vs : List V} (h : RepHs K B H [.str t, .int i, .int j] vs) : vs = [.str (S t), .int i, .int j] := by
  obtain ⟨v, ws, rfl, h2, h3⟩ := h
  obtain ⟨u, w, rfl, h4, h5⟩ := repHs2 h3
  have e1 : v = .str (S t) := h2
  have e2 : u = .int i := h4
  have e3 : w = .int j := h5
  rw [e1, e2, e3]
theorem mtd_rfind4 {K : PySem.W.Frag} : MtD K PL (fun x xs H Q => ∃ (a b : Str) (i j : Int), x = .str a ∧ xs = [.str b, .int i, .int j] ∧ Q (.int (Txt.rfindIn a b i j)) H) fRfind4 := by
  intro G B c σ H s xs vs k Q hc rx hf hq
  have hf2 : rfind4D s xs k := hf
  cases xs with
  | nil => exact hf2.elim
  | cons x r =>
    cases x with
    | str t =>
      obtain ⟨ch, rfl, h1⟩ := one1_ok (show one1 t _ from hf2)
      obtain ⟨lo, hi, rfl, ⟨z0, z1, z2⟩, h2⟩ := cints2_ok h1
      have e := repHs3 rx
      refine ⟨S s, S [ch], lo, hi, rfl, e, hq _ _ B H (h2 _ ?_) (Same.refl B) ⟨hc, by unfold Rep; rfl⟩⟩
      unfold Txt.rfindIn
      have e1 : fromIndex (S s).length lo = lo.toNat := by
        unfold fromIndex
        have : ¬ lo < 0 := by omega
        simp only [this, if_false]
        omega
      have e2 : toIndexW (S s).length hi = min hi.toNat s.length := by
        rw [S_len]
        simp only [toIndexW]
        omega
      rw [e1, e2]
      exact last_is (Nat.min_le_right _ _)
    | _ => exact hf2.elim
def rfindD (s : List Nat) (x : Dt) (k : Res → Prop) : Prop := match x with
  | .str t => one1 t fun ch => s.length ≤ 10000000 ∧ ∀ v, IsLast s ch 0 s.length v → k (.dat (.int v))
  | _ => False
def fRfind : MtF := strM fun s => arg1 (rfindD s)
theorem mtd_rfind {K : PySem.W.Frag} : MtD K PL (fun x xs H Q => ∃ a b, x = .str a ∧ xs = [.str b] ∧ Q (.int (Txt.rfind a b)) H) fRfind := by
  intro G B c σ H s xs vs k Q hc rx hf hq
  obtain ⟨x, rfl, hf⟩ := arg1_ok hf
  cases x with
  | str t =>
    obtain ⟨ch, rfl, h1, h2⟩ := one1_ok (show one1 t _ from hf)
    obtain ⟨v, rfl, h3⟩ := repHs1 rx
    have e : v = .str (S [ch]) := h3
    subst e
    refine ⟨S s, S [ch], rfl, rfl, hq _ _ B H (h2 _ ?_) (Same.refl B) ⟨hc, by unfold Rep; rfl⟩⟩
    unfold Txt.rfind
    rw [S_len]
    exact last_is (Nat.le_refl _)
  | _ => exact hf.elim
end
end Cl

namespace Cl
open PySem PySem.Spec PyProof.Rows L2

section
variable {X : Cx} {K : PySem.W.Frag} {PL : PoolP}
theorem opd_lt : OpD K PL (rI0 fun i j => .bl (decide (i < j))) fLt := opd_B0
theorem opd_le : OpD K PL (rI0 fun i j => .bl (decide (i ≤ j))) fLe := opd_B0
theorem opd_gt : OpD K PL (rI0 fun i j => .bl (decide (j < i))) fGt := opd_B0
theorem opd_ge : OpD K PL (rI0 fun i j => .bl (decide (j ≤ i))) fGe := opd_B0
def fAddI : OpF := fI (fun _ _ => True) fun i j => .int (i + j)
/-- is True, is False -/
def isB (v : Bool) : Dt → Bool
  | .bl b => b == v
  | _ => false
def fIsB (v : Bool) : OpF := fun x y k => y = .bl v ∧ k (.dat (.bl (isB v x)))
theorem op_isB {v : Bool} : OpR X (compareOp .Is) (fun x y H Q => y = .bl v ∧ Q (.bl (decide (x = .bl v))) H) := by
  intro pins s σ H x y a u Q I rx ry h
  obtain ⟨rfl, q⟩ := h
  cases (show u = Value.bool v from ry)
  have fin : ∀ k : Bool, decide (x = .bl v) = k → EP X pins σ Q (.bool k) s := fun k e => ⟨.bl k, H, I, rfl, by rw [← e]; exact q⟩
  cases x with
  | bl b =>
    cases (show a = Value.bool b from rx)
    by_cases e : b = v
    · subst e
      exact wpAny_is_self rfl (fin true (by simp))
    · exact wpAny_is_other rfl (fun z => e (Value.bool.inj z)) (fin false (by simp [e]))
  | non =>
    cases (show a = Value.none from rx)
    exact wpAny_is_other rfl (fun z => by cases z) (fin false (by simp))
  | int i =>
    obtain ⟨t, rfl⟩ := rx
    exact wpAny_is_other rfl (fun z => by cases z) (fin false (by simp))
  | str i =>
    obtain ⟨t, rfl⟩ := rx
    exact wpAny_is_other rfl (fun z => by cases z) (fin false (by simp))
  | byt i =>
    obtain ⟨t, rfl⟩ := rx
    exact wpAny_is_other rfl (fun z => by cases z) (fin false (by simp))
  | flt i =>
    obtain ⟨t, rfl⟩ := rx
    exact wpAny_is_other rfl (fun z => by cases z) (fin false (by simp))
  | ref i =>
    cases (show a = Value.ref i from rx)
    exact wpAny_is_other rfl (fun z => by cases z) (fin false (by simp))
  | ty i =>
    cases (show a = Value.type i from rx)
    exact wpAny_is_other rfl (fun z => by cases z) (fin false (by simp))
theorem isB_iff {B H : Hp} {x : Dt} {v : V} {b : Bool} (r : RepH K B H x v) : decide (v = .bl b) = isB b x := by
  cases x with
  | non =>
    have e : v = .non := r
    subst e
    rfl
  | bl k =>
    have e : v = .bl k := r
    subst e
    show decide (V.bl k = V.bl b) = (k == b)
    cases k <;> cases b <;> rfl
  | int i =>
    have e : v = .int i := r
    subst e
    rfl
  | str i =>
    have e : v = .str (S i) := r
    subst e
    rfl
  | tup l => obtain ⟨a, xs, rfl, _⟩ := r; rfl
  | lst l => obtain ⟨a, xs, rfl, _⟩ := r; rfl
  | frz l => obtain ⟨a, xs, rfl, _⟩ := r; rfl
theorem opd_isB {v : Bool} : OpD K PL (fun x y H Q => y = .bl v ∧ Q (.bl (decide (x = .bl v))) H) (fIsB v) := by
  intro G B c σ H x y a u k Q hc rx ry hf hq
  obtain ⟨rfl, hf⟩ := hf
  exact ⟨ry, hq _ _ B H hf (Same.refl B) ⟨hc, by unfold Rep; rw [isB_iff rx]⟩⟩

/-! ### isinstance(x, T), T a built-in class -/
def tyD : Dt → String
  | .non => "NoneType"
  | .bl _ => "bool"
  | .int _ => "int"
  | .str _ => "str"
  | .tup _ => "tuple"
  | .lst _ => "list"
  | .frz _ => "list"
/-- whether a value of the class a is one of T -/
def isiB (a T : String) : Bool := a == T || (a == "bool" && T == "int")
def isiOk (T : String) : Bool := ["NoneType", "bool", "int", "str", "tuple", "list"].all fun a => decide (kitB a T = some (isiB a T))
theorem sqT_ty {H : Hp} {a : Addr} {xs : List V} (h : SqT K H a xs) : TyX K H (.ref a) (.type "tuple") := by
  rcases h with (h | ⟨o, h⟩) | ⟨o, its, n, h1, h2, _⟩
  · exact .base (.tup h)
  · exact .fTuple h
  · exact .kTuple h1 h2
theorem sqL_ty {H : Hp} {a : Addr} {xs : List V} (h : SqL K H a xs) : TyX K H (.ref a) (.type "list") := by
  rcases h with (h | ⟨o, h⟩) | ⟨o, its, n, h1, h2, _⟩
  · exact .base (.lst h)
  · exact .base (.frz h)
  · exact .kList h1 h2
theorem tyX_of {B H : Hp} {x : Dt} {v : V} (e : Same B H) (r : RepH K B H x v) : TyX K H v (.type (tyD x)) := by
  cases x with
  | non =>
    have e : v = .non := r
    subst e
    exact .base .non
  | bl k =>
    have e : v = .bl k := r
    subst e
    exact .base (.bl k)
  | int i =>
    have e : v = .int i := r
    subst e
    exact .base (.int i)
  | str i =>
    have e : v = .str (S i) := r
    subst e
    exact .base (.str _)
  | tup l =>
    obtain ⟨a, xs, rfl, h, _⟩ := r
    exact sqT_ty (sameT e h)
  | lst l =>
    obtain ⟨a, xs, rfl, h, _⟩ := r
    exact .base (.lst h)
  | frz l =>
    obtain ⟨a, xs, rfl, h, _⟩ := r
    exact sqL_ty (e.seq h)
theorem tyD_in (x : Dt) : tyD x ∈ ["NoneType", "bool", "int", "str", "tuple", "list"] := by
  cases x <;> simp [tyD]
def dIsi (T : String) (da : DE) : DE := fun c Q => da c fun r c1 => on1 (hd r) c1 fun x => Q (.dat (.bl (isiB (tyD x) T))) c1
theorem qe_isi {T : String} {a : Expr} {Tn : Str} {p p2 pos : Pos} {da : DE} (hT : isiOk T = true) (hg : Gl X "isinstance") (hm : X.mg "isinstance" = none) (hg2 : Gl X Tn) (hm2 : X.mg Tn = none) (hv2 : bootBuiltins Tn = some (.type T)) (ha : QE X PL a da)
    (hn : Tn ≠ "__name__" := by decide) (hdb : (Tn == ("__debug__" : Str)) = false := by decide) (he : starEach [a, .Name Tn p2] X.env = (false, eval a X.env) :: starEach [.Name Tn p2] X.env := by rfl) (he2 : starEach [.Name Tn p2] X.env = (false, eval (.Name Tn p2) X.env) :: starEach [] X.env := by rfl)
    (hpl : (backTo pos (starEach [.Name Tn p2] X.env)).any (·.1) = false := by rfl) : QE X PL (.Call (.Name "isinstance" p) [a, .Name Tn p2] [] pos) (dIsi T da) := by
  have hb : bootBuiltins "isinstance" = some (.builtin "isinstance") := by decide +kernel
  have pT : PE X (.Name Tn p2) (tC (.ty T)) := pe_bltn hg2 hm2 hv2 rfl hn hdb
  refine q_of (pe_callB (call_isi) hg hm hb (pa_cons ha.pe (pa_cons pT pa_nil he2) he) (by decide) (by decide) he hpl) fun G B c σ H Qd Q hc hd2 hq => ?_
  refine ⟨G, B, c, _, hc, hd2, fun r c1 B1 H1 v q e1 cr => ?_⟩
  obtain ⟨B2, e2, hc2, hh⟩ := cr.hold
  obtain ⟨x, rx, hf⟩ := on1_ok hc2 hh q
  have hk : kitB (tyD x) T = some (isiB (tyD x) T) := by
    unfold isiOk at hT
    exact of_decide_eq_true (List.all_eq_true.mp hT _ (tyD_in x))
  exact ⟨v, .ty T, .type (tyD x), .type T, _, rfl, .ty T, tyX_of hc2.same rx, kit_ty hk, hq _ c1 B2 H1 _ hf (e1.trans e2) ⟨hc2, by unfold Rep; rfl⟩⟩
/-! ### what readings use -/
theorem one_eq {a b : Nat} : ([a] = [b]) = (a = b) := by simp
theorem fIn_str {neg : Bool} {s t : List Nat} {k : Res → Prop} : fIn neg (.str s) (.str t) k = one1 s fun ch => k (.dat (.bl (decide (ch ∈ t) != neg))) := rfl
theorem fIn_lst {neg : Bool} {x : Dt} {l : List Dt} {k : Res → Prop} : fIn neg x (.lst l) k = ((flatD x = true ∧ l.all flatD = true) ∧ k (.dat (.bl ((l.any fun y => eqD y x) != neg)))) := by cases x <;> rfl
theorem fIn_tup {neg : Bool} {x : Dt} {l : List Dt} {k : Res → Prop} : fIn neg x (.tup l) k = ((flatD x = true ∧ l.all flatD = true) ∧ k (.dat (.bl ((l.any fun y => eqD y x) != neg)))) := by cases x <;> rfl
theorem cut_nat {α : Type} {l : List α} {a b : Nat} (hb : b ≤ l.length) (hab : a ≤ b) : cut l (some (a : Int)) (some (b : Int)) = (l.drop a).take (b - a) := by
  unfold cut
  rw [HT.sIx_nat, HT.sIx_nat, Nat.min_eq_left hb, Nat.min_eq_left (by omega)]
theorem cut_from {α : Type} {l : List α} {a : Nat} (ha : a ≤ l.length) : cut l (some (a : Int)) none = l.drop a := by
  unfold cut
  rw [HT.sIx_nat, HT.sIx_none, Nat.min_eq_left ha, List.take_of_length_le (by simp)]
theorem cut_to {α : Type} {l : List α} {b : Nat} (hb : b ≤ l.length) : cut l none (some (b : Int)) = l.take b := by
  unfold cut
  rw [HT.sIx_nat, HT.sIx_none, Nat.min_eq_left hb]
  simp
theorem atI_ok {α : Type} {l : List α} {i : Int} {n : Nat} {x : α} (hi : i = (n : Int)) (h : l[n]? = some x) : atI l i = some x := by
  rw [hi]
  exact atI_nat h
theorem atI_neg1 {α : Type} {l : List α} {x : α} (h : l.getLast? = some x) : atI l (-1) = some x := by
  obtain ⟨r, rfl⟩ : ∃ r, l = r ++ [x] := by
    cases e : l.reverse with
    | nil =>
      have : l = [] := by simpa using e
      rw [this] at h
      cases h
    | cons y q =>
      refine ⟨q.reverse, ?_⟩
      have e2 : l = q.reverse ++ [y] := by
        have := congrArg List.reverse e
        simpa using this
      rw [e2] at h
      simp at h
      rw [e2, h]
  exact atI_last r x
theorem ixN_ok {n : Nat} {i : Int} {m : Nat} (hi : i = (m : Int)) (h : m < n) : ixN n i = some m := by
  unfold ixN
  rw [hi, if_pos (by omega), if_pos (by omega)]
  simp
theorem rngD_length (lo : Int) (n : Nat) : (rngD lo n).length = n := by simp [rngD]
theorem rngD_get {lo : Int} {n k : Nat} {d : Dt} (h : (rngD lo n)[k]? = some d) : k < n ∧ d = .int (lo + (k : Int)) := by
  have hk : k < n := by
    have := (List.getElem?_eq_some_iff.mp h).1
    rwa [rngD_length] at this
  refine ⟨hk, ?_⟩
  unfold rngD at h
  rw [List.getElem?_map, List.getElem?_range hk] at h
  exact (Option.some.inj h).symm
theorem rngC_length (lo st : Int) (n : Nat) : (rngC lo st n).length = n := by simp [rngC]
theorem rngC_get {lo st : Int} {n k : Nat} {d : Dt} (h : (rngC lo st n)[k]? = some d) : k < n ∧ d = .int (lo + (k : Int) * st) := by
  have hk : k < n := by
    have := (List.getElem?_eq_some_iff.mp h).1
    rwa [rngC_length] at this
  refine ⟨hk, ?_⟩
  unfold rngC at h
  rw [List.getElem?_map, List.getElem?_range hk] at h
  exact (Option.some.inj h).symm
end
end Cl

namespace Cl
open PySem PySem.Spec PyProof.Rows L2
/-! ### the equations by which a reading is simplified: each opens only what is known -/
def onS (s : Slot) (f : Dt → Prop) : Prop := match s with
  | .dat d => f d
  | .own (.lst l) => f (.lst l)
  | .arg (.lst l) => f (.lst l)
  | _ => False
theorem onS_ok {c : CEnv} {f : Dt → Prop} {i : Nat} : on1 (.sl i) c f = onS (gt c i) f := by
  cases q : gt c i with
  | no => simp only [on1, onS, vw, q]
  | dat d => simp only [on1, onS, vw, q]
  | own o => cases o <;> simp only [on1, onS, vw, q]
  | arg o => cases o <;> simp only [on1, onS, vw, q]
def asS (s : Slot) (i : Nat) (c : CEnv) (k : Dt → CEnv → Prop) : Prop := match s with
  | .dat d => k d c
  | .own (.lst l) => k (.lst l) (c.set i (.dat (.lst l)))
  | _ => False
theorem asS_ok {k : Dt → CEnv → Prop} {c : CEnv} {i : Nat} : asD (.sl i) c k = asS (gt c i) i c k := by
  cases q : gt c i with
  | no => simp only [asD, asS, q]
  | dat d => simp only [asD, asS, q]
  | own o => cases o <;> simp only [asD, asS, q]
  | arg o => cases o <;> simp only [asD, asS, q]
def varS (s : Slot) (i : Nat) (c : CEnv) (Q : Res → CEnv → Prop) : Prop := match s with
  | .dat d => Q (.dat d) c
  | .own _ => Q (.sl i) c
  | .arg _ => Q (.sl i) c
  | .no => False
theorem varS_ok {Q : Res → CEnv → Prop} {c : CEnv} {i : Nat} : dVar i c Q = varS (gt c i) i c Q := rfl
def putS (s : Slot) (i j : Nat) (c : CEnv) (k : CEnv → Prop) : Prop := match s with
  | .dat d => k (c.set i (.dat d))
  | .own (.lst l) => k ((c.set j (.dat (.lst l))).set i (.dat (.lst l)))
  | _ => False
theorem putS_ok {k : CEnv → Prop} {c : CEnv} {i j : Nat} : put i (.sl j) c k = putS (gt c j) i j c k := by
  cases q : gt c j with
  | no => simp only [put, putS, q]
  | dat d => simp only [put, putS, q]
  | own o => cases o <;> simp only [put, putS, q]
  | arg o => cases o <;> simp only [put, putS, q]
def toRetS (s : Slot) (i : Nat) (c : CEnv) (Q : Res → CEnv → Prop) : Prop := match s with
  | .dat d => Q (.dat d) c
  | .own _ => Q (.sl i) c
  | _ => False
theorem toRetS_ok {Q : Res → CEnv → Prop} {c : CEnv} {i : Nat} : toRet (.sl i) c Q = toRetS (gt c i) i c Q := by
  cases q : gt c i <;> simp only [toRet, toRetS, q]
def retBS (s : Slot) (as : List AArg) (R : Res → List AArg → Prop) (c : CEnv) : Prop := match s with
  | .own o => bk as c (R (.new o))
  | _ => False
theorem retBS_ok {R : Res → List AArg → Prop} {as : List AArg} {c : CEnv} {i : Nat} : retB as R (.sl i) c = retBS (gt c i) as R c := by
  cases q : gt c i <;> simp only [retB, retBS, q]
theorem bk_dat_ok {k : List AArg → Prop} {as : List AArg} {c : CEnv} {d : Dt} {s : Slot} : bk (.dat d :: as) (s :: c) k = bk as c fun r => k (.dat d :: r) := by
  unfold bk
  show (match (backA as c).map (AArg.dat d :: ·) with
    | some as' => k as'
    | none => False) = _
  cases backA as c <;> rfl
theorem bk_ob_ok {k : List AArg → Prop} {as : List AArg} {c : CEnv} {o o' : Ob} : bk (.ob o :: as) (.arg o' :: c) k = bk as c fun r => k (.ob o' :: r) := by
  unfold bk
  show (match (backA as c).map (AArg.ob o' :: ·) with
    | some as' => k as'
    | none => False) = _
  cases backA as c <;> rfl
def ixS (s : List Nat) (i : Int) (k : Res → Prop) : Prop := match atI s i with
  | some ch => k (.dat (.str [ch]))
  | none => False
theorem ixL_n {l : List Dt} {n : Nat} {d : Dt} {k : Res → Prop} (h : l[n]? = some d) : ixL l (n : Int) k = k (.dat d) := by
  unfold ixL
  rw [atI_nat h]
theorem ixL_i {l : List Dt} {i : Int} {n : Nat} {d : Dt} {k : Res → Prop} (hi : i = (n : Int)) (h : l[n]? = some d) (hk : k (.dat d)) : ixL l i k := by
  rw [hi, ixL_n h]
  exact hk
theorem ixS_i {s : List Nat} {i : Int} {n ch : Nat} {k : Res → Prop} (hi : i = (n : Int)) (h : s[n]? = some ch) (hk : k (.dat (.str [ch]))) : ixS s i k := by
  unfold ixS
  rw [atI_ok hi h]
  exact hk
theorem ixL_last {l : List Dt} {d : Dt} {k : Res → Prop} (h : l.getLast? = some d) (hk : k (.dat d)) : ixL l (-1) k := by
  unfold ixL
  rw [atI_neg1 h]
  exact hk
def partQ (r : Res) (c : CEnv) (Q : Option Int → CEnv → Prop) : Prop := match r with
  | .dat (.int i) => Q (some i) c
  | _ => False
theorem dPart_ok {de : DE} {c : CEnv} {Q : Option Int → CEnv → Prop} : dPart de c Q = de c fun r c1 => partQ r c1 Q := rfl
def popL (l : List Dt) (k : Dt → List Dt → Prop) : Prop := match l.getLast? with
  | some d => k d l.dropLast
  | none => False
theorem popL_ok {k : Dt → List Dt → Prop} {l : List Dt} : mPop l [] k = popL l k := rfl
def obS (s : Slot) (k : List Dt → Prop) : Prop := match s with
  | .own (.lst l) => k l
  | .arg (.lst l) => k l
  | _ => False
theorem obS_ok {k : List Dt → Prop} {c : CEnv} {i : Nat} : obL c i k = obS (gt c i) k := rfl
def setS (s : Slot) (c : CEnv) (i : Nat) (m : List Dt) : CEnv := match s with
  | .arg _ => c.set i (.arg (.lst m))
  | _ => c.set i (.own (.lst m))
theorem setS_ok {c : CEnv} {i : Nat} {m : List Dt} : setL c i m = setS (gt c i) c i m := by
  unfold setL setS
  cases gt c i <;> rfl
def setN (n : Option Nat) (c : CEnv) (i : Nat) (l : List Dt) (d : Dt) (k : CEnv → Prop) : Prop := match n with
  | some n => k (setL c i (l.set n d))
  | none => False
def ixQ (r : Res) (c : CEnv) (i : Nat) (d : Dt) (k : CEnv → Prop) : Prop := match r with
  | .dat (.int j) => obL c i fun l => setN (ixN l.length j) c i l d k
  | _ => False
theorem dSetIx_ok {i : Nat} {dx de : DE} {E : CEnds} {c : CEnv} : dSetIx i dx de E c = de c fun r c1 => asD r c1 fun d c2 => obL c2 i fun _ => dx c2 fun rx c3 => ixQ rx c3 i d E.nx := rfl
def mtQ (r : Res) (f : MtF) (da : DA) (c : CEnv) (Q : Res → CEnv → Prop) : Prop := match r with
  | .dat (.str s) => da c fun rs c2 => vws rs c2 fun xs => f (.str s) xs fun z => Q z c2
  | _ => False
theorem dMt_ok {f : MtF} {de : DE} {da : DA} {c : CEnv} {Q : Res → CEnv → Prop} : dMt f de da c Q = de c fun r c1 => mtQ r f da c1 Q := rfl
def isOb (s : Slot) : Prop := match s with
  | .own _ => True
  | .arg _ => True
  | _ => False
theorem vOwn_ok {i : Nat} {dv : DV} {c : CEnv} {Q : List AV → CEnv → Prop} : vOwn i dv c Q = (isOb (gt c i) ∧ dv c fun avs c3 => Q (.own i :: avs) c3) := by
  unfold vOwn isOb
  cases gt c i <;> simp
def lookQ (avs : List AV) (c : CEnv) (k : List AArg → Prop) : Prop := match looks c avs with
  | none => False
  | some as => k as
def lookS (s : Slot) (k : Ob → Prop) : Prop := match s with
  | .own o => k o
  | .arg o => k o
  | _ => False
theorem callQ_ok {F : FS} {avs : List AV} {c : CEnv} {Q : Res → CEnv → Prop} : callQ F avs c Q = (nodupO avs = true ∧ lookQ avs c fun as => F as fun r as' => retC r (putA avs as' 0 c) Q) := rfl
theorem lookQ_dat {c : CEnv} {k : List AArg → Prop} {d : Dt} {r : List AV} : lookQ (.dat d :: r) c k = lookQ r c fun as => k (.dat d :: as) := by
  unfold lookQ
  show (match (match looks c r with
    | none => none
    | some xs => some (AArg.dat d :: xs)) with
    | none => False
    | some as => k as) = _
  cases looks c r <;> rfl
theorem lookQ_own {c : CEnv} {k : List AArg → Prop} {i : Nat} {r : List AV} : lookQ (.own i :: r) c k = lookS (gt c i) fun o => lookQ r c fun as => k (.ob o :: as) := by
  cases q : gt c i with
  | no => simp only [lookQ, lookS, looks, lookA, q]
  | dat d => simp only [lookQ, lookS, looks, lookA, q]
  | own o => cases p : looks c r <;> simp only [lookQ, lookS, looks, lookA, q, p]
  | arg o => cases p : looks c r <;> simp only [lookQ, lookS, looks, lookA, q, p]
def notIn (i : Nat) (r : List AV) : Bool := r.all fun a => match a with
  | .own j => i != j
  | _ => true
theorem nd_own_ok {i : Nat} {r : List AV} : nodupO (.own i :: r) = (notIn i r && nodupO r) := rfl
def rngQ (ds : List Dt) (k : Int → Prop) : Prop := match ds with
  | [.int n] => k n
  | _ => False
theorem dRng1_ok {da : DL} {c : CEnv} {Q : List Dt → CEnv → Prop} : dRng1 da c Q = da c fun ds c1 => rngQ ds fun n => (n ≤ 1000000000 ∧ -1000000000 ≤ n) ∧ Q (rngD 0 n.toNat) c1 := rfl
def two (ds : List Dt) (k : Dt → Dt → Prop) : Prop := match ds with
  | [d, e] => k d e
  | _ => False
theorem dPar_ok {i j : Nat} {da : DL} {E : CEnds} {c : CEnv} : dPar i j da E c = da c fun ds c1 => two ds fun d e => E.nx ((c1.set i (.dat d)).set j (.dat e)) := rfl
def augS (s : Slot) (i : Nat) (f : OpF) (de : DE) (E : CEnds) (c : CEnv) : Prop := match s with
  | .dat x => de c fun r c1 => on1 (hd r) c1 fun y => f x y fun z => put i z c1 E.nx
  | _ => False
theorem dAug_ok {i : Nat} {f : OpF} {de : DE} {E : CEnds} {c : CEnv} : dAug i f de E c = augS (gt c i) i f de E c := rfl
/-- the slots of a comprehension's own names, behind it -/
def unwS (s : Slot) : Slot := match s with
  | .dat d => .dat d
  | _ => .no
theorem c_unw_nil {c1 c : CEnv} : unw [] c1 c = c := rfl
theorem c_unw {v : Nat} {vs : List Nat} {c1 c : CEnv} : unw (v :: vs) c1 c = (unw vs c1 c).set v (unwS (gt c1 v)) := rfl
theorem c_unwS_no : unwS .no = .no := rfl
theorem c_unwS_dat {d : Dt} : unwS (.dat d) = .dat d := rfl

/-! ### loops and comprehensions, opened -/
def FI (ds : List Dt) (g : DG) (body : DS) (E : CEnds) (c1 : CEnv) : Prop := ∃ I : Nat → CEnv → Prop, I 0 c1 ∧
  (∀ k d c', ds[k]? = some d → I k c' → g d c' fun c2 => body { nx := I (k + 1), rt := E.rt, bk := E.nx, ct := I (k + 1) } c2) ∧ ∀ c', I ds.length c' → E.nx c'
theorem dFor_ok {di : DI} {g : DG} {body : DS} {E : CEnds} {c : CEnv} : dFor di g body E c = di c fun ds c1 => FI ds g body E c1 := rfl
def LCI (ds : List Dt) (g : DG) (dt : DT) (de : DE) (vs : List Nat) (c1 : CEnv) (Q : Res → CEnv → Prop) : Prop := ds.length ≤ 9000000 ∧ ∃ I : Nat → List Dt → CEnv → Prop, I 0 [] (wipeC vs c1) ∧
  (∀ k acc d c', ds[k]? = some d → acc.length ≤ k → I k acc c' → g d c' fun c2 => dt c2 fun b c3 => br b (de c3 fun r c4 => asD r c4 fun e c5 => I (k + 1) (acc ++ [e]) (wipeC vs c5)) (I (k + 1) acc (wipeC vs c3))) ∧ ∀ acc c', acc.length ≤ ds.length → I ds.length acc c' → Q (.new (.lst acc)) (unw vs c1 c')
theorem dLc_ok {di : DI} {g : DG} {dt : DT} {de : DE} {vs : List Nat} {c : CEnv} {Q : Res → CEnv → Prop} : dLc di g dt de vs c Q = di c fun ds c1 => LCI ds g dt de vs c1 Q := rfl
theorem rng_at {lo : Int} {n k : Nat} {d : Dt} (h : (rngD lo n)[k]? = some d) : k < n ∧ d = .int (lo + (k : Int)) := by
  have hl := (List.getElem?_eq_some_iff.mp h).1
  rw [rngD_length] at hl
  refine ⟨hl, ?_⟩
  unfold rngD at h
  rw [List.getElem?_map, List.getElem?_range hl] at h
  exact (Option.some.inj h).symm
theorem rngc_at {lo st : Int} {n k : Nat} {d : Dt} (h : (rngC lo st n)[k]? = some d) : k < n ∧ d = .int (lo + (k : Int) * st) := by
  have hl := (List.getElem?_eq_some_iff.mp h).1
  rw [rngC_length] at hl
  refine ⟨hl, ?_⟩
  unfold rngC at h
  rw [List.getElem?_map, List.getElem?_range hl] at h
  exact (Option.some.inj h).symm
theorem for_rng {lo : Int} {n : Nat} {g : DG} {body : DS} {E : CEnds} {c : CEnv} (I : Nat → CEnv → Prop) (h0 : I 0 c) (hs : ∀ k c', k < n → I k c' → g (.int (lo + (k : Int))) c' fun c2 => body { nx := I (k + 1), rt := E.rt, bk := E.nx, ct := I (k + 1) } c2) (he : ∀ c', I n c' → E.nx c') : FI (rngD lo n) g body E c := by
  refine ⟨I, h0, fun k d c' hd hI => ?_, fun c' h => he c' (by rwa [rngD_length] at h)⟩
  obtain ⟨h1, rfl⟩ := rng_at hd
  exact hs k c' h1 hI
theorem for_map {α : Type} {xs : List α} {f : α → Dt} {g : DG} {body : DS} {E : CEnds} {c : CEnv} (I : Nat → CEnv → Prop) (h0 : I 0 c) (hs : ∀ k x c', xs[k]? = some x → I k c' → g (f x) c' fun c2 => body { nx := I (k + 1), rt := E.rt, bk := E.nx, ct := I (k + 1) } c2) (he : ∀ c', I xs.length c' → E.nx c') : FI (xs.map f) g body E c := by
  refine ⟨I, h0, fun k d c' hd hI => ?_, fun c' h => he c' (by rwa [List.length_map] at h)⟩
  rw [List.getElem?_map] at hd
  cases q : xs[k]? with
  | none =>
    rw [q] at hd
    cases hd
  | some x =>
    rw [q] at hd
    cases hd
    exact hs k x c' q hI
theorem lc_pure {ds : List Dt} {g : DG} {dt : DT} {de : DE} {vs : List Nat} {c1 : CEnv} {Q : Res → CEnv → Prop} (f : Dt → Option Dt) (hl : ds.length ≤ 9000000)
    (hs : ∀ d ∈ ds, ∀ Y : Option Dt → CEnv → Prop, Y (f d) (wipeC vs c1) → g d (wipeC vs c1) fun c2 => dt c2 fun b c3 => br b (de c3 fun r c4 => asD r c4 fun e c5 => Y (some e) (wipeC vs c5)) (Y none (wipeC vs c3)))
    (hQ : Q (.new (.lst (ds.filterMap f))) (unw vs c1 (wipeC vs c1))) : LCI ds g dt de vs c1 Q := by
  refine ⟨hl, fun k acc c' => acc = (ds.take k).filterMap f ∧ c' = wipeC vs c1, ⟨by simp, rfl⟩, ?_, ?_⟩
  · rintro k acc d c' hd _ ⟨rfl, rfl⟩
    have h1 := hs d (List.mem_of_getElem? hd) (fun o c' => (match o with
      | some e => (ds.take k).filterMap f ++ [e] = (ds.take (k + 1)).filterMap f
      | none => (ds.take k).filterMap f = (ds.take (k + 1)).filterMap f) ∧ c' = wipeC vs c1) ⟨?_, rfl⟩
    · exact h1
    · rw [List.take_add_one, hd]
      cases q : f d <;> simp [q]
  · rintro acc c' _ ⟨rfl, rfl⟩
    rw [List.take_length]
    exact hQ
/-- one new item for each -/
theorem lc_map {ds : List Dt} {g : DG} {de : DE} {vs : List Nat} {c1 : CEnv} {Q : Res → CEnv → Prop} (f : Dt → Dt) (hl : ds.length ≤ 9000000)
    (hs : ∀ d ∈ ds, ∀ Y : Dt → CEnv → Prop, Y (f d) (wipeC vs c1) → g d (wipeC vs c1) fun c2 => (de c2 fun r c4 => asD r c4 fun e c5 => Y e (wipeC vs c5)))
    (hQ : Q (.new (.lst (ds.map f))) (unw vs c1 (wipeC vs c1))) : LCI ds g dYes de vs c1 Q := by
  refine lc_pure (fun d => some (f d)) hl (fun d hd Y hY => ?_) ?_
  · exact hs d hd (fun e c' => Y (some e) c') hY
  · rw [show ds.filterMap (fun d => some (f d)) = ds.map f from by
      induction ds with
      | nil => rfl
      | cons a r ih => simp]
    exact hQ
theorem setN_i {n m j : Nat} {i : Int} {c : CEnv} {l : List Dt} {d : Dt} {k : CEnv → Prop} (hi : i = (m : Int)) (h : m < n) (hk : k (setL c j (l.set m d))) : setN (ixN n i) c j l d k := by
  rw [ixN_ok hi h]
  exact hk
theorem getSet {α : Type} {l : List α} {i j : Nat} {a : α} (h : i < l.length) : (l.set i a)[j]? = if i = j then some a else l[j]? := by
  rw [List.getElem?_set]
  by_cases e : i = j
  · rw [if_pos e, if_pos e, if_pos h]
  · rw [if_neg e, if_neg e]
theorem rep_flat {α : Type} (n : Nat) (a : α) : (List.replicate n [a]).flatten = List.replicate n a := by
  induction n with
  | zero => rfl
  | succ n ih => rw [List.replicate_succ, List.flatten_cons, ih]; rfl
theorem ixL_mem {l : List Dt} {i : Int} {k : Res → Prop} (h0 : 0 ≤ i) (h1 : i < l.length) (hk : ∀ d ∈ l, k (.dat d)) : ixL l i k := by
  have hl : i.toNat < l.length := by omega
  exact ixL_i (n := i.toNat) (by omega) (List.getElem?_eq_getElem hl) (hk _ (List.getElem_mem hl))
/-- how many a range with a step gives -/
def stepN (a b c : Int) : Nat := if a < b then ((b - a - 1) / c + 1).toNat else 0
theorem rgC_pos {a b c : Int} (ha : -1000000000 ≤ a) (ha' : a ≤ 1000000000) (hb : -1000000000 ≤ b) (hb' : b ≤ 1000000000) (hc : 0 < c) (hc' : c ≤ 1000000000) : RgC a b c (stepN a b c) := by
  have h1 : 0 ≤ (b - a - 1) / c ∨ ¬ a < b := by
    by_cases h : a < b
    · exact .inl (Int.ediv_nonneg (by omega) (by omega))
    · exact .inr h
  have h2 : a < b → (b - a - 1) / c ≤ b - a - 1 := fun h => Int.ediv_le_self _ (by omega)
  have e : Builtin.Range.rangeSize a b c = (stepN a b c : Int) := by
    unfold Builtin.Range.rangeSize stepN
    rw [if_pos hc]
    split
    · omega
    · rfl
  refine ⟨by omega, by omega, ?_, e⟩
  unfold Builtin.Range.small
  rw [e]
  have h3 : (stepN a b c : Int) ≤ 2000000002 := by
    unfold stepN
    split
    · have := h2 (by assumption)
      omega
    · omega
  simp only [Builtin.Range.rangeFitsLong, Bool.and_eq_true, Bool.or_eq_true, decide_eq_true_eq, beq_iff_eq, hc, if_true]
  omega
theorem strs_chars (t : List Nat) : strsD (t.map fun ch => Dt.str [ch]) = some (t.map fun ch => [ch]) := by
  induction t with
  | nil => rfl
  | cons a r ih =>
    rw [List.map_cons]
    show (match strsD (r.map fun ch => Dt.str [ch]) with
      | some ys => some ([a] :: ys)
      | none => none) = _
    rw [ih]
    rfl
theorem joinN_nil : ∀ ys : List (List Nat), joinN [] ys = ys.flatten
  | [] => rfl
  | [p] => by simp [joinN, TL.joinL]
  | p :: q :: r => by
    have := joinN_nil (q :: r)
    show p ++ ([] ++ joinN [] (q :: r)) = _
    rw [this]
    rfl
theorem flat_chars (t : List Nat) : (t.map fun ch => [ch]).flatten = t := by
  induction t with
  | nil => rfl
  | cons a r ih => rw [List.map_cons, List.flatten_cons, ih]; rfl
theorem sum_chars (t : List Nat) : ((t.map fun ch => [ch]).map List.length).sum = t.length := by
  induction t with
  | nil => rfl
  | cons a r ih =>
    rw [List.map_cons, List.map_cons, List.sum_cons, ih, List.length_cons, List.length_cons, List.length_nil]
    omega
/-- the text of signs put together -/
theorem join_chars {t : List Nat} {k : Res → Prop} : joinK [] (t.map fun ch => Dt.str [ch]) k = (t.length ≤ 10000000 ∧ k (.dat (.str t))) := by
  unfold joinK
  rw [strs_chars]
  show (((t.map fun ch => [ch]).map List.length).sum + (t.map fun ch => [ch]).length * ([] : List Nat).length ≤ 10000000 ∧ k (.dat (.str (joinN [] (t.map fun ch => [ch]))))) = _
  rw [sum_chars, joinN_nil, flat_chars, List.length_nil, Nat.mul_zero, Nat.add_zero]

/-! ### putting together -/
theorem bot_ok {P : Program} {w : World} {K : PySem.W.Frag} {mg : Str → Option Value} {base : Heap} {PL : PoolP} {CX : CXT} {k n : Nat} {f : Addr} {fd : FuncData} {ps : List Str} : FnOk P w K mg base CX k f fd ps (spC K PL n fun _ _ => False) :=
  ⟨fun vs H Q E ⟨_, _, _, _, _, _, _, _, h, _⟩ => h.elim, fun A outer s H args us vs Q E _ _ _ _ ⟨_, _, _, _, _, _, _, _, h, _⟩ => h.elim⟩
theorem rep_ints {K : PySem.W.Frag} {B : Hp} : ∀ ns : List Int, RepL K B (ns.map Dt.int) (ns.map V.int)
  | [] => by unfold RepL; rfl
  | n :: r => by
    rw [List.map_cons, List.map_cons]
    unfold RepL
    exact ⟨_, _, rfl, by unfold Rep; rfl, rep_ints r⟩
/-- the law's promise to its caller -/
theorem law_sp {K : PySem.W.Frag} {PL : PoolP} {F : FS} {n : Nat} (hF : ∀ ns : List Int, ns.length ≤ n → ∀ R : Res → List AArg → Prop, (∀ as, R (.dat (.bl true)) as) → F [.dat (.frz (ns.map .int))] R) {H : Hp} {a : Addr} {ns : List Int} {E : XK} (hl : ns.length ≤ n) (hS : SqL K H a (ns.map V.int)) : spC K PL 1 F [.ref a] H (fun v _ => v = .bl true) E := by
  refine ⟨H, [.dat (.frz (ns.map .int))], fun _ => [], fun r _ => r = .dat (.bl true), rfl, fun _ _ h => h, ⟨rfl, fun k x hk => ?_⟩, ⟨fun _ _ => rfl, fun _ _ _ _ h => absurd h (by simp), fun _ _ h => absurd h (by simp)⟩, hF ns hl _ fun _ => rfl, ?_⟩
  · cases k with
    | zero =>
      cases hk
      exact ⟨_, rfl, rfl, by unfold Rep; exact ⟨a, _, rfl, hS, rep_ints ns⟩⟩
    | succ k => cases hk
  · rintro r as' B' H' v fs' rfl _ _ _ _ _ _ _ _ _ h
    have h : Rep K B' (.bl true) v := h
    unfold Rep at h
    exact h
def noPool : PoolP := ⟨fun _ _ _ => False, fun _ _ _ h => h.elim, fun _ _ _ h => h.elim, fun _ _ _ _ h => h.elim⟩

theorem c_on1_dat {c : CEnv} {f : Dt → Prop} {d : Dt} : on1 (.dat d) c f = f d := rfl
theorem c_on1_sl {c : CEnv} {f : Dt → Prop} {i : Nat} : on1 (.sl i) c f = onS (gt c i) f := onS_ok
theorem c_onS_dat {f : Dt → Prop} {d : Dt} : onS (.dat d) f = f d := rfl
theorem c_onS_own {f : Dt → Prop} {l : List Dt} : onS (.own (.lst l)) f = f (.lst l) := rfl
theorem c_onS_arg {f : Dt → Prop} {l : List Dt} : onS (.arg (.lst l)) f = f (.lst l) := rfl
theorem c_on2 {r s : Res} {c : CEnv} {f : Dt → Dt → Prop} : on2 r s c f = on1 r c fun x => on1 s c fun y => f x y := rfl
theorem c_hd_dat {d : Dt} : hd (.dat d) = .dat d := rfl
theorem c_hd_sl {i : Nat} : hd (.sl i) = .sl i := rfl
theorem c_hd_new {l : List Dt} : hd (.new (.lst l)) = .dat (.lst l) := rfl
theorem c_asD_dat {k : Dt → CEnv → Prop} {c : CEnv} {d : Dt} : asD (.dat d) c k = k d c := rfl
theorem c_asD_new {k : Dt → CEnv → Prop} {c : CEnv} {l : List Dt} : asD (.new (.lst l)) c k = k (.lst l) c := rfl
theorem c_asD_sl {k : Dt → CEnv → Prop} {c : CEnv} {i : Nat} : asD (.sl i) c k = asS (gt c i) i c k := asS_ok
theorem c_asS_dat {k : Dt → CEnv → Prop} {c : CEnv} {i : Nat} {d : Dt} : asS (.dat d) i c k = k d c := rfl
theorem c_asS_own {k : Dt → CEnv → Prop} {c : CEnv} {i : Nat} {l : List Dt} : asS (.own (.lst l)) i c k = k (.lst l) (c.set i (.dat (.lst l))) := rfl
theorem c_var {Q : Res → CEnv → Prop} {c : CEnv} {i : Nat} : dVar i c Q = varS (gt c i) i c Q := varS_ok
theorem c_varS_dat {Q : Res → CEnv → Prop} {c : CEnv} {i : Nat} {d : Dt} : varS (.dat d) i c Q = Q (.dat d) c := rfl
theorem c_varS_own {Q : Res → CEnv → Prop} {c : CEnv} {i : Nat} {o : Ob} : varS (.own o) i c Q = Q (.sl i) c := rfl
theorem c_varS_arg {Q : Res → CEnv → Prop} {c : CEnv} {i : Nat} {o : Ob} : varS (.arg o) i c Q = Q (.sl i) c := rfl
theorem c_blR {b : Bool} {k : Bool → Prop} : blR (.dat (.bl b)) k = k b := rfl
theorem c_blD {b : Bool} {k : Bool → Prop} : blD (.dat (.bl b)) k = k b := rfl
theorem c_tru_non {k : Bool → Prop} : tru .non k = k false := rfl
theorem c_tru_bl {k : Bool → Prop} {b : Bool} : tru (.bl b) k = k b := rfl
theorem c_tru_int {k : Bool → Prop} {i : Int} : tru (.int i) k = k (i != 0) := rfl
theorem c_tru_lst {k : Bool → Prop} {l : List Dt} : tru (.lst l) k = k (!l.isEmpty) := rfl
theorem c_tru_tup {k : Bool → Prop} {l : List Dt} : tru (.tup l) k = k (!l.isEmpty) := rfl
theorem c_put_dat {k : CEnv → Prop} {c : CEnv} {i : Nat} {d : Dt} : put i (.dat d) c k = k (c.set i (.dat d)) := rfl
theorem c_put_new {k : CEnv → Prop} {c : CEnv} {i : Nat} {o : Ob} : put i (.new o) c k = (i < c.length ∧ k (c.set i (.own o))) := rfl
theorem c_put_sl {k : CEnv → Prop} {c : CEnv} {i : Nat} {j : Nat} : put i (.sl j) c k = putS (gt c j) i j c k := putS_ok
theorem c_putS_dat {k : CEnv → Prop} {c : CEnv} {i : Nat} {j : Nat} {d : Dt} : putS (.dat d) i j c k = k (c.set i (.dat d)) := rfl
theorem c_putS_own {k : CEnv → Prop} {c : CEnv} {i : Nat} {j : Nat} {l : List Dt} : putS (.own (.lst l)) i j c k = k ((c.set j (.dat (.lst l))).set i (.dat (.lst l))) := rfl
theorem c_toRet_dat {Q : Res → CEnv → Prop} {c : CEnv} {d : Dt} : toRet (.dat d) c Q = Q (.dat d) c := rfl
theorem c_toRet_new {Q : Res → CEnv → Prop} {c : CEnv} {o : Ob} : toRet (.new o) c Q = Q (.new o) c := rfl
theorem c_toRet_sl {Q : Res → CEnv → Prop} {c : CEnv} {i : Nat} : toRet (.sl i) c Q = toRetS (gt c i) i c Q := toRetS_ok
theorem c_toRetS_dat {Q : Res → CEnv → Prop} {c : CEnv} {i : Nat} {d : Dt} : toRetS (.dat d) i c Q = Q (.dat d) c := rfl
theorem c_toRetS_own {Q : Res → CEnv → Prop} {c : CEnv} {i : Nat} {o : Ob} : toRetS (.own o) i c Q = Q (.sl i) c := rfl
theorem c_retC_dat {Q : Res → CEnv → Prop} {c : CEnv} {d : Dt} : retC (.dat d) c Q = Q (.dat d) c := rfl
theorem c_retC_new {Q : Res → CEnv → Prop} {c : CEnv} {o : Ob} : retC (.new o) c Q = Q (.new o) c := rfl
theorem c_ends_rt {R : Res → List AArg → Prop} {as : List AArg} {r : Res} {c : CEnv} : (fnEnds as R).rt r c = retB as R r c := rfl
theorem c_ends_nx {R : Res → List AArg → Prop} {as : List AArg} {c : CEnv} : (fnEnds as R).nx c = bk as c (R (.dat .non)) := rfl
theorem c_ends_bk {R : Res → List AArg → Prop} {as : List AArg} {c : CEnv} : (fnEnds as R).bk c = False := rfl
theorem c_ends_ct {R : Res → List AArg → Prop} {as : List AArg} {c : CEnv} : (fnEnds as R).ct c = False := rfl
theorem c_retB_dat {R : Res → List AArg → Prop} {as : List AArg} {c : CEnv} {d : Dt} : retB as R (.dat d) c = bk as c (R (.dat d)) := rfl
theorem c_retB_new {R : Res → List AArg → Prop} {as : List AArg} {c : CEnv} {o : Ob} : retB as R (.new o) c = bk as c (R (.new o)) := rfl
theorem c_retB_sl {R : Res → List AArg → Prop} {as : List AArg} {c : CEnv} {i : Nat} : retB as R (.sl i) c = retBS (gt c i) as R c := retBS_ok
theorem c_retBS_own {R : Res → List AArg → Prop} {as : List AArg} {c : CEnv} {o : Ob} : retBS (.own o) as R c = bk as c (R (.new o)) := rfl
theorem c_bk_nil {k : List AArg → Prop} {c : CEnv} : bk [] c k = k [] := by cases c <;> rfl
theorem c_bk_dat {k : List AArg → Prop} {as : List AArg} {c : CEnv} {d : Dt} {s : Slot} : bk (.dat d :: as) (s :: c) k = bk as c fun r => k (.dat d :: r) := bk_dat_ok
theorem c_bk_ob {k : List AArg → Prop} {as : List AArg} {c : CEnv} {o o' : Ob} : bk (.ob o :: as) (.arg o' :: c) k = bk as c fun r => k (.ob o' :: r) := bk_ob_ok
theorem c_gt0 {c : CEnv} {s : Slot} : gt (s :: c) 0 = s := rfl
theorem c_gtS {c : CEnv} {s : Slot} {n : Nat} : gt (s :: c) (n + 1) = gt c n := rfl
theorem c_fsub {k : Res → Prop} {i j : Int} : fSub (.int i) (.int j) k = (True ∧ k (.dat (.int (i - j)))) := rfl
theorem c_faddI {k : Res → Prop} {i j : Int} : fAddI (.int i) (.int j) k = (True ∧ k (.dat (.int (i + j)))) := rfl
theorem c_fadd_int {k : Res → Prop} {i j : Int} : fAdd (.int i) (.int j) k = k (.dat (.int (i + j))) := rfl
theorem c_fadd_str {k : Res → Prop} {s t : List Nat} : fAdd (.str s) (.str t) k = (s.length + t.length ≤ 10000000 ∧ k (.dat (.str (s ++ t)))) := rfl
theorem c_fadd_lst {k : Res → Prop} {l m : List Dt} : fAdd (.lst l) (.lst m) k = (l.length + m.length ≤ 10000000 ∧ k (.new (.lst (l ++ m)))) := rfl
theorem c_fadd_tup {k : Res → Prop} {l m : List Dt} : fAdd (.tup l) (.tup m) k = (l ≠ [] ∧ l.length + m.length ≤ 10000000 ∧ k (.dat (.tup (l ++ m)))) := rfl
theorem c_fmul_int {k : Res → Prop} {i j : Int} : fMul (.int i) (.int j) k = (((-(2 ^ 64) < i ∧ i < 2 ^ 64) ∨ (-(2 ^ 64) < j ∧ j < 2 ^ 64)) ∧ k (.dat (.int (i * j)))) := rfl
theorem c_fmul_lst {k : Res → Prop} {l : List Dt} {n : Int} : fMul (.lst l) (.int n) k = ((n ≤ 10000000 ∧ -10000000 ≤ n ∧ l.length * n.toNat ≤ 10000000) ∧ k (.new (.lst (List.replicate n.toNat l).flatten))) := rfl
theorem c_fmul_str {k : Res → Prop} {s : List Nat} {n : Int} : fMul (.str s) (.int n) k = ((n ≤ 10000000 ∧ -10000000 ≤ n ∧ s.length * n.toNat ≤ 10000000) ∧ k (.dat (.str (List.replicate n.toNat s).flatten))) := rfl
theorem c_fdiv {k : Res → Prop} {i j : Int} : fDiv (.int i) (.int j) k = ((0 < j ∧ j < 1073741824) ∧ k (.dat (.int (i / j)))) := rfl
theorem c_fmod {k : Res → Prop} {i j : Int} : fMod (.int i) (.int j) k = (0 < j ∧ k (.dat (.int (i % j)))) := rfl
theorem c_fpow {k : Res → Prop} {i j : Int} : fPow (.int i) (.int j) k = (CPow i j ∧ k (.dat (.int (i ^ j.toNat)))) := rfl
theorem c_fshl {k : Res → Prop} {i j : Int} : fShl (.int i) (.int j) k = (CPow i j ∧ k (.dat (.int (i * 2 ^ j.toNat)))) := rfl
theorem c_fshr {k : Res → Prop} {i j : Int} : fShr (.int i) (.int j) k = (0 ≤ j ∧ k (.dat (.int (i / 2 ^ j.toNat)))) := rfl
theorem c_fand {k : Res → Prop} {i j : Int} : fAnd (.int i) (.int j) k = (True ∧ k (.dat (.int (Builtin.bitAnd i j)))) := rfl
theorem c_for {k : Res → Prop} {i j : Int} : fOr (.int i) (.int j) k = (True ∧ k (.dat (.int (Builtin.bitOr i j)))) := rfl
theorem c_fxor {k : Res → Prop} {i j : Int} : fXor (.int i) (.int j) k = (True ∧ k (.dat (.int (Builtin.bitXor i j)))) := rfl
theorem c_flt {k : Res → Prop} {i j : Int} : fLt (.int i) (.int j) k = (True ∧ k (.dat (.bl (decide (i < j))))) := rfl
theorem c_fle {k : Res → Prop} {i j : Int} : fLe (.int i) (.int j) k = (True ∧ k (.dat (.bl (decide (i ≤ j))))) := rfl
theorem c_fgt {k : Res → Prop} {i j : Int} : fGt (.int i) (.int j) k = (True ∧ k (.dat (.bl (decide (j < i))))) := rfl
theorem c_fge {k : Res → Prop} {i j : Int} : fGe (.int i) (.int j) k = (True ∧ k (.dat (.bl (decide (j ≤ i))))) := rfl
theorem c_fneg {k : Res → Prop} {i : Int} : fNeg (.int i) k = k (.dat (.int (-i))) := rfl
theorem c_feq_int {k : Res → Prop} {i j : Int} : fEq (.int i) (.int j) k = k (.dat (.bl (decide (i = j)))) := by unfold fEq; rw [eqD_int]; simp [okEq, scD]
theorem c_fne_int {k : Res → Prop} {i j : Int} : fNe (.int i) (.int j) k = k (.dat (.bl (!decide (i = j)))) := by unfold fNe; rw [eqD_int]; simp [okEq, scD]
theorem c_feq_str {k : Res → Prop} {i j : List Nat} : fEq (.str i) (.str j) k = k (.dat (.bl (decide (i = j)))) := by unfold fEq; rw [eqD_str]; simp [okEq, scD]
theorem c_fne_str {k : Res → Prop} {i j : List Nat} : fNe (.str i) (.str j) k = k (.dat (.bl (!decide (i = j)))) := by unfold fNe; rw [eqD_str]; simp [okEq, scD]
theorem c_feq_bl {k : Res → Prop} {i j : Bool} : fEq (.bl i) (.bl j) k = k (.dat (.bl (i == j))) := by unfold fEq; rw [eqD_bl]; simp [okEq, scD]
theorem c_fne_bl {k : Res → Prop} {i j : Bool} : fNe (.bl i) (.bl j) k = k (.dat (.bl (!(i == j)))) := by unfold fNe; rw [eqD_bl]; simp [okEq, scD]
theorem c_fin_str {k : Res → Prop} {s t : List Nat} {neg : Bool} : fIn neg (.str s) (.str t) k = one1 s fun ch => k (.dat (.bl (decide (ch ∈ t) != neg))) := rfl
theorem c_fin_lst {k : Res → Prop} {x : Dt} {l : List Dt} {neg : Bool} : fIn neg x (.lst l) k = ((flatD x = true ∧ l.all flatD = true) ∧ k (.dat (.bl ((l.any fun y => eqD y x) != neg)))) := fIn_lst
theorem c_fin_tup {k : Res → Prop} {x : Dt} {l : List Dt} {neg : Bool} : fIn neg x (.tup l) k = ((flatD x = true ∧ l.all flatD = true) ∧ k (.dat (.bl ((l.any fun y => eqD y x) != neg)))) := fIn_tup
theorem c_fisn {k : Res → Prop} {x : Dt} {neg : Bool} : fIsN neg x .non k = k (.dat (.bl (isN x != neg))) := rfl
theorem c_fisb {k : Res → Prop} {x : Dt} {v : Bool} : fIsB v x (.bl v) k = (True ∧ k (.dat (.bl (isB v x)))) := by unfold fIsB; simp
theorem c_isn_non  : isN Dt.non = true := rfl
theorem c_isb_non  {v : Bool} : isB v Dt.non = false := rfl
theorem c_tyd_non  : tyD Dt.non = "NoneType" := rfl
theorem c_isn_bl {b : Bool} : isN (.bl b) = false := rfl
theorem c_isb_bl {b : Bool} {v : Bool} : isB v (.bl b) = (b == v) := rfl
theorem c_tyd_bl {b : Bool} : tyD (.bl b) = "bool" := rfl
theorem c_isn_int {i : Int} : isN (.int i) = false := rfl
theorem c_isb_int {i : Int} {v : Bool} : isB v (.int i) = false := rfl
theorem c_tyd_int {i : Int} : tyD (.int i) = "int" := rfl
theorem c_isn_str {s : List Nat} : isN (.str s) = false := rfl
theorem c_isb_str {s : List Nat} {v : Bool} : isB v (.str s) = false := rfl
theorem c_tyd_str {s : List Nat} : tyD (.str s) = "str" := rfl
theorem c_isn_tup {l : List Dt} : isN (.tup l) = false := rfl
theorem c_isb_tup {l : List Dt} {v : Bool} : isB v (.tup l) = false := rfl
theorem c_tyd_tup {l : List Dt} : tyD (.tup l) = "tuple" := rfl
theorem c_isn_lst {l : List Dt} : isN (.lst l) = false := rfl
theorem c_isb_lst {l : List Dt} {v : Bool} : isB v (.lst l) = false := rfl
theorem c_tyd_lst {l : List Dt} : tyD (.lst l) = "list" := rfl
theorem c_isn_frz {l : List Dt} : isN (.frz l) = false := rfl
theorem c_isb_frz {l : List Dt} {v : Bool} : isB v (.frz l) = false := rfl
theorem c_tyd_frz {l : List Dt} : tyD (.frz l) = "list" := rfl
theorem c_isi_NoneType_bool  : isiB "NoneType" "bool" = false := by decide
theorem c_isi_NoneType_int  : isiB "NoneType" "int" = false := by decide
theorem c_isi_NoneType_str  : isiB "NoneType" "str" = false := by decide
theorem c_isi_NoneType_tuple  : isiB "NoneType" "tuple" = false := by decide
theorem c_isi_NoneType_list  : isiB "NoneType" "list" = false := by decide
theorem c_isi_bool_bool  : isiB "bool" "bool" = true := by decide
theorem c_isi_bool_int  : isiB "bool" "int" = true := by decide
theorem c_isi_bool_str  : isiB "bool" "str" = false := by decide
theorem c_isi_bool_tuple  : isiB "bool" "tuple" = false := by decide
theorem c_isi_bool_list  : isiB "bool" "list" = false := by decide
theorem c_isi_int_bool  : isiB "int" "bool" = false := by decide
theorem c_isi_int_int  : isiB "int" "int" = true := by decide
theorem c_isi_int_str  : isiB "int" "str" = false := by decide
theorem c_isi_int_tuple  : isiB "int" "tuple" = false := by decide
theorem c_isi_int_list  : isiB "int" "list" = false := by decide
theorem c_isi_str_bool  : isiB "str" "bool" = false := by decide
theorem c_isi_str_int  : isiB "str" "int" = false := by decide
theorem c_isi_str_str  : isiB "str" "str" = true := by decide
theorem c_isi_str_tuple  : isiB "str" "tuple" = false := by decide
theorem c_isi_str_list  : isiB "str" "list" = false := by decide
theorem c_isi_tuple_bool  : isiB "tuple" "bool" = false := by decide
theorem c_isi_tuple_int  : isiB "tuple" "int" = false := by decide
theorem c_isi_tuple_str  : isiB "tuple" "str" = false := by decide
theorem c_isi_tuple_tuple  : isiB "tuple" "tuple" = true := by decide
theorem c_isi_tuple_list  : isiB "tuple" "list" = false := by decide
theorem c_isi_list_bool  : isiB "list" "bool" = false := by decide
theorem c_isi_list_int  : isiB "list" "int" = false := by decide
theorem c_isi_list_str  : isiB "list" "str" = false := by decide
theorem c_isi_list_tuple  : isiB "list" "tuple" = false := by decide
theorem c_isi_list_list  : isiB "list" "list" = true := by decide
theorem c_fix_lst {k : Res → Prop} {l : List Dt} {i : Int} : fIx (.lst l) (.int i) k = ixL l i k := rfl
theorem c_fix_tup {k : Res → Prop} {l : List Dt} {i : Int} : fIx (.tup l) (.int i) k = ixL l i k := rfl
theorem c_fix_frz {k : Res → Prop} {l : List Dt} {i : Int} : fIx (.frz l) (.int i) k = ixL l i k := rfl
theorem c_fix_str {k : Res → Prop} {s : List Nat} {i : Int} : fIx (.str s) (.int i) k = (s.length ≤ 10000000 ∧ ixS s i k) := rfl
theorem c_ixL0 {k : Res → Prop} {d : Dt} {l : List Dt} : ixL (d :: l) 0 k = k (.dat d) := ixL_n (n := 0) rfl
theorem c_ixL1 {k : Res → Prop} {d e : Dt} {l : List Dt} : ixL (d :: e :: l) 1 k = k (.dat e) := ixL_n (n := 1) rfl
theorem c_ixL2 {k : Res → Prop} {d e f : Dt} {l : List Dt} : ixL (d :: e :: f :: l) 2 k = k (.dat f) := ixL_n (n := 2) rfl
theorem c_ixL3 {k : Res → Prop} {d e f g : Dt} {l : List Dt} : ixL (d :: e :: f :: g :: l) 3 k = k (.dat g) := ixL_n (n := 3) rfl
theorem c_len_lst {k : Res → Prop} {l : List Dt} : lenD (.lst l) k = k (.dat (.int l.length)) := rfl
theorem c_len_tup {k : Res → Prop} {l : List Dt} : lenD (.tup l) k = k (.dat (.int l.length)) := rfl
theorem c_len_frz {k : Res → Prop} {l : List Dt} : lenD (.frz l) k = k (.dat (.int l.length)) := rfl
theorem c_len_str {k : Res → Prop} {s : List Nat} : lenD (.str s) k = (s.length ≤ 10000000 ∧ k (.dat (.int s.length))) := rfl
theorem c_int1_int {k : Res → Prop} {i : Int} : int1D (.int i) k = k (.dat (.int i)) := rfl
theorem c_int1_bl {k : Res → Prop} {b : Bool} : int1D (.bl b) k = k (.dat (.int (if b then 1 else 0))) := rfl
theorem c_abs {k : Res → Prop} {i : Int} : absD (.int i) k = k (.dat (.int (if i < 0 then -i else i))) := rfl
theorem c_min2 {k : Res → Prop} {i j : Int} : fMin2 [.int i, .int j] k = (True ∧ k (.dat (.int (min i j)))) := rfl
theorem c_max2 {k : Res → Prop} {i j : Int} : fMax2 [.int i, .int j] k = (True ∧ k (.dat (.int (max i j)))) := rfl
theorem c_len {k : Res → Prop} {x : Dt} : fLen [x] k = lenD x k := rfl
theorem c_int1 {k : Res → Prop} {x : Dt} : fInt1 [x] k = int1D x k := rfl
theorem c_fabs {k : Res → Prop} {x : Dt} : fAbs [x] k = absD x k := rfl
theorem c_ftuple {k : Res → Prop} {x : Dt} : fTuple [x] k = tupleD x k := rfl
theorem c_flist {k : Res → Prop} {x : Dt} : fList [x] k = listD x k := rfl
theorem c_tuple_lst {k : Res → Prop} {l : List Dt} : tupleD (.lst l) k = k (.dat (.tup l)) := rfl
theorem c_tuple_tup {k : Res → Prop} {l : List Dt} : tupleD (.tup l) k = k (.dat (.tup l)) := rfl
theorem c_list_lst {k : Res → Prop} {l : List Dt} : listD (.lst l) k = k (.new (.lst l)) := rfl
theorem c_list_tup {k : Res → Prop} {l : List Dt} : listD (.tup l) k = k (.new (.lst l)) := rfl
theorem c_sl_lst {k : Res → Prop}{lo hi : Option Int} {l : List Dt} : fSl (.lst l) lo hi k = k (.new (.lst (cut l lo hi))) := rfl
theorem c_sl_str {k : Res → Prop}{lo hi : Option Int} {s : List Nat} : fSl (.str s) lo hi k = (s.length ≤ 10000000 ∧ k (.dat (.str (cut s lo hi)))) := rfl
theorem c_sl_tup {k : Res → Prop}{lo hi : Option Int} {l : List Dt} : fSl (.tup l) lo hi k = (¬ (HT.sIx l.length 0 lo = 0 ∧ HT.sIx l.length l.length hi = l.length) ∧ k (.dat (.tup (cut l lo hi)))) := rfl
theorem c_part_int {Q : Option Int → CEnv → Prop} {c : CEnv} {i : Int} : partQ (.dat (.int i)) c Q = Q (some i) c := rfl
theorem c_part {de : DE} {c : CEnv} {Q : Option Int → CEnv → Prop} : dPart de c Q = de c fun r c1 => partQ r c1 Q := dPart_ok
theorem c_mappend {k : Dt → List Dt → Prop} {l : List Dt} {d : Dt} : mAppend l [d] k = (l.length < 10000000 ∧ k .non (l ++ [d])) := rfl
theorem c_mpop {k : Dt → List Dt → Prop} {l : List Dt} : mPop l [] k = popL l k := popL_ok
theorem c_obS_own {k : List Dt → Prop} {l : List Dt} : obS (.own (.lst l)) k = k l := rfl
theorem c_setS_own {c : CEnv} {i : Nat} {o : Ob} {m : List Dt} : setS (.own o) c i m = c.set i (.own (.lst m)) := rfl
theorem c_obS_arg {k : List Dt → Prop} {l : List Dt} : obS (.arg (.lst l)) k = k l := rfl
theorem c_setS_arg {c : CEnv} {i : Nat} {o : Ob} {m : List Dt} : setS (.arg o) c i m = c.set i (.arg (.lst m)) := rfl
theorem c_obL {k : List Dt → Prop} {c : CEnv} {i : Nat} : obL c i k = obS (gt c i) k := obS_ok
theorem c_setL {c : CEnv} {i : Nat} {m : List Dt} : setL c i m = setS (gt c i) c i m := setS_ok
theorem c_setIx {i : Nat} {dx de : DE} {E : CEnds} {c : CEnv} : dSetIx i dx de E c = de c fun r c1 => asD r c1 fun d c2 => obL c2 i fun _ => dx c2 fun rx c3 => ixQ rx c3 i d E.nx := dSetIx_ok
theorem c_ixQ {j : Int} {c : CEnv} {i : Nat} {d : Dt} {k : CEnv → Prop} : ixQ (.dat (.int j)) c i d k = obL c i fun l => setN (ixN l.length j) c i l d k := rfl
theorem c_setN {n : Nat} {c : CEnv} {i : Nat} {l : List Dt} {d : Dt} {k : CEnv → Prop} : setN (some n) c i l d k = k (setL c i (l.set n d)) := rfl
theorem c_ixN10  : ixN 1 0 = some 0 := by decide
theorem c_ixN20  : ixN 2 0 = some 0 := by decide
theorem c_ixN21  : ixN 2 1 = some 1 := by decide
theorem c_ixN30  : ixN 3 0 = some 0 := by decide
theorem c_ixN31  : ixN 3 1 = some 1 := by decide
theorem c_ixN32  : ixN 3 2 = some 2 := by decide
theorem c_mt {f : MtF} {de : DE} {da : DA} {c : CEnv} {Q : Res → CEnv → Prop} : dMt f de da c Q = de c fun r c1 => mtQ r f da c1 Q := dMt_ok
theorem c_mtQ {f : MtF} {da : DA} {c : CEnv} {Q : Res → CEnv → Prop} {s : List Nat} : mtQ (.dat (.str s)) f da c Q = da c fun rs c2 => vws rs c2 fun xs => f (.str s) xs fun z => Q z c2 := rfl
theorem c_vws_nil {c : CEnv} {k : List Dt → Prop} : vws [] c k = k [] := rfl
theorem c_vws_cons {c : CEnv} {k : List Dt → Prop} {r : Res} {rs : List Res} : vws (r :: rs) c k = on1 r c fun x => vws rs c fun xs => k (x :: xs) := rfl
theorem c_rfind4 {k : Res → Prop} {s t : List Nat} {lo hi : Int} : fRfind4 (.str s) [.str t, .int lo, .int hi] k = one1 t fun ch => (s.length ≤ 10000000 ∧ 0 ≤ lo ∧ 0 ≤ hi) ∧ ∀ v, IsLast s ch lo.toNat (min hi.toNat s.length) v → k (.dat (.int v)) := rfl
theorem c_rfind {k : Res → Prop} {s t : List Nat} : fRfind (.str s) [.str t] k = one1 t fun ch => s.length ≤ 10000000 ∧ ∀ v, IsLast s ch 0 s.length v → k (.dat (.int v)) := rfl
theorem c_join_lst {k : Res → Prop} {s : List Nat} {l : List Dt} : fJoin (.str s) [.lst l] k = joinK s l k := rfl
theorem c_join_tup {k : Res → Prop} {s : List Nat} {l : List Dt} : fJoin (.str s) [.tup l] k = joinK s l k := rfl
theorem c_one1 {ch : Nat} {k : Nat → Prop} : one1 [ch] k = k ch := rfl
theorem c_cints2 {a b : Int} {k : Int → Int → Prop} : cints2 [.int a, .int b] k = k a b := rfl
theorem c_cints3 {a b d : Int} {k : Int → Int → Int → Prop} : cints3 [.int a, .int b, .int d] k = k a b d := rfl
theorem c_own {i : Nat} {dv : DV} {c : CEnv} {Q : List AV → CEnv → Prop} : vOwn i dv c Q = (isOb (gt c i) ∧ dv c fun avs c3 => Q (.own i :: avs) c3) := vOwn_ok
theorem c_isOb_own {o : Ob} : isOb (.own o) = True := rfl
theorem c_isOb_arg {o : Ob} : isOb (.arg o) = True := rfl
theorem c_callQ {F : FS} {avs : List AV} {c : CEnv} {Q : Res → CEnv → Prop} : callQ F avs c Q = (nodupO avs = true ∧ lookQ avs c fun as => F as fun r as' => retC r (putA avs as' 0 c) Q) := callQ_ok
theorem c_look_nil {c : CEnv} {k : List AArg → Prop} : lookQ [] c k = k [] := rfl
theorem c_look_dat {c : CEnv} {k : List AArg → Prop} {d : Dt} {r : List AV} : lookQ (.dat d :: r) c k = lookQ r c fun as => k (.dat d :: as) := lookQ_dat
theorem c_look_own {c : CEnv} {k : List AArg → Prop} {i : Nat} {r : List AV} : lookQ (.own i :: r) c k = lookS (gt c i) fun o => lookQ r c fun as => k (.ob o :: as) := lookQ_own
theorem c_lookS_own {k : Ob → Prop} {o : Ob} : lookS (.own o) k = k o := rfl
theorem c_lookS_arg {k : Ob → Prop} {o : Ob} : lookS (.arg o) k = k o := rfl
theorem c_nd_nil  : nodupO [] = true := rfl
theorem c_nd_dat {d : Dt} {r : List AV} : nodupO (.dat d :: r) = nodupO r := rfl
theorem c_nd_own {i : Nat} {r : List AV} : nodupO (.own i :: r) = (notIn i r && nodupO r) := nd_own_ok
theorem c_ni_nil {i : Nat} : notIn i [] = true := rfl
theorem c_ni_dat {i : Nat} {d : Dt} {r : List AV} : notIn i (.dat d :: r) = notIn i r := by simp [notIn]
theorem c_ni_own {i j : Nat} {r : List AV} : notIn i (.own j :: r) = (i != j && notIn i r) := rfl
theorem c_putA_nil {avs : List AV} {as : List AArg} {j : Nat} : putA avs as j [] = [] := rfl
theorem c_putA_cons {avs : List AV} {as : List AArg} {j : Nat} {s : Slot} {c : CEnv} : putA avs as j (s :: c) = newSlot s (ownAt avs as j) :: putA avs as (j + 1) c := rfl
theorem c_new_none {s : Slot} : newSlot s none = s := rfl
theorem c_new_arg {o o' : Ob} : newSlot (.arg o) (some o') = .arg o' := rfl
theorem c_new_own {o o' : Ob} : newSlot (.own o) (some o') = .own o' := rfl
theorem c_oa_nil {j : Nat} {as : List AArg} : ownAt [] as j = none := by cases as <;> rfl
theorem c_oa_dat {j : Nat} {d : Dt} {a : AArg} {avs : List AV} {as : List AArg} : ownAt (.dat d :: avs) (a :: as) j = ownAt avs as j := rfl
theorem c_oa_own {i j : Nat} {o : Ob} {avs : List AV} {as : List AArg} : ownAt (.own i :: avs) (.ob o :: as) j = if i = j then some o else ownAt avs as j := rfl
theorem c_gT {n : Nat} {gs : DGs} {l : List Dt} {c : CEnv} {Q : CEnv → Prop} : gT n gs (.tup l) c Q = (l.length = n ∧ gs l c Q) := rfl
theorem c_gsCons {g : DG} {gs : DGs} {d : Dt} {l : List Dt} {c : CEnv} {Q : CEnv → Prop} : gsCons g gs (d :: l) c Q = g d c fun c1 => gs l c1 Q := rfl
theorem c_gsNil {c : CEnv} {Q : CEnv → Prop} : gsNil [] c Q = Q c := by simp [gsNil]
theorem c_gN {i : Nat} {d : Dt} {c : CEnv} {Q : CEnv → Prop} : gN i d c Q = Q (c.set i (.dat d)) := rfl
theorem c_it_lst {k : List Dt → Prop} {l : List Dt} : itemsD (.lst l) k = k l := rfl
theorem c_it_tup {k : List Dt → Prop} {l : List Dt} : itemsD (.tup l) k = k l := rfl
theorem c_it_frz {k : List Dt → Prop} {l : List Dt} : itemsD (.frz l) k = k l := rfl
theorem c_it_str {k : List Dt → Prop} {s : List Nat} : itemsD (.str s) k = k (chs s) := rfl
theorem c_rng1 {da : DL} {c : CEnv} {Q : List Dt → CEnv → Prop} : dRng1 da c Q = da c fun ds c1 => rngQ ds fun n => (n ≤ 1000000000 ∧ -1000000000 ≤ n) ∧ Q (rngD 0 n.toNat) c1 := dRng1_ok
theorem c_rngQ {n : Int} {k : Int → Prop} : rngQ [.int n] k = k n := rfl
theorem c_par {i j : Nat} {da : DL} {E : CEnds} {c : CEnv} : dPar i j da E c = da c fun ds c1 => two ds fun d e => E.nx ((c1.set i (.dat d)).set j (.dat e)) := dPar_ok
theorem c_two {d e : Dt} {k : Dt → Dt → Prop} : two [d, e] k = k d e := rfl
theorem c_aug {i : Nat} {f : OpF} {de : DE} {E : CEnds} {c : CEnv} : dAug i f de E c = augS (gt c i) i f de E c := dAug_ok
theorem c_augS {i : Nat} {f : OpF} {de : DE} {E : CEnds} {c : CEnv} {x : Dt} : augS (.dat x) i f de E c = de c fun r c1 => on1 (hd r) c1 fun y => f x y fun z => put i z c1 E.nx := rfl
theorem c_loop {di : DI} {g : DG} {body : DS} {E : CEnds} {c : CEnv} : dFor di g body E c = di c fun ds c1 => FI ds g body E c1 := dFor_ok
theorem c_lc {di : DI} {g : DG} {dt : DT} {de : DE} {vs : List Nat} {c : CEnv} {Q : Res → CEnv → Prop} : dLc di g dt de vs c Q = di c fun ds c1 => LCI ds g dt de vs c1 Q := dLc_ok
end Cl

namespace K61
open PySem PySem.Spec PyProof.Rows L2 Cl

/-! ### the mathematics: where a row is cut -/
/-- the last blank from lo to hi - 1 -/
def lastV (s : List Nat) (lo : Nat) : Nat → Int
  | 0 => -1
  | hi + 1 => if lo ≤ hi ∧ s[hi]? = some 32 then (hi : Int) else lastV s lo hi
theorem lastV_is (s : List Nat) (lo : Nat) : ∀ hi, IsLast s 32 lo hi (lastV s lo hi)
  | 0 => .inl ⟨rfl, fun i _ h => by omega⟩
  | hi + 1 => by
    unfold lastV
    split
    · rename_i h
      exact .inr ⟨hi, rfl, h.1, by omega, h.2, fun m h1 h2 => by omega⟩
    · rename_i h
      rcases lastV_is s lo hi with ⟨e, q⟩ | ⟨n, e, q1, q2, q3, q4⟩
      · refine .inl ⟨e, fun i h1 h2 h3 => ?_⟩
        by_cases w : i = hi
        · subst w
          exact h ⟨h1, h3⟩
        · exact q i h1 (by omega) h3
      · refine .inr ⟨n, e, q1, by omega, q3, fun m h1 h2 h3 => ?_⟩
        by_cases w : m = hi
        · subst w
          exact h ⟨by omega, h3⟩
        · exact q4 m h1 (by omega) h3
theorem isLast_uniq {s : List Nat} {c lo hi : Nat} {v w : Int} (h : IsLast s c lo hi v) (h' : IsLast s c lo hi w) : v = w := by
  rcases h with ⟨e, q⟩ | ⟨n, e, q1, q2, q3, q4⟩
  · rcases h' with ⟨e', _⟩ | ⟨m, e', p1, p2, p3, _⟩
    · rw [e, e']
    · exact absurd p3 (q m p1 p2)
  · rcases h' with ⟨e', p⟩ | ⟨m, e', p1, p2, p3, p4⟩
    · exact absurd q3 (p n q1 q2)
    · have : n = m := by
        rcases Nat.lt_trichotomy n m with z | z | z
        · exact absurd p3 (q4 m z p2)
        · exact z
        · exact absurd q3 (p4 n z q2)
      rw [e, e', this]
/-- where the piece from x ends, if more than w signs are left -/
def E (s : List Nat) (w : Nat) (b : Bool) (x : Nat) : Nat := if b = true then (if (x : Int) ≤ lastV s x (x + w) then (lastV s x (x + w) + 1).toNat else x + w) else x + w
theorem E_le (s : List Nat) (w : Nat) (b : Bool) (x : Nat) : E s w b x ≤ x + w := by
  unfold E
  split
  · split
    · rcases lastV_is s x (x + w) with ⟨e, q⟩ | ⟨n, e, q1, q2, q3, q4⟩
      · omega
      · omega
    · omega
  · omega
theorem E_gt (s : List Nat) {w : Nat} (hw : 1 ≤ w) (b : Bool) (x : Nat) : x < E s w b x := by
  unfold E
  split
  · split <;> omega
  · omega
/-- whether one may go from lo to hi -/
def Let (s : List Nat) (w : Nat) (b : Bool) (lo hi : Nat) : Prop := lo < hi ∧ hi ≤ lo + w ∧ (b = false ∨ s[hi - 1]? = some 32 ∨ (hi = lo + w ∧ ∀ i, lo ≤ i → i < hi → s[i]? ≠ some 32))
theorem let_E (s : List Nat) {w : Nat} (hw : 1 ≤ w) (b : Bool) (x : Nat) : Let s w b x (E s w b x) := by
  refine ⟨E_gt s hw b x, E_le s w b x, ?_⟩
  unfold E
  cases b with
  | false => exact .inl rfl
  | true =>
    right
    rw [if_pos rfl]
    rcases lastV_is s x (x + w) with ⟨e, q⟩ | ⟨n, e, q1, q2, q3, q4⟩
    · right
      rw [e, if_neg (by omega)]
      exact ⟨rfl, q⟩
    · left
      rw [e, if_pos (by omega)]
      have : ((n : Int) + 1).toNat - 1 = n := by omega
      rw [this]
      exact q3
/-- nothing goes further than the last one does -/
theorem let_le {s : List Nat} {w : Nat} {b : Bool} {x y h : Nat} (hxy : x ≤ y) (hw : 1 ≤ w) (hl : Let s w b x h) : h ≤ E s w b y := by
  obtain ⟨l1, l2, l3⟩ := hl
  by_cases hy : h ≤ y
  · have := E_gt s hw b y
    omega
  · unfold E
    cases b with
    | false =>
      rw [if_neg Bool.false_ne_true]
      omega
    | true =>
      rw [if_pos rfl]
      rcases lastV_is s y (y + w) with ⟨e, q⟩ | ⟨n, e, q1, q2, q3, q4⟩
      · rw [e, if_neg (by omega)]
        omega
      · rw [e, if_pos (by omega)]
        have e2 : ((n : Int) + 1).toNat = n + 1 := by omega
        rw [e2]
        rcases l3 with l3 | l3 | ⟨l3, l4⟩
        · cases l3
        · have := q4 (h - 1)
          rcases Nat.lt_or_ge n (h - 1) with z | z
          · exact absurd l3 (q4 (h - 1) z (by omega))
          · omega
        · rcases Nat.lt_or_ge n h with z | z
          · exact absurd q3 (l4 n (by omega) z)
          · omega
/-- the ends behind x -/
def eds (s : List Nat) (w : Nat) (b : Bool) : Nat → Nat → List Nat
  | 0, _ => [s.length]
  | f + 1, x => if x + w < s.length then E s w b x :: eds s w b f (E s w b x) else [s.length]
theorem eds_more {s : List Nat} {w : Nat} {b : Bool} (hw : 1 ≤ w) : ∀ (f f' x : Nat), s.length ≤ x + f → s.length ≤ x + f' → eds s w b f x = eds s w b f' x
  | 0, 0, _, _, _ => rfl
  | 0, f' + 1, x, h, _ => by
    unfold eds
    rw [if_neg (by omega)]
  | f + 1, 0, x, _, h => by
    unfold eds
    rw [if_neg (by omega)]
  | f + 1, f' + 1, x, h, h' => by
    unfold eds
    have := E_gt s hw b x
    split
    · rw [eds_more hw f f' _ (by omega) (by omega)]
    · rfl
theorem eds_step {s : List Nat} {w : Nat} {b : Bool} (hw : 1 ≤ w) {x : Nat} (h : x + w < s.length) : eds s w b s.length x = E s w b x :: eds s w b s.length (E s w b x) := by
  have e : eds s w b s.length x = eds s w b (s.length + 1) x := eds_more hw _ _ x (by omega) (by omega)
  rw [e]
  show (if x + w < s.length then E s w b x :: eds s w b s.length (E s w b x) else [s.length]) = _
  rw [if_pos h]
theorem eds_stop {s : List Nat} {w : Nat} {b : Bool} {x : Nat} (h : ¬ x + w < s.length) : eds s w b s.length x = [s.length] := by
  cases q : s.length with
  | zero =>
    show [s.length] = [0]
    rw [q]
  | succ n =>
    show (if x + w < s.length then _ else _) = _
    rw [if_neg h, q]
/-- pairs of neighbours -/
def prs : Nat → List Nat → List (Nat × Nat)
  | _, [] => []
  | x, y :: r => (x, y) :: prs y r
def pairD (p : Nat × Nat) : Dt := .tup [.int p.1, .int p.2]
/-- the pieces -/
def pcs (s : List Nat) (w : Nat) (b : Bool) (x : Nat) : List Dt := (prs x (eds s w b s.length x)).map pairD
def piecesD (s : List Nat) (w : Nat) (b : Bool) : Dt := .tup (pcs s w b 0)
theorem pcs_step {s : List Nat} {w : Nat} {b : Bool} (hw : 1 ≤ w) {x : Nat} (h : x + w < s.length) : pcs s w b x = pairD (x, E s w b x) :: pcs s w b (E s w b x) := by
  unfold pcs
  rw [eds_step hw h]
  rfl
theorem pcs_stop {s : List Nat} {w : Nat} {b : Bool} {x : Nat} (h : ¬ x + w < s.length) : pcs s w b x = [pairD (x, s.length)] := by
  unfold pcs
  rw [eds_stop h]
  rfl

/-! ### what the defs do -/
def isPool (o : Ob) : Prop := ∃ (ds : List Int) (i st : Int), o = .lst [.lst (ds.map .int), .int i, .int st] ∧ 0 ≤ i ∧ ds.length ≤ 100000
def F_piece_end : FS := fun as R => ∃ (s : List Nat) (x w : Nat) (b : Bool), as = [.dat (.str s), .dat (.int x), .dat (.int w), .dat (.bl b)] ∧ s.length ≤ 10000 ∧ x + w ≤ s.length ∧ R (.dat (.int (E s w b x))) as
def F_laid : FS := fun as R => ∃ (s : List Nat) (w : Nat) (b : Bool), as = [.dat (.str s), .dat (.int w), .dat (.bl b)] ∧ s.length ≤ 10000 ∧ 1 ≤ w ∧ R (.dat (piecesD s w b)) as
def F_law_pool : FS := fun as R => ∃ ns : List Int, as = [.dat (.frz (ns.map .int))] ∧ ns.length ≤ 63 ∧ ∀ o, isPool o → R (.new o) as
def F_law_next : FS := fun as R => ∃ o m, as = [.ob o, .dat (.int m)] ∧ isPool o ∧ 1 ≤ m ∧ ∀ r o', isPool o' → 0 ≤ r → r < m → R (.dat (.int r)) [.ob o', .dat (.int m)]
def F_law_signs : FS := fun as R => as = [] ∧ ∀ s : List Nat, s.length = 95 → R (.dat (.str s)) []
inductive Good : Nat → Dt → Prop
  | non {n : Nat} : Good n .non
  | bl {n : Nat} (b : Bool) : Good n (.bl b)
  | int {n : Nat} (i : Int) : Good n (.int i)
  | str {n : Nat} (s : List Nat) : Good n (.str s)
  | tup {n : Nat} {l : List Dt} (h : l.length ≤ 1000000) (h' : ∀ d ∈ l, Good n d) : Good (n + 1) (.tup l)
  | lst {n : Nat} {l : List Dt} (h : l.length ≤ 1000000) (h' : ∀ d ∈ l, Good n d) : Good (n + 1) (.lst l)
def F_same (n : Nat) : FS := fun as R => ∃ a, as = [.dat a, .dat a] ∧ Good n a ∧ R (.dat (.bl true)) as
def F_law_same : FS := F_same 3
def F_law_band : FS := fun as R => ∃ o w, as = [.ob o, .dat (.int w)] ∧ isPool o ∧ 4 ≤ w ∧ w ≤ 80 ∧ ∀ (s : List Nat) o', isPool o' → s.length ≤ 1000 → R (.dat (.str s)) [.ob o', .dat (.int w)]
def F_law_let : FS := fun as R => ∃ (s : List Nat) (w : Nat) (b : Bool) (lo hi : Nat), as = [.dat (.str s), .dat (.int w), .dat (.bl b), .dat (.int lo), .dat (.int hi)] ∧ s.length ≤ 10000 ∧ hi ≤ s.length ∧ ∀ r : Bool, (r = true ↔ Let s w b lo hi) → R (.dat (.bl r)) as
def F_law_due : FS := fun as R => ∃ (s : List Nat) (w : Nat) (b : Bool), as = [.dat (.str s), .dat (.int w), .dat (.bl b)] ∧ s.length ≤ 10000 ∧ 1 ≤ w ∧ R (.dat (piecesD s w b)) as
def F_law_far : FS := fun as R => ∃ o, as = [.ob o] ∧ isPool o ∧ ∀ o', isPool o' → R (.dat (.bl true)) [.ob o']
def F_law : FS := fun as R => ∃ ns : List Int, as = [.dat (.frz (ns.map .int))] ∧ ns.length ≤ 63 ∧ R (.dat (.bl true)) as
end K61

namespace K61
open PySem PySem.Spec PyProof.Rows L2 Cl
def topS (i : Nat) : Stmt := PySem.Challenge.pw_deedstand_k61_whole_fewest_pieces.main.body.getD i (.Pass ⟨0, 0, 0, 0⟩)
abbrev s_piece_end : Stmt := topS 1
abbrev N_piece_end : List Str := ["row", "start", "width", "wordwise", "space"]
abbrev P_piece_end : List Str := ["row", "start", "width", "wordwise"]
theorem sc_piece_end : FnScope N_piece_end P_piece_end (defScope s_piece_end) := ⟨rfl, rfl, rfl, by decide +kernel, rfl, by decide +kernel, by decide +kernel⟩
abbrev s_laid : Stmt := topS 2
abbrev N_laid : List Str := ["row", "width", "wordwise", "pieces", "start", "end"]
abbrev P_laid : List Str := ["row", "width", "wordwise"]
theorem sc_laid : FnScope N_laid P_laid (defScope s_laid) := ⟨rfl, rfl, rfl, by decide +kernel, rfl, by decide +kernel, by decide +kernel⟩
abbrev s_law_pool : Stmt := topS 4
abbrev N_law_pool : List Str := ["script", "drawn", "state", "cell", "size", "turn"]
abbrev P_law_pool : List Str := ["script"]
theorem sc_law_pool : FnScope N_law_pool P_law_pool (defScope s_law_pool) := ⟨rfl, rfl, rfl, by decide +kernel, rfl, by decide +kernel, by decide +kernel⟩
abbrev s_law_next : Stmt := topS 5
abbrev N_law_next : List Str := ["pool", "many"]
abbrev P_law_next : List Str := ["pool", "many"]
theorem sc_law_next : FnScope N_law_next P_law_next (defScope s_law_next) := ⟨rfl, rfl, rfl, by decide +kernel, rfl, by decide +kernel, by decide +kernel⟩
abbrev s_law_signs : Stmt := topS 6
abbrev N_law_signs : List Str := ["signs"]
abbrev P_law_signs : List Str := []
theorem sc_law_signs : FnScope N_law_signs P_law_signs (defScope s_law_signs) := ⟨rfl, rfl, rfl, by decide +kernel, rfl, by decide +kernel, by decide +kernel⟩
abbrev s_law_same : Stmt := topS 7
abbrev N_law_same : List Str := ["one", "due", "k"]
abbrev P_law_same : List Str := ["one", "due"]
theorem sc_law_same : FnScope N_law_same P_law_same (defScope s_law_same) := ⟨rfl, rfl, rfl, by decide +kernel, rfl, by decide +kernel, by decide +kernel⟩
abbrev s_law_band : Stmt := topS 8
abbrev N_law_band : List Str := ["pool", "wide", "signs", "long", "often", "sign", "band", "k"]
abbrev P_law_band : List Str := ["pool", "wide"]
theorem sc_law_band : FnScope N_law_band P_law_band (defScope s_law_band) := ⟨rfl, rfl, rfl, by decide +kernel, rfl, by decide +kernel, by decide +kernel⟩
abbrev s_law_let : Stmt := topS 9
abbrev N_law_let : List Str := ["band", "wide", "bywords", "low", "high"]
abbrev P_law_let : List Str := ["band", "wide", "bywords", "low", "high"]
theorem sc_law_let : FnScope N_law_let P_law_let (defScope s_law_let) := ⟨rfl, rfl, rfl, by decide +kernel, rfl, by decide +kernel, by decide +kernel⟩
abbrev s_law_due : Stmt := topS 10
abbrev N_law_due : List Str := ["band", "wide", "bywords", "size", "done", "back", "reach", "furthest", "turn", "ends", "low", "high", "met", "k"]
abbrev P_law_due : List Str := ["band", "wide", "bywords"]
theorem sc_law_due : FnScope N_law_due P_law_due (defScope s_law_due) := ⟨rfl, rfl, rfl, by decide +kernel, rfl, by decide +kernel, by decide +kernel⟩
abbrev s_law_far : Stmt := topS 11
abbrev N_law_far : List Str := ["pool", "wide", "often", "size", "band", "plain", "words", "low", "turn", "high", "space", "k"]
abbrev P_law_far : List Str := ["pool"]
theorem sc_law_far : FnScope N_law_far P_law_far (defScope s_law_far) := ⟨rfl, rfl, rfl, by decide +kernel, rfl, by decide +kernel, by decide +kernel⟩
abbrev s_law : Stmt := topS 12
abbrev N_law : List Str := ["script", "pool", "turn", "wide", "band", "due"]
abbrev P_law : List Str := ["script"]
theorem sc_law : FnScope N_law P_law (defScope s_law) := ⟨rfl, rfl, rfl, by decide +kernel, rfl, by decide +kernel, by decide +kernel⟩
theorem bi_piece_end {K : PySem.W.Frag} {f : Addr} {fd : FuncData} (F : FunD K "_piece_end" "_piece_end" (defArgs s_piece_end) (defBody s_piece_end) (defScope s_piece_end) [] [] f fd) : ∃ ws ds, Vals ws ds ∧ (∀ B, RepL K B [] ws) ∧ Binds K fd P_piece_end ds := bi_N F fun _ _ _ _ _ _ us hl => match us, hl with
  | [_, _, _, _], _ => rfl
theorem bi_laid_2 {K : PySem.W.Frag} {f : Addr} {fd : FuncData} (F : FunD K "laid" "laid" (defArgs s_laid) (defBody s_laid) (defScope s_laid) [] [("wordwise", .bl false)] f fd) : ∃ ws ds, Vals ws ds ∧ (∀ B, RepL K B [.bl false] ws) ∧ Binds K fd P_laid ds := bi_K F 2 [.bl false] (fun B => .cons (by unfold Rep; rfl) (.nil)) (by decide) rfl fun _ _ _ _ _ _ us ks h1 h2 => match us, ks, h1, h2 with
  | [_, _], [_], _, _ => ⟨_, _, _, _, _, _, rfl, rfl, rfl⟩
theorem kb_laid_0 {K : PySem.W.Frag} {f : Addr} {fd : FuncData} (F : FunD K "laid" "laid" (defArgs s_laid) (defBody s_laid) (defScope s_laid) [] [("wordwise", .bl false)] f fd) : ∃ g gV, KBn K fd P_laid 2 ["wordwise"] g gV ∧ ∀ B σ avs kvs vs zs, avs.length = 2 → kvs.length = 1 → AVOk K B σ avs vs → AVOk K B σ kvs zs → AVOk K B σ (pick (.dat .non) [.inl 0, .inl 1, .inr 0] avs kvs ++ []) (gV vs zs) := kb_all F 2 ["wordwise"] _ fun _ _ _ _ _ _ us ws h1 h2 => match us, ws, h1, h2 with
  | [_, _], [_], _, _ => rfl
theorem kb_laid_1 {K : PySem.W.Frag} {f : Addr} {fd : FuncData} (F : FunD K "laid" "laid" (defArgs s_laid) (defBody s_laid) (defScope s_laid) [] [("wordwise", .bl false)] f fd) : ∃ g gV, KBn K fd P_laid 0 ["width", "row"] g gV ∧ ∀ B σ avs kvs vs zs, avs.length = 0 → kvs.length = 2 → AVOk K B σ avs vs → AVOk K B σ kvs zs → AVOk K B σ (pick (.dat .non) [.inr 1, .inr 0] avs kvs ++ ([.bl false] : List Dt).map AV.dat) (gV vs zs) := kb_dfl F 0 ["width", "row"] _ [.bl false] (fun B => .cons (by unfold Rep; rfl) (.nil)) (by decide) fun _ _ _ _ _ _ us ws ms h1 h2 h3 => match us, ws, ms, h1, h2, h3 with
  | [], [_, _], [_], _, _, _ => ⟨_, _, _, _, _, _, rfl, rfl, rfl⟩
theorem bi_law_pool {K : PySem.W.Frag} {f : Addr} {fd : FuncData} (F : FunD K "_law_pool" "_law_pool" (defArgs s_law_pool) (defBody s_law_pool) (defScope s_law_pool) [] [] f fd) : ∃ ws ds, Vals ws ds ∧ (∀ B, RepL K B [] ws) ∧ Binds K fd P_law_pool ds := bi_N F fun _ _ _ _ _ _ us hl => match us, hl with
  | [_], _ => rfl
theorem bi_law_next {K : PySem.W.Frag} {f : Addr} {fd : FuncData} (F : FunD K "_law_next" "_law_next" (defArgs s_law_next) (defBody s_law_next) (defScope s_law_next) [] [] f fd) : ∃ ws ds, Vals ws ds ∧ (∀ B, RepL K B [] ws) ∧ Binds K fd P_law_next ds := bi_N F fun _ _ _ _ _ _ us hl => match us, hl with
  | [_, _], _ => rfl
theorem bi_law_signs {K : PySem.W.Frag} {f : Addr} {fd : FuncData} (F : FunD K "_law_signs" "_law_signs" (defArgs s_law_signs) (defBody s_law_signs) (defScope s_law_signs) [] [] f fd) : ∃ ws ds, Vals ws ds ∧ (∀ B, RepL K B [] ws) ∧ Binds K fd P_law_signs ds := bi_N F fun _ _ _ _ _ _ us hl => match us, hl with
  | [], _ => rfl
theorem bi_law_same {K : PySem.W.Frag} {f : Addr} {fd : FuncData} (F : FunD K "_law_same" "_law_same" (defArgs s_law_same) (defBody s_law_same) (defScope s_law_same) [] [] f fd) : ∃ ws ds, Vals ws ds ∧ (∀ B, RepL K B [] ws) ∧ Binds K fd P_law_same ds := bi_N F fun _ _ _ _ _ _ us hl => match us, hl with
  | [_, _], _ => rfl
theorem bi_law_band {K : PySem.W.Frag} {f : Addr} {fd : FuncData} (F : FunD K "_law_band" "_law_band" (defArgs s_law_band) (defBody s_law_band) (defScope s_law_band) [] [] f fd) : ∃ ws ds, Vals ws ds ∧ (∀ B, RepL K B [] ws) ∧ Binds K fd P_law_band ds := bi_N F fun _ _ _ _ _ _ us hl => match us, hl with
  | [_, _], _ => rfl
theorem bi_law_let {K : PySem.W.Frag} {f : Addr} {fd : FuncData} (F : FunD K "_law_let" "_law_let" (defArgs s_law_let) (defBody s_law_let) (defScope s_law_let) [] [] f fd) : ∃ ws ds, Vals ws ds ∧ (∀ B, RepL K B [] ws) ∧ Binds K fd P_law_let ds := bi_N F fun _ _ _ _ _ _ us hl => match us, hl with
  | [_, _, _, _, _], _ => rfl
theorem bi_law_due {K : PySem.W.Frag} {f : Addr} {fd : FuncData} (F : FunD K "_law_due" "_law_due" (defArgs s_law_due) (defBody s_law_due) (defScope s_law_due) [] [] f fd) : ∃ ws ds, Vals ws ds ∧ (∀ B, RepL K B [] ws) ∧ Binds K fd P_law_due ds := bi_N F fun _ _ _ _ _ _ us hl => match us, hl with
  | [_, _, _], _ => rfl
theorem bi_law_far {K : PySem.W.Frag} {f : Addr} {fd : FuncData} (F : FunD K "_law_far" "_law_far" (defArgs s_law_far) (defBody s_law_far) (defScope s_law_far) [] [] f fd) : ∃ ws ds, Vals ws ds ∧ (∀ B, RepL K B [] ws) ∧ Binds K fd P_law_far ds := bi_N F fun _ _ _ _ _ _ us hl => match us, hl with
  | [_], _ => rfl
theorem bi_law {K : PySem.W.Frag} {f : Addr} {fd : FuncData} (F : FunD K "law" "law" (defArgs s_law) (defBody s_law) (defScope s_law) [] [] f fd) : ∃ ws ds, Vals ws ds ∧ (∀ B, RepL K B [] ws) ∧ Binds K fd P_law ds := bi_N F fun _ _ _ _ _ _ us hl => match us, hl with
  | [_], _ => rfl
def t_piece_end1 : DS := (dRet (dBin fAdd (dVar 1) (dVar 2)))
def b_piece_end : DS := (dSeq (dIf (dTru (dVar 3)) (dSeq (dAsg 4 (dMt fRfind4 (dVar 0) (aCons (dC (.str [32])) (aCons (dVar 1) (aCons (dBin fAdd (dVar 1) (dVar 2)) aNil)))))
      (dIf (dBinT fGe (dVar 4) (dVar 1)) (dRet (dBin fAdd (dVar 4) (dC (.int 1)))) dNext)) dNext)
      t_piece_end1)
theorem q_piece_end {P : Program} {w : World} {K : PySem.W.Frag} {mg : Str → Option Value} {base : Heap} {PL : PoolP} {f : Addr}  {cdv : Value} {A : Around} {outer : List Env} {s : Shared} {H : Hp} {E : XK} (hr : Room 0 (A.deeper (envOfC "_piece_end" (defScope s_piece_end) s.heap.objs.size f cdv))) : QSs (cxOf CX0 P w K mg base N_piece_end "_piece_end" (defScope s_piece_end) f cdv A outer s H E).nox PL (defBody s_piece_end) b_piece_end := by
  delta b_piece_end t_piece_end1
  exact (qss_cons (qs_if (qt_val (qe_var (pv 3))) (qss_cons (qs_set (i := 4) (qe_mt PySem.F.plainAttrs_str PySem.F.slot_str_rfind PySem.F.type_str_rfind mt_rfind4 mtd_rfind4 (qe_var (pv 0)) (qa_cons (qe_str [32] (by decide +kernel)) (qa_cons (qe_var (pv 1)) (qa_cons (qe_op opr_add opd_add (qe_var (pv 1)) (qe_var (pv 2))) qa_nil)))) sc_piece_end.nd rfl (Or.inl rfl))
      (qss_one (qs_if (qt_cmp op_ge opd_ge (qe_var (pv 4)) (qe_var (pv 1)) (nomark _)) (qss_one (qs_ret (qe_op opr_add opd_add (qe_var (pv 4)) qe_int))) qss_nil))) qss_nil)
      (qss_one (qs_ret (qe_op opr_add opd_add (qe_var (pv 1)) (qe_var (pv 2))))))
def l_laid1 : DS := (dSeq (dAsg 5 (dCall P_piece_end.length F_piece_end [] (vCons (dVar 0) (vCons (dVar 4) (vCons (dVar 1) (vCons (dVar 2) vNil))))))
      (dSeq (dDrop (dMeth 3 mAppend (lCons (dTup (lCons (dVar 4) (lCons (dVar 5) lNil))) lNil)))
      (dAsg 4 (dVar 5))))
def t_laid2 : DS := (dSeq (dDrop (dMeth 3 mAppend (lCons (dTup (lCons (dVar 4) (lCons (dCB fLen (aCons (dVar 0) aNil)) lNil))) lNil)))
      (dRet (dCB fTuple (aCons (dVar 3) aNil))))
def b_laid : DS := (dSeq (dAsg 3 (dLst lNil))
      (dSeq (dAsg 4 (dC (.int 0)))
      (dSeq (dWhile (dBinT fGt (dBin fSub (dCB fLen (aCons (dVar 0) aNil)) (dVar 4)) (dVar 1)) l_laid1)
      t_laid2)))
theorem q_laid {P : Program} {w : World} {K : PySem.W.Frag} {mg : Str → Option Value} {base : Heap} {PL : PoolP} {f : Addr} (D_piece_end : Def P w K mg base PL CX0 1 "_piece_end" s_piece_end [] [] P_piece_end F_piece_end) (z_len : mg "len" = none) (z_tuple : mg "tuple" = none) {cdv : Value} {A : Around} {outer : List Env} {s : Shared} {H : Hp} {E : XK} (hr : Room 1 (A.deeper (envOfC "laid" (defScope s_laid) s.heap.objs.size f cdv))) : QSs (cxOf CX0 P w K mg base N_laid "laid" (defScope s_laid) f cdv A outer s H E).nox PL (defBody s_laid) b_laid := by
  delta b_laid t_laid2 l_laid1
  exact (qss_cons (qs_set (i := 3) (qe_lst ql_nil) sc_laid.nd rfl (Or.inl rfl))
      (qss_cons (qs_set (i := 4) qe_int sc_laid.nd rfl (Or.inl rfl))
      (qss_cons (qs_while (qt_cmp op_gt opd_gt (qe_op op_sub opd_sub (qe_cb cr_lenA cd_len (by rfl) z_len (by decide +kernel) (qa_cons (qe_var (pv 0)) qa_nil)) (qe_var (pv 4))) (qe_var (pv 1)) (nomark _)) (qss_cons (qs_set (i := 5) (qe_call D_piece_end rfl rfl rfl rfl rfl bi_piece_end (qv_cons (qe_var (pv 0)) (qv_cons (qe_var (pv 4)) (qv_cons (qe_var (pv 1)) (qv_cons (qe_var (pv 2)) qv_nil)))) (hr.mono (by decide)) (by rfl) pass0) sc_laid.nd rfl (Or.inl rfl))
      (qss_cons (qs_expr (qe_meth (T := "list") PySem.F.plainAttrs_list PySem.F.slot_list_append PySem.F.type_list_append mt_append mut_append (pv 3) (ql_cons (qe_tup (ql_cons (qe_var (pv 4)) (ql_cons (qe_var (pv 5)) ql_nil))) ql_nil)))
      (qss_one (qs_set (i := 4) (qe_var (pv 5)) sc_laid.nd rfl (Or.inl rfl))))) PassesOwn.never)
      (qss_cons (qs_expr (qe_meth (T := "list") PySem.F.plainAttrs_list PySem.F.slot_list_append PySem.F.type_list_append mt_append mut_append (pv 3) (ql_cons (qe_tup (ql_cons (qe_var (pv 4)) (ql_cons (qe_cb cr_lenA cd_len (by rfl) z_len (by decide +kernel) (qa_cons (qe_var (pv 0)) qa_nil)) ql_nil))) ql_nil)))
      (qss_one (qs_ret (qe_cty call_tuple_of cd_tuple (by rfl) z_tuple (by decide +kernel) (qa_cons (qe_var (pv 3)) qa_nil))))))))
def l_law_pool1 : DS := (dSeq (dIf (dBinT fEq (dVar 4) (dC (.int 0))) dBreak dNext)
      (dSeq (dDrop (dMeth 1 mAppend (lCons (dBin fMod (dCB fInt1 (aCons (dVar 4) aNil)) (dC (.int 420))) lNil)))
      (dAsg 4 (dBin fDiv (dVar 4) (dC (.int 420))))))
def l_law_pool2 : DS := (dSeq (dAsg 4 (dCB fAbs (aCons (dVar 3) aNil)))
      (dSeq (dAsg 2 (dBin fMod (dCB fInt1 (aCons (dBin fAdd (dBin fAdd (dBin fAdd (dBin fMul (dVar 2) (dC (.int 39989))) (dVar 4)) (dBin fMul (dC (.int 3)) (dCB fInt1 (aCons (dBin fLt (dVar 3) (dC (.int 0))) aNil)))) (dC (.int 31))) aNil)) (dC (.int 2147483399))))
      (dIf (dBinT fLt (dVar 4) (dBin fPow (dC (.int 10)) (dC (.int 18)))) (dSeq (dDrop (dMeth 1 mAppend (lCons (dBin fMod (dCB fInt1 (aCons (dBin fAdd (dBin fMul (dVar 4) (dC (.int 5851))) (dBin fDiv (dVar 2) (dC (.int 5)))) aNil)) (dC (.int 1000081))) lNil)))
      (dDrop (dMeth 1 mAppend (lCons (dBin fMod (dCB fInt1 (aCons (dBin fAdd (dBin fDiv (dVar 4) (dC (.int 3))) (dBin fMul (dVar 2) (dC (.int 43)))) aNil)) (dC (.int 943718399))) lNil)))) (dFor (dRng1 (lCons (dC (.int 60)) lNil)) (gN 5) l_law_pool1))))
def t_law_pool3 : DS := (dRet (dLst (lCons (dVar 1) (lCons (dC (.int 0)) (lCons (dVar 2) lNil)))))
def b_law_pool : DS := (dSeq (dAsg 1 (dLst lNil))
      (dSeq (dAsg 2 (dC (.int 6101)))
      (dSeq (dFor (dItems (dVar 0)) (gN 3) l_law_pool2)
      t_law_pool3)))
theorem q_law_pool {P : Program} {w : World} {K : PySem.W.Frag} {mg : Str → Option Value} {base : Heap} {PL : PoolP} {f : Addr} (z_abs : mg "abs" = none) (z_int : mg "int" = none) (z_range : mg "range" = none) {cdv : Value} {A : Around} {outer : List Env} {s : Shared} {H : Hp} {E : XK} (hr : Room 0 (A.deeper (envOfC "_law_pool" (defScope s_law_pool) s.heap.objs.size f cdv))) : QSs (cxOf CX0 P w K mg base N_law_pool "_law_pool" (defScope s_law_pool) f cdv A outer s H E).nox PL (defBody s_law_pool) b_law_pool := by
  delta b_law_pool t_law_pool3 l_law_pool2 l_law_pool1
  exact (qss_cons (qs_set (i := 1) (qe_lst ql_nil) sc_law_pool.nd rfl (Or.inl rfl))
      (qss_cons (qs_set (i := 2) qe_int sc_law_pool.nd rfl (Or.inl rfl))
      (qss_cons (qs_for (qi_any (qe_var (pv 0))) (qg_name (i := 3) sc_law_pool.nd rfl (Or.inl rfl)) (qss_cons (qs_set (i := 4) (qe_cb call_abs cd_abs (by rfl) z_abs (by decide +kernel) (qa_cons (qe_var (pv 3)) qa_nil)) sc_law_pool.nd rfl (Or.inl rfl))
      (qss_cons (qs_set (i := 2) (qe_op op_mod opd_mod (qe_cty call_int1 cd_int1 (by rfl) z_int (by decide +kernel) (qa_cons (qe_op opr_add opd_add (qe_op opr_add opd_add (qe_op opr_add opd_add (qe_op opr_mul opd_mul (qe_var (pv 2)) qe_int) (qe_var (pv 4))) (qe_op opr_mul opd_mul qe_int (qe_cty call_int1 cd_int1 (by rfl) z_int (by decide +kernel) (qa_cons (qe_cmp op_lt opd_lt (qe_var (pv 3)) qe_int (nomark _)) qa_nil)))) qe_int) qa_nil)) qe_int) sc_law_pool.nd rfl (Or.inl rfl))
      (qss_one (qs_if (qt_cmp op_lt opd_lt (qe_var (pv 4)) (qe_op op_pow opd_pow qe_int qe_int) (nomark _)) (qss_cons (qs_expr (qe_meth (T := "list") PySem.F.plainAttrs_list PySem.F.slot_list_append PySem.F.type_list_append mt_append mut_append (pv 1) (ql_cons (qe_op op_mod opd_mod (qe_cty call_int1 cd_int1 (by rfl) z_int (by decide +kernel) (qa_cons (qe_op opr_add opd_add (qe_op opr_mul opd_mul (qe_var (pv 4)) qe_int) (qe_op op_fdiv opd_div (qe_var (pv 2)) qe_int)) qa_nil)) qe_int) ql_nil)))
      (qss_one (qs_expr (qe_meth (T := "list") PySem.F.plainAttrs_list PySem.F.slot_list_append PySem.F.type_list_append mt_append mut_append (pv 1) (ql_cons (qe_op op_mod opd_mod (qe_cty call_int1 cd_int1 (by rfl) z_int (by decide +kernel) (qa_cons (qe_op opr_add opd_add (qe_op op_fdiv opd_div (qe_var (pv 4)) qe_int) (qe_op opr_mul opd_mul (qe_var (pv 2)) qe_int)) qa_nil)) qe_int) ql_nil))))) (qss_one (qs_for (qi_rng1 (ql_cons qe_int ql_nil) (by rfl) z_range) (qg_name (i := 5) sc_law_pool.nd rfl (Or.inl rfl)) (qss_cons (qs_if (qt_cmp (opr_eq hr.units) opd_eq (qe_var (pv 4)) qe_int (nomark _)) (qss_one qs_break) qss_nil)
      (qss_cons (qs_expr (qe_meth (T := "list") PySem.F.plainAttrs_list PySem.F.slot_list_append PySem.F.type_list_append mt_append mut_append (pv 1) (ql_cons (qe_op op_mod opd_mod (qe_cty call_int1 cd_int1 (by rfl) z_int (by decide +kernel) (qa_cons (qe_var (pv 4)) qa_nil)) qe_int) ql_nil)))
      (qss_one (qs_set (i := 4) (qe_op op_fdiv opd_div (qe_var (pv 4)) qe_int) sc_law_pool.nd rfl (Or.inl rfl))))) PassesOwn.never rfl)))))) PassesOwn.never rfl)
      (qss_one (qs_ret (qe_lst (ql_cons (qe_var (pv 1)) (ql_cons qe_int (ql_cons (qe_var (pv 2)) ql_nil)))))))))
def b_law_next : DS := (dSeq (dIf (dBinT fLt (dBin fIx (dVar 0) (dC (.int 1))) (dCB fLen (aCons (dBin fIx (dVar 0) (dC (.int 0))) aNil))) (dSeq (dSetIx 0 (dC (.int 1)) (dBin fAdd (dBin fIx (dVar 0) (dC (.int 1))) (dC (.int 1))))
      (dRet (dBin fMod (dCB fInt1 (aCons (dBin fIx (dBin fIx (dVar 0) (dC (.int 0))) (dBin fSub (dBin fIx (dVar 0) (dC (.int 1))) (dC (.int 1)))) aNil)) (dVar 1)))) dNext)
      (dSeq (dSetIx 0 (dC (.int 2)) (dBin fMod (dCB fInt1 (aCons (dBin fAdd (dBin fMul (dBin fIx (dVar 0) (dC (.int 2))) (dC (.int 48271))) (dC (.int 13))) aNil)) (dC (.int 2147483647))))
      (dRet (dBin fMod (dCB fInt1 (aCons (dBin fDiv (dBin fIx (dVar 0) (dC (.int 2))) (dC (.int 16))) aNil)) (dVar 1)))))
theorem q_law_next {P : Program} {w : World} {K : PySem.W.Frag} {mg : Str → Option Value} {base : Heap} {PL : PoolP} {f : Addr} (z_int : mg "int" = none) (z_len : mg "len" = none) {cdv : Value} {A : Around} {outer : List Env} {s : Shared} {H : Hp} {E : XK} (hr : Room 0 (A.deeper (envOfC "_law_next" (defScope s_law_next) s.heap.objs.size f cdv))) : QSs (cxOf CX0 P w K mg base N_law_next "_law_next" (defScope s_law_next) f cdv A outer s H E).nox PL (defBody s_law_next) b_law_next := by
  delta b_law_next
  exact (qss_cons (qs_if (qt_cmp op_lt opd_lt (qe_ix ix_seq opd_ix (qe_var (pv 0)) qe_int (fun _ _ => rfl)) (qe_cb cr_lenA cd_len (by rfl) z_len (by decide +kernel) (qa_cons (qe_ix ix_seq opd_ix (qe_var (pv 0)) qe_int (fun _ _ => rfl)) qa_nil)) (nomark _)) (qss_cons (qs_setIx (qe_op opr_add opd_add (qe_ix ix_seq opd_ix (qe_var (pv 0)) qe_int (fun _ _ => rfl)) qe_int) (pv 0) qe_int)
      (qss_one (qs_ret (qe_op op_mod opd_mod (qe_cty call_int1 cd_int1 (by rfl) z_int (by decide +kernel) (qa_cons (qe_ix ix_seq opd_ix (qe_ix ix_seq opd_ix (qe_var (pv 0)) qe_int (fun _ _ => rfl)) (qe_op op_sub opd_sub (qe_ix ix_seq opd_ix (qe_var (pv 0)) qe_int (fun _ _ => rfl)) qe_int) (fun _ _ => rfl)) qa_nil)) (qe_var (pv 1)))))) qss_nil)
      (qss_cons (qs_setIx (qe_op op_mod opd_mod (qe_cty call_int1 cd_int1 (by rfl) z_int (by decide +kernel) (qa_cons (qe_op opr_add opd_add (qe_op opr_mul opd_mul (qe_ix ix_seq opd_ix (qe_var (pv 0)) qe_int (fun _ _ => rfl)) qe_int) qe_int) qa_nil)) qe_int) (pv 0) qe_int)
      (qss_one (qs_ret (qe_op op_mod opd_mod (qe_cty call_int1 cd_int1 (by rfl) z_int (by decide +kernel) (qa_cons (qe_op op_fdiv opd_div (qe_ix ix_seq opd_ix (qe_var (pv 0)) qe_int (fun _ _ => rfl)) qe_int) qa_nil)) (qe_var (pv 1)))))))
def b_law_signs : DS := (dSeq (dAsg 0 (dC (.str [10, 32, 33, 34, 35, 36, 38, 39, 40, 41, 42, 43, 44, 45, 46, 47, 48, 49, 50, 51, 52, 53, 54, 55, 56, 57, 58, 59, 60, 61, 62, 63, 64, 65, 66, 67, 68, 69, 70, 71, 72, 73, 74, 75, 76, 77, 78, 79, 80, 81, 82, 83, 84, 85, 86, 87, 88, 89, 90, 91, 92, 93, 94, 95, 96])))
      (dRet (dBin fAdd (dVar 0) (dC (.str [97, 98, 99, 100, 101, 102, 103, 104, 105, 106, 107, 108, 109, 110, 111, 112, 113, 114, 115, 116, 117, 118, 119, 120, 121, 122, 123, 124, 125, 126])))))
theorem q_law_signs {P : Program} {w : World} {K : PySem.W.Frag} {mg : Str → Option Value} {base : Heap} {PL : PoolP} {f : Addr}  {cdv : Value} {A : Around} {outer : List Env} {s : Shared} {H : Hp} {E : XK} (hr : Room 0 (A.deeper (envOfC "_law_signs" (defScope s_law_signs) s.heap.objs.size f cdv))) : QSs (cxOf CX0 P w K mg base N_law_signs "_law_signs" (defScope s_law_signs) f cdv A outer s H E).nox PL (defBody s_law_signs) b_law_signs := by
  delta b_law_signs
  exact (qss_cons (qs_set (i := 0) (qe_str [10, 32, 33, 34, 35, 36, 38, 39, 40, 41, 42, 43, 44, 45, 46, 47, 48, 49, 50, 51, 52, 53, 54, 55, 56, 57, 58, 59, 60, 61, 62, 63, 64, 65, 66, 67, 68, 69, 70, 71, 72, 73, 74, 75, 76, 77, 78, 79, 80, 81, 82, 83, 84, 85, 86, 87, 88, 89, 90, 91, 92, 93, 94, 95, 96] (by decide +kernel)) sc_law_signs.nd rfl (Or.inl rfl))
      (qss_one (qs_ret (qe_op opr_add opd_add (qe_var (pv 0)) (qe_str [97, 98, 99, 100, 101, 102, 103, 104, 105, 106, 107, 108, 109, 110, 111, 112, 113, 114, 115, 116, 117, 118, 119, 120, 121, 122, 123, 124, 125, 126] (by decide +kernel))))))
def l_law_same1 (F_law_same' : FS) : DS := (dIf (dNot (dTru (dCall P_law_same.length F_law_same' [] (vCons (dBin fIx (dVar 0) (dVar 2)) (vCons (dBin fIx (dVar 1) (dVar 2)) vNil))))) (dRet (dC (.bl false))) dNext)
def t_law_same2 (F_law_same' : FS) : DS := (dRet (dC (.bl true)))
def t_law_same3 (F_law_same' : FS) : DS := (dSeq (dIf (dBinT fNe (dCB fLen (aCons (dVar 0) aNil)) (dCB fLen (aCons (dVar 1) aNil))) (dRet (dC (.bl false))) dNext)
      (dSeq (dFor (dRng1 (lCons (dCB fLen (aCons (dVar 1) aNil)) lNil)) (gN 2) (l_law_same1 F_law_same'))
      (t_law_same2 F_law_same')))
def b_law_same (F_law_same' : FS) : DS := (dSeq (dIf (dBinT (fIsN false) (dVar 1) (dC .non)) (dRet (dBin (fIsN false) (dVar 0) (dC .non))) dNext)
      (dSeq (dIf (dBinT (fIsB true) (dVar 1) (dC (.bl true))) (dRet (dBin (fIsB true) (dVar 0) (dC (.bl true)))) dNext)
      (dSeq (dIf (dBinT (fIsB false) (dVar 1) (dC (.bl false))) (dRet (dBin (fIsB false) (dVar 0) (dC (.bl false)))) dNext)
      (dSeq (dIf (dTru (dIsi "int" (dVar 1))) (dRet (dAndV (dIsi "int" (dVar 0)) (dAndV (dNotV (dIsi "bool" (dVar 0))) (dBin fEq (dVar 0) (dVar 1))))) dNext)
      (dSeq (dIf (dTru (dIsi "str" (dVar 1))) (dRet (dAndV (dIsi "str" (dVar 0)) (dBin fEq (dVar 0) (dVar 1)))) dNext)
      (dSeq (dIf (dTru (dIsi "list" (dVar 1))) (dIf (dNot (dTru (dIsi "list" (dVar 0)))) (dRet (dC (.bl false))) dNext) (dIf (dNot (dTru (dIsi "tuple" (dVar 0)))) (dRet (dC (.bl false))) dNext))
      (t_law_same3 F_law_same')))))))
theorem q_law_same {P : Program} {w : World} {K : PySem.W.Frag} {mg : Str → Option Value} {base : Heap} {PL : PoolP} {k : Nat} {F_law_same' : FS} (hk : 0 ≤ k) {f : Addr} (D_law_same : Def P w K mg base PL CX0 k "_law_same" s_law_same [] [] P_law_same F_law_same') (z_bool : mg "bool" = none) (z_int : mg "int" = none) (z_isinstance : mg "isinstance" = none) (z_len : mg "len" = none) (z_list : mg "list" = none) (z_range : mg "range" = none) (z_str : mg "str" = none) (z_tuple : mg "tuple" = none) {cdv : Value} {A : Around} {outer : List Env} {s : Shared} {H : Hp} {E : XK} (hr : Room k (A.deeper (envOfC "_law_same" (defScope s_law_same) s.heap.objs.size f cdv))) : QSs (cxOf CX0 P w K mg base N_law_same "_law_same" (defScope s_law_same) f cdv A outer s H E).nox PL (defBody s_law_same) (b_law_same F_law_same') := by
  delta b_law_same t_law_same3 t_law_same2 l_law_same1
  exact (qss_cons (qs_if (qt_cmp op_isN opd_isN (qe_var (pv 1)) qe_non (nomark _)) (qss_one (qs_ret (qe_cmp op_isN opd_isN (qe_var (pv 0)) qe_non (nomark _)))) qss_nil)
      (qss_cons (qs_if (qt_cmp (op_isB (v := true)) (opd_isB (v := true)) (qe_var (pv 1)) qe_bl (nomark _)) (qss_one (qs_ret (qe_cmp (op_isB (v := true)) (opd_isB (v := true)) (qe_var (pv 0)) qe_bl (nomark _)))) qss_nil)
      (qss_cons (qs_if (qt_cmp (op_isB (v := false)) (opd_isB (v := false)) (qe_var (pv 1)) qe_bl (nomark _)) (qss_one (qs_ret (qe_cmp (op_isB (v := false)) (opd_isB (v := false)) (qe_var (pv 0)) qe_bl (nomark _)))) qss_nil)
      (qss_cons (qs_if (qt_val (qe_isi (T := "int") (by decide +kernel) (by rfl) z_isinstance (by rfl) z_int (by decide +kernel) (qe_var (pv 1)))) (qss_one (qs_ret (qe_and (qe_isi (T := "int") (by decide +kernel) (by rfl) z_isinstance (by rfl) z_int (by decide +kernel) (qe_var (pv 0))) (qe_and (qe_not (qe_isi (T := "bool") (by decide +kernel) (by rfl) z_isinstance (by rfl) z_bool (by decide +kernel) (qe_var (pv 0)))) (qe_one (qe_cmp (opr_eq hr.units) opd_eq (qe_var (pv 0)) (qe_var (pv 1)) (nomark _))))))) qss_nil)
      (qss_cons (qs_if (qt_val (qe_isi (T := "str") (by decide +kernel) (by rfl) z_isinstance (by rfl) z_str (by decide +kernel) (qe_var (pv 1)))) (qss_one (qs_ret (qe_and (qe_isi (T := "str") (by decide +kernel) (by rfl) z_isinstance (by rfl) z_str (by decide +kernel) (qe_var (pv 0))) (qe_one (qe_cmp (opr_eq hr.units) opd_eq (qe_var (pv 0)) (qe_var (pv 1)) (nomark _)))))) qss_nil)
      (qss_cons (qs_if (qt_val (qe_isi (T := "list") (by decide +kernel) (by rfl) z_isinstance (by rfl) z_list (by decide +kernel) (qe_var (pv 1)))) (qss_one (qs_if (qt_not (qt_val (qe_isi (T := "list") (by decide +kernel) (by rfl) z_isinstance (by rfl) z_list (by decide +kernel) (qe_var (pv 0))))) (qss_one (qs_ret qe_bl)) qss_nil)) (qss_one (qs_if (qt_not (qt_val (qe_isi (T := "tuple") (by decide +kernel) (by rfl) z_isinstance (by rfl) z_tuple (by decide +kernel) (qe_var (pv 0))))) (qss_one (qs_ret qe_bl)) qss_nil)))
      (qss_cons (qs_if (qt_cmp (opr_ne hr.units) opd_ne (qe_cb cr_lenA cd_len (by rfl) z_len (by decide +kernel) (qa_cons (qe_var (pv 0)) qa_nil)) (qe_cb cr_lenA cd_len (by rfl) z_len (by decide +kernel) (qa_cons (qe_var (pv 1)) qa_nil)) (nomark _)) (qss_one (qs_ret qe_bl)) qss_nil)
      (qss_cons (qs_for (qi_rng1 (ql_cons (qe_cb cr_lenA cd_len (by rfl) z_len (by decide +kernel) (qa_cons (qe_var (pv 1)) qa_nil)) ql_nil) (by rfl) z_range) (qg_name (i := 2) sc_law_same.nd rfl (Or.inl rfl)) (qss_one (qs_if (qt_not (qt_val (qe_call D_law_same rfl rfl rfl rfl rfl bi_law_same (qv_cons (qe_ix ix_seq opd_ix (qe_var (pv 0)) (qe_var (pv 2)) (fun _ _ => rfl)) (qv_cons (qe_ix ix_seq opd_ix (qe_var (pv 1)) (qe_var (pv 2)) (fun _ _ => rfl)) qv_nil)) hr (by rfl) pass0))) (qss_one (qs_ret qe_bl)) qss_nil)) PassesOwn.never rfl)
      (qss_one (qs_ret qe_bl))))))))))
def l_law_band1 : DS := (dIf (dBinT fEq (dCall P_law_next.length F_law_next [] (vOwn 0 (vCons (dBin fAdd (dC (.int 1)) (dVar 4)) vNil))) (dC (.int 0))) (dAsg 6 (dBin fAdd (dVar 6) (dC (.str [32])))) (dIf (dBinT fEq (dCall P_law_next.length F_law_next [] (vOwn 0 (vCons (dC (.int 4)) vNil))) (dC (.int 0))) (dAsg 6 (dBin fAdd (dVar 6) (dBin fIx (dVar 2) (dBin fAdd (dC (.int 1)) (dCall P_law_next.length F_law_next [] (vOwn 0 (vCons (dC (.int 94)) vNil))))))) (dAsg 6 (dBin fAdd (dVar 6) (dVar 5)))))
def t_law_band2 : DS := (dRet (dVar 6))
def t_law_band3 : DS := (dSeq (dIf (dBinT fEq (dCall P_law_next.length F_law_next [] (vOwn 0 (vCons (dC (.int 6)) vNil))) (dC (.int 0))) (dAsg 6 (dBin fAdd (dVar 6) (dBin fMul (dC (.str [32])) (dCall P_law_next.length F_law_next [] (vOwn 0 (vCons (dBin fAdd (dVar 1) (dC (.int 2))) vNil)))))) dNext)
      t_law_band2)
def t_law_band4 : DS := (dSeq (dAsg 4 (dBin fAdd (dC (.int 1)) (dCall P_law_next.length F_law_next [] (vOwn 0 (vCons (dC (.int 9)) vNil)))))
      (dSeq (dAsg 5 (dBin fIx (dVar 2) (dBin fAdd (dC (.int 1)) (dCall P_law_next.length F_law_next [] (vOwn 0 (vCons (dC (.int 94)) vNil))))))
      (dSeq (dAsg 6 (dC (.str [])))
      (dSeq (dFor (dRng1 (lCons (dVar 3) lNil)) (gN 7) l_law_band1)
      t_law_band3))))
def b_law_band : DS := (dSeq (dAsg 2 (dCall P_law_signs.length F_law_signs [] vNil))
      (dSeq (dAsg 3 (dCall P_law_next.length F_law_next [] (vOwn 0 (vCons (dBin fAdd (dBin fMul (dC (.int 3)) (dVar 1)) (dC (.int 3))) vNil))))
      (dSeq (dIf (dBinT fEq (dCall P_law_next.length F_law_next [] (vOwn 0 (vCons (dC (.int 20)) vNil))) (dC (.int 0))) (dAsg 3 (dBin fAdd (dC (.int 200)) (dCall P_law_next.length F_law_next [] (vOwn 0 (vCons (dC (.int 200)) vNil))))) dNext)
      t_law_band4)))
theorem q_law_band {P : Program} {w : World} {K : PySem.W.Frag} {mg : Str → Option Value} {base : Heap} {PL : PoolP} {f : Addr} (D_law_signs : Def P w K mg base PL CX0 1 "_law_signs" s_law_signs [] [] P_law_signs F_law_signs) (D_law_next : Def P w K mg base PL CX0 1 "_law_next" s_law_next [] [] P_law_next F_law_next) (z_range : mg "range" = none) {cdv : Value} {A : Around} {outer : List Env} {s : Shared} {H : Hp} {E : XK} (hr : Room 1 (A.deeper (envOfC "_law_band" (defScope s_law_band) s.heap.objs.size f cdv))) : QSs (cxOf CX0 P w K mg base N_law_band "_law_band" (defScope s_law_band) f cdv A outer s H E).nox PL (defBody s_law_band) b_law_band := by
  delta b_law_band t_law_band4 t_law_band3 t_law_band2 l_law_band1
  exact (qss_cons (qs_set (i := 2) (qe_call0 D_law_signs rfl rfl rfl rfl rfl bi_law_signs (hr.mono (by decide)) (by rfl) pass0) sc_law_band.nd rfl (Or.inl rfl))
      (qss_cons (qs_set (i := 3) (qe_call D_law_next rfl rfl rfl rfl rfl bi_law_next (qv_own (pv 0) (qv_cons (qe_op opr_add opd_add (qe_op opr_mul opd_mul qe_int (qe_var (pv 1))) qe_int) qv_nil)) (hr.mono (by decide)) (by rfl) pass0) sc_law_band.nd rfl (Or.inl rfl))
      (qss_cons (qs_if (qt_cmp (opr_eq hr.units) opd_eq (qe_call D_law_next rfl rfl rfl rfl rfl bi_law_next (qv_own (pv 0) (qv_cons qe_int qv_nil)) (hr.mono (by decide)) (by rfl) pass0) qe_int (nomark _)) (qss_one (qs_set (i := 3) (qe_op opr_add opd_add qe_int (qe_call D_law_next rfl rfl rfl rfl rfl bi_law_next (qv_own (pv 0) (qv_cons qe_int qv_nil)) (hr.mono (by decide)) (by rfl) pass0)) sc_law_band.nd rfl (Or.inl rfl))) qss_nil)
      (qss_cons (qs_set (i := 4) (qe_op opr_add opd_add qe_int (qe_call D_law_next rfl rfl rfl rfl rfl bi_law_next (qv_own (pv 0) (qv_cons qe_int qv_nil)) (hr.mono (by decide)) (by rfl) pass0)) sc_law_band.nd rfl (Or.inl rfl))
      (qss_cons (qs_set (i := 5) (qe_ix ix_seq opd_ix (qe_var (pv 2)) (qe_op opr_add opd_add qe_int (qe_call D_law_next rfl rfl rfl rfl rfl bi_law_next (qv_own (pv 0) (qv_cons qe_int qv_nil)) (hr.mono (by decide)) (by rfl) pass0)) (fun _ _ => rfl)) sc_law_band.nd rfl (Or.inl rfl))
      (qss_cons (qs_set (i := 6) (qe_str [] (by decide +kernel)) sc_law_band.nd rfl (Or.inl rfl))
      (qss_cons (qs_for (qi_rng1 (ql_cons (qe_var (pv 3)) ql_nil) (by rfl) z_range) (qg_name (i := 7) sc_law_band.nd rfl (Or.inl rfl)) (qss_one (qs_if (qt_cmp (opr_eq hr.units) opd_eq (qe_call D_law_next rfl rfl rfl rfl rfl bi_law_next (qv_own (pv 0) (qv_cons (qe_op opr_add opd_add qe_int (qe_var (pv 4))) qv_nil)) (hr.mono (by decide)) (by rfl) pass0) qe_int (nomark _)) (qss_one (qs_set (i := 6) (qe_op opr_add opd_add (qe_var (pv 6)) (qe_str [32] (by decide +kernel))) sc_law_band.nd rfl (Or.inl rfl))) (qss_one (qs_if (qt_cmp (opr_eq hr.units) opd_eq (qe_call D_law_next rfl rfl rfl rfl rfl bi_law_next (qv_own (pv 0) (qv_cons qe_int qv_nil)) (hr.mono (by decide)) (by rfl) pass0) qe_int (nomark _)) (qss_one (qs_set (i := 6) (qe_op opr_add opd_add (qe_var (pv 6)) (qe_ix ix_seq opd_ix (qe_var (pv 2)) (qe_op opr_add opd_add qe_int (qe_call D_law_next rfl rfl rfl rfl rfl bi_law_next (qv_own (pv 0) (qv_cons qe_int qv_nil)) (hr.mono (by decide)) (by rfl) pass0)) (fun _ _ => rfl))) sc_law_band.nd rfl (Or.inl rfl))) (qss_one (qs_set (i := 6) (qe_op opr_add opd_add (qe_var (pv 6)) (qe_var (pv 5))) sc_law_band.nd rfl (Or.inl rfl))))))) PassesOwn.never rfl)
      (qss_cons (qs_if (qt_cmp (opr_eq hr.units) opd_eq (qe_call D_law_next rfl rfl rfl rfl rfl bi_law_next (qv_own (pv 0) (qv_cons qe_int qv_nil)) (hr.mono (by decide)) (by rfl) pass0) qe_int (nomark _)) (qss_one (qs_set (i := 6) (qe_op opr_add opd_add (qe_var (pv 6)) (qe_op opr_mul opd_mul (qe_str [32] (by decide +kernel)) (qe_call D_law_next rfl rfl rfl rfl rfl bi_law_next (qv_own (pv 0) (qv_cons (qe_op opr_add opd_add (qe_var (pv 1)) qe_int) qv_nil)) (hr.mono (by decide)) (by rfl) pass0))) sc_law_band.nd rfl (Or.inl rfl))) qss_nil)
      (qss_one (qs_ret (qe_var (pv 6))))))))))))
def b_law_let : DS := (dSeq (dIf (dOr (dBinT fGt (dBin fSub (dVar 4) (dVar 3)) (dVar 1)) (dBinT fLe (dVar 4) (dVar 3))) (dRet (dC (.bl false))) dNext)
      (dSeq (dIf (dOr (dNot (dTru (dVar 2))) (dBinT fEq (dBin fIx (dVar 0) (dBin fSub (dVar 4) (dC (.int 1)))) (dC (.str [32])))) (dRet (dC (.bl true))) dNext)
      (dRet (dAndV (dBin fEq (dBin fSub (dVar 4) (dVar 3)) (dVar 1)) (dBin (fIn true) (dC (.str [32])) (dSl (dVar 0) (dPart (dVar 3)) (dPart (dVar 4))))))))
theorem q_law_let {P : Program} {w : World} {K : PySem.W.Frag} {mg : Str → Option Value} {base : Heap} {PL : PoolP} {f : Addr}  {cdv : Value} {A : Around} {outer : List Env} {s : Shared} {H : Hp} {E : XK} (hr : Room 0 (A.deeper (envOfC "_law_let" (defScope s_law_let) s.heap.objs.size f cdv))) : QSs (cxOf CX0 P w K mg base N_law_let "_law_let" (defScope s_law_let) f cdv A outer s H E).nox PL (defBody s_law_let) b_law_let := by
  delta b_law_let
  exact (qss_cons (qs_if (QW.t (qw_or (qt_cmp op_gt opd_gt (qe_op op_sub opd_sub (qe_var (pv 4)) (qe_var (pv 3))) (qe_var (pv 1)) (nomark _)) (qw_or1 (qt_cmp op_le opd_le (qe_var (pv 4)) (qe_var (pv 3)) (nomark _))))) (qss_one (qs_ret qe_bl)) qss_nil)
      (qss_cons (qs_if (QW.t (qw_or (qt_not (qt_val (qe_var (pv 2)))) (qw_or1 (qt_cmp (opr_eq hr.units) opd_eq (qe_ix ix_seq opd_ix (qe_var (pv 0)) (qe_op op_sub opd_sub (qe_var (pv 4)) qe_int) (fun _ _ => rfl)) (qe_str [32] (by decide +kernel)) (nomark _))))) (qss_one (qs_ret qe_bl)) qss_nil)
      (qss_one (qs_ret (qe_and (qe_cmp (opr_eq hr.units) opd_eq (qe_op op_sub opd_sub (qe_var (pv 4)) (qe_var (pv 3))) (qe_var (pv 1)) (nomark _)) (qe_one (qe_cmp opr_notIn (opd_in (neg := true)) (qe_str [32] (by decide +kernel)) (qe_sl (qe_var (pv 0)) (qo_some (qe_var (pv 3))) (qo_some (qe_var (pv 4)))) rfl)))))))
def l_law_due1 : DS := (dIf (dAnd (dTru (dBin fIx (dVar 4) (dVar 11))) (dTru (dCall P_law_let.length F_law_let [] (vCons (dVar 0) (vCons (dVar 1) (vCons (dVar 2) (vCons (dVar 10) (vCons (dVar 11) vNil)))))))) (dSetIx 4 (dVar 10) (dC (.bl true))) dNext)
def l_law_due2 : DS := (dSeq (dAsg 10 (dBin fSub (dVar 3) (dVar 5)))
      (dSeq (dSetIx 4 (dVar 10) (dBin fLe (dVar 5) (dVar 1)))
      (dFor (dRng2 (lCons (dBin fAdd (dVar 10) (dC (.int 1))) (lCons (dBin fAdd (dCB fMin2 (aCons (dVar 3) (aCons (dBin fAdd (dVar 10) (dVar 1)) aNil))) (dC (.int 1))) lNil))) (gN 11) l_law_due1)))
def l_law_due3 : DS := (dIf (dAnd (dTru (dBin fIx (dVar 4) (dVar 11))) (dTru (dCall P_law_let.length F_law_let [] (vCons (dVar 0) (vCons (dVar 1) (vCons (dVar 2) (vCons (dVar 10) (vCons (dVar 11) vNil)))))))) (dSetIx 12 (dVar 11) (dC (.bl true))) dNext)
def l_law_due4 : DS := (dFor (dRng2 (lCons (dBin fAdd (dVar 10) (dC (.int 1))) (lCons (dBin fAdd (dCB fMin2 (aCons (dVar 3) (aCons (dBin fAdd (dVar 10) (dVar 1)) aNil))) (dC (.int 1))) lNil))) (gN 11) l_law_due3)
def t_law_due5 : DS := (dSeq (dAsg 6 (dLc (dRng1 (lCons (dBin fAdd (dVar 3) (dC (.int 1))) lNil)) (gN 11) (dTru (dBin fIx (dVar 12) (dVar 11))) (dVar 11) [11]))
      (dDrop (dMeth 7 mAppend (lCons (dBin fIx (dVar 6) (dUn fNeg (dC (.int 1)))) lNil))))
def l_law_due6 : DS := (dSeq (dIf (dBinT fGt (dCB fLen (aCons (dLc (dItems (dVar 6)) (gN 10) (dBinT fLe (dBin fSub (dVar 3) (dVar 10)) (dVar 1)) (dVar 10) [10]) aNil)) (dC (.int 0))) dBreak dNext)
      (dSeq (dAsg 12 (dBin fMul (dLst (lCons (dC (.bl false)) lNil)) (dBin fAdd (dVar 3) (dC (.int 1)))))
      (dSeq (dFor (dItems (dVar 6)) (gN 10) l_law_due4)
      t_law_due5)))
def t_law_due7 : DS := (dSeq (dAsg 9 (dBin fAdd (dVar 7) (dLst (lCons (dVar 3) lNil))))
      (dRet (dCB fTuple (aCons (dLc (dRng1 (lCons (dCB fLen (aCons (dVar 9) aNil)) lNil)) (gN 13) dYes (dTup (lCons (dBin fIx (dBin fAdd (dLst (lCons (dC (.int 0)) lNil)) (dVar 9)) (dVar 13)) (lCons (dBin fIx (dVar 9) (dVar 13)) lNil))) [13]) aNil))))
def t_law_due8 : DS := (dSeq (dAsg 6 (dLst (lCons (dC (.int 0)) lNil)))
      (dSeq (dAsg 7 (dLst lNil))
      (dSeq (dFor (dRng1 (lCons (dBin fAdd (dVar 3) (dC (.int 1))) lNil)) (gN 8) l_law_due6)
      t_law_due7)))
def b_law_due : DS := (dSeq (dAsg 3 (dCB fLen (aCons (dVar 0) aNil)))
      (dSeq (dAsg 4 (dBin fMul (dLst (lCons (dC (.bl false)) lNil)) (dBin fAdd (dVar 3) (dC (.int 1)))))
      (dSeq (dFor (dRng1 (lCons (dBin fAdd (dVar 3) (dC (.int 1))) lNil)) (gN 5) l_law_due2)
      t_law_due8)))
theorem q_law_due {P : Program} {w : World} {K : PySem.W.Frag} {mg : Str → Option Value} {base : Heap} {PL : PoolP} {f : Addr} (D_law_let : Def P w K mg base PL CX0 1 "_law_let" s_law_let [] [] P_law_let F_law_let) (z_len : mg "len" = none) (z_min : mg "min" = none) (z_range : mg "range" = none) (z_tuple : mg "tuple" = none) {cdv : Value} {A : Around} {outer : List Env} {s : Shared} {H : Hp} {E : XK} (hr : Room 1 (A.deeper (envOfC "_law_due" (defScope s_law_due) s.heap.objs.size f cdv))) : QSs (cxOf CX0 P w K mg base N_law_due "_law_due" (defScope s_law_due) f cdv A outer s H E).nox PL (defBody s_law_due) b_law_due := by
  delta b_law_due t_law_due8 t_law_due7 l_law_due6 t_law_due5 l_law_due4 l_law_due3 l_law_due2 l_law_due1
  exact (qss_cons (qs_set (i := 3) (qe_cb cr_lenA cd_len (by rfl) z_len (by decide +kernel) (qa_cons (qe_var (pv 0)) qa_nil)) sc_law_due.nd rfl (Or.inr rfl))
      (qss_cons (qs_set (i := 4) (qe_op opr_mul opd_mul (qe_lst (ql_cons qe_bl ql_nil)) (qe_op opr_add opd_add (qe_var (pv 3)) qe_int)) sc_law_due.nd rfl (Or.inl rfl))
      (qss_cons (qs_for (qi_rng1 (ql_cons (qe_op opr_add opd_add (qe_var (pv 3)) qe_int) ql_nil) (by rfl) z_range) (qg_name (i := 5) sc_law_due.nd rfl (Or.inl rfl)) (qss_cons (qs_set (i := 10) (qe_op op_sub opd_sub (qe_var (pv 3)) (qe_var (pv 5))) sc_law_due.nd rfl (Or.inl rfl))
      (qss_cons (qs_setIx (qe_cmp op_le opd_le (qe_var (pv 5)) (qe_var (pv 1)) (nomark _)) (pv 4) (qe_var (pv 10)))
      (qss_one (qs_for (qi_rng2 (ql_cons (qe_op opr_add opd_add (qe_var (pv 10)) qe_int) (ql_cons (qe_op opr_add opd_add (qe_cb (call_min2 rfl) cd_min2 (by rfl) z_min (by decide +kernel) (qa_cons (qe_var (pv 3)) (qa_cons (qe_op opr_add opd_add (qe_var (pv 10)) (qe_var (pv 1))) qa_nil))) qe_int) ql_nil)) (by rfl) z_range) (qg_name (i := 11) sc_law_due.nd rfl (Or.inl rfl)) (qss_one (qs_if (QW.t (qw_and (qt_val (qe_ix ix_seq opd_ix (qe_var (pv 4)) (qe_var (pv 11)) (fun _ _ => rfl))) (qw_and1 (qt_val (qe_call D_law_let rfl rfl rfl rfl rfl bi_law_let (qv_cons (qe_var (pv 0)) (qv_cons (qe_var (pv 1)) (qv_cons (qe_var (pv 2)) (qv_cons (qe_var (pv 10)) (qv_cons (qe_var (pv 11)) qv_nil))))) (hr.mono (by decide)) (by rfl) pass0))))) (qss_one (qs_setIx qe_bl (pv 4) (qe_var (pv 10)))) qss_nil)) PassesOwn.never rfl)))) PassesOwn.never rfl)
      (qss_cons (qs_set (i := 6) (qe_lst (ql_cons qe_int ql_nil)) sc_law_due.nd rfl (Or.inl rfl))
      (qss_cons (qs_set (i := 7) (qe_lst ql_nil) sc_law_due.nd rfl (Or.inl rfl))
      (qss_cons (qs_for (qi_rng1 (ql_cons (qe_op opr_add opd_add (qe_var (pv 3)) qe_int) ql_nil) (by rfl) z_range) (qg_name (i := 8) sc_law_due.nd rfl (Or.inl rfl)) (qss_cons (qs_if (qt_cmp op_gt opd_gt (qe_cb cr_lenA cd_len (by rfl) z_len (by decide +kernel) (qa_cons (qe_lc (own := [("low", 10)]) (qi_any (qe_var (pv 6))) (ng_name (i := 10) (by decide)) rfl sc_law_due.nd (blkOk_by (N := N_law_due) (sc := defScope s_law_due) (by decide +kernel)) (fun _ _ _ _ _ => (pg_name (i := 10) sc_law_due.nd rfl (Or.inl rfl))) (fun _ _ _ _ _ => (qts_one (qt_cmp op_le opd_le (qe_op op_sub opd_sub (qe_var (pv 3)) (qe_var (pv 10))) (qe_var (pv 1)) (nomark _)))) (fun _ _ _ _ _ => (qe_var (pv 10)))) qa_nil)) qe_int (nomark _)) (qss_one qs_break) qss_nil)
      (qss_cons (qs_set (i := 12) (qe_op opr_mul opd_mul (qe_lst (ql_cons qe_bl ql_nil)) (qe_op opr_add opd_add (qe_var (pv 3)) qe_int)) sc_law_due.nd rfl (Or.inr rfl))
      (qss_cons (qs_for (qi_any (qe_var (pv 6))) (qg_name (i := 10) sc_law_due.nd rfl (Or.inl rfl)) (qss_one (qs_for (qi_rng2 (ql_cons (qe_op opr_add opd_add (qe_var (pv 10)) qe_int) (ql_cons (qe_op opr_add opd_add (qe_cb (call_min2 rfl) cd_min2 (by rfl) z_min (by decide +kernel) (qa_cons (qe_var (pv 3)) (qa_cons (qe_op opr_add opd_add (qe_var (pv 10)) (qe_var (pv 1))) qa_nil))) qe_int) ql_nil)) (by rfl) z_range) (qg_name (i := 11) sc_law_due.nd rfl (Or.inl rfl)) (qss_one (qs_if (QW.t (qw_and (qt_val (qe_ix ix_seq opd_ix (qe_var (pv 4)) (qe_var (pv 11)) (fun _ _ => rfl))) (qw_and1 (qt_val (qe_call D_law_let rfl rfl rfl rfl rfl bi_law_let (qv_cons (qe_var (pv 0)) (qv_cons (qe_var (pv 1)) (qv_cons (qe_var (pv 2)) (qv_cons (qe_var (pv 10)) (qv_cons (qe_var (pv 11)) qv_nil))))) (hr.mono (by decide)) (by rfl) pass0))))) (qss_one (qs_setIx qe_bl (pv 12) (qe_var (pv 11)))) qss_nil)) PassesOwn.never rfl)) PassesOwn.never rfl)
      (qss_cons (qs_setLc (i := 6) (own := [("high", 11)]) (qi_rng1 (ql_cons (qe_op opr_add opd_add (qe_var (pv 3)) qe_int) ql_nil) (by rfl) z_range) (ng_name (i := 11) (by decide)) rfl sc_law_due.nd rfl rfl (sw_true rfl rfl rfl (by decide +kernel)) (blkOk_by (N := N_law_due) (sc := defScope s_law_due) (by decide +kernel)) (fun _ _ _ _ _ => (pg_name (i := 11) sc_law_due.nd rfl (Or.inl rfl))) (fun _ _ _ _ _ => (qts_one (qt_val (qe_ix ix_seq opd_ix (qe_var (pv 12)) (qe_var (pv 11)) (fun _ _ => rfl))))) (fun _ _ _ _ _ => (qe_var (pv 11))))
      (qss_one (qs_expr (qe_meth (T := "list") PySem.F.plainAttrs_list PySem.F.slot_list_append PySem.F.type_list_append mt_append mut_append (pv 7) (ql_cons (qe_ix ix_seq opd_ix (qe_var (pv 6)) (qe_un un_neg und_neg qe_int) (fun _ _ => rfl)) ql_nil)))))))) PassesOwn.never rfl)
      (qss_cons (qs_set (i := 9) (qe_op opr_add opd_add (qe_var (pv 7)) (qe_lst (ql_cons (qe_var (pv 3)) ql_nil))) sc_law_due.nd rfl (Or.inr rfl))
      (qss_one (qs_ret (qe_cty call_tuple_of cd_tuple (by rfl) z_tuple (by decide +kernel) (qa_cons (qe_lc (own := [("k", 13)]) (qi_rng1 (ql_cons (qe_cb cr_lenA cd_len (by rfl) z_len (by decide +kernel) (qa_cons (qe_var (pv 9)) qa_nil)) ql_nil) (by rfl) z_range) (ng_name (i := 13) (by decide)) rfl sc_law_due.nd (blkOk_by (N := N_law_due) (sc := defScope s_law_due) (by decide +kernel)) (fun _ _ _ _ _ => (pg_name (i := 13) sc_law_due.nd rfl (Or.inl rfl))) (fun _ _ _ _ _ => qts_nil) (fun _ _ _ _ _ => (qe_tup (ql_cons (qe_ix ix_seq opd_ix (qe_op opr_add opd_add (qe_lst (ql_cons qe_int ql_nil)) (qe_var (pv 9))) (qe_var (pv 13)) (fun _ _ => rfl)) (ql_cons (qe_ix ix_seq opd_ix (qe_var (pv 9)) (qe_var (pv 13)) (fun _ _ => rfl)) ql_nil))))) qa_nil)))))))))))
def t_law_far1 : DS := (dSeq (dDrop (dMeth 6 mAppend (lCons (dTup (lCons (dVar 7) (lCons (dVar 9) lNil))) lNil)))
      (dSeq (dAsg 7 (dVar 9))
      (dIf (dBinT fEq (dVar 7) (dVar 3)) dBreak dNext)))
def l_law_far2 : DS := (dSeq (dAsg 9 (dCB fMin2 (aCons (dVar 3) (aCons (dBin fAdd (dVar 7) (dVar 1)) aNil))))
      (dSeq (dAsg 10 (dBin fAdd (dMt fRfind (dSl (dVar 4) (dPart (dVar 7)) (dPart (dVar 9))) (aCons (dC (.str [32])) aNil)) (dC (.int 1))))
      (dSeq (dIf (dAnd (dBinT fLt (dVar 9) (dVar 3)) (dBinT fGt (dVar 10) (dC (.int 0)))) (dAsg 9 (dBin fAdd (dVar 7) (dVar 10))) dNext)
      t_law_far1)))
def t_law_far3 : DS := (dRet (dCall P_law_same.length F_law_same [] (vCons (dTup (lCons (dCall P_laid.length F_laid [.bl false] (vCons (dVar 4) (vCons (dVar 1) vNil))) (lCons (dCallK P_laid.length 2 1 F_laid (fun avs kvs => pick (.dat .non) [.inl 0, .inl 1, .inr 0] avs kvs ++ []) (vCons (dVar 4) (vCons (dVar 1) vNil)) (vCons (dC (.bl true)) vNil)) lNil))) (vCons (dTup (lCons (dCB fTuple (aCons (dVar 5) aNil)) (lCons (dCB fTuple (aCons (dVar 6) aNil)) lNil))) vNil))))
def b_law_far : DS := (dSeq (dAsg 1 (dBin fAdd (dC (.int 4)) (dCall P_law_next.length F_law_next [] (vOwn 0 (vCons (dBin fIx (dLst (lCons (dC (.int 3)) (lCons (dC (.int 77)) lNil))) (dCall P_law_next.length F_law_next [] (vOwn 0 (vCons (dC (.int 2)) vNil)))) vNil)))))
      (dSeq (dAsg 2 (dBin fAdd (dC (.int 2)) (dCall P_law_next.length F_law_next [] (vOwn 0 (vCons (dBin fMul (dC (.int 2)) (dVar 1)) vNil)))))
      (dSeq (dAsg 3 (dBin fAdd (dC (.int 1000)) (dCall P_law_next.length F_law_next [] (vOwn 0 (vCons (dC (.int 3001)) vNil)))))
      (dSeq (dAsg 4 (dMt fJoin (dC (.str [])) (aCons (dLc (dRng1 (lCons (dVar 3) lNil)) (gN 11) dYes (dBin fIx (dC (.str [120, 32, 121])) (dCB fMin2 (aCons (dCall P_law_next.length F_law_next [] (vOwn 0 (vCons (dVar 2) vNil))) (aCons (dC (.int 2)) aNil)))) [11]) aNil)))
      (dSeq (dAsg 5 (dLc (dRng3 (lCons (dC (.int 0)) (lCons (dVar 3) (lCons (dVar 1) lNil)))) (gN 7) dYes (dTup (lCons (dVar 7) (lCons (dCB fMin2 (aCons (dVar 3) (aCons (dBin fAdd (dVar 7) (dVar 1)) aNil))) lNil))) [7]))
      (dSeq (dAsg 6 (dLst lNil))
      (dSeq (dAsg 7 (dC (.int 0)))
      (dSeq (dFor (dRng1 (lCons (dVar 3) lNil)) (gN 8) l_law_far2)
      t_law_far3))))))))
theorem q_law_far {P : Program} {w : World} {K : PySem.W.Frag} {mg : Str → Option Value} {base : Heap} {PL : PoolP} {f : Addr} (D_law_same : Def P w K mg base PL CX0 4 "_law_same" s_law_same [] [] P_law_same F_law_same) (D_law_next : Def P w K mg base PL CX0 1 "_law_next" s_law_next [] [] P_law_next F_law_next) (D_laid : Def P w K mg base PL CX0 2 "laid" s_laid [] [("wordwise", .bl false)] P_laid F_laid) (z_min : mg "min" = none) (z_range : mg "range" = none) (z_tuple : mg "tuple" = none) {cdv : Value} {A : Around} {outer : List Env} {s : Shared} {H : Hp} {E : XK} (hr : Room 4 (A.deeper (envOfC "_law_far" (defScope s_law_far) s.heap.objs.size f cdv))) : QSs (cxOf CX0 P w K mg base N_law_far "_law_far" (defScope s_law_far) f cdv A outer s H E).nox PL (defBody s_law_far) b_law_far := by
  delta b_law_far t_law_far3 l_law_far2 t_law_far1
  exact (qss_cons (qs_set (i := 1) (qe_op opr_add opd_add qe_int (qe_call D_law_next rfl rfl rfl rfl rfl bi_law_next (qv_own (pv 0) (qv_cons (qe_ix ix_seq opd_ix (qe_lst (ql_cons qe_int (ql_cons qe_int ql_nil))) (qe_call D_law_next rfl rfl rfl rfl rfl bi_law_next (qv_own (pv 0) (qv_cons qe_int qv_nil)) (hr.mono (by decide)) (by rfl) pass0) (fun _ _ => rfl)) qv_nil)) (hr.mono (by decide)) (by rfl) pass0)) sc_law_far.nd rfl (Or.inr rfl))
      (qss_cons (qs_set (i := 2) (qe_op opr_add opd_add qe_int (qe_call D_law_next rfl rfl rfl rfl rfl bi_law_next (qv_own (pv 0) (qv_cons (qe_op opr_mul opd_mul qe_int (qe_var (pv 1))) qv_nil)) (hr.mono (by decide)) (by rfl) pass0)) sc_law_far.nd rfl (Or.inr rfl))
      (qss_cons (qs_set (i := 3) (qe_op opr_add opd_add qe_int (qe_call D_law_next rfl rfl rfl rfl rfl bi_law_next (qv_own (pv 0) (qv_cons qe_int qv_nil)) (hr.mono (by decide)) (by rfl) pass0)) sc_law_far.nd rfl (Or.inr rfl))
      (qss_cons (qs_set (i := 4) (qe_mt PySem.F.plainAttrs_str PySem.F.slot_str_join PySem.F.type_str_join mt_join mtd_join (qe_str [] (by decide +kernel)) (qa_cons (qe_lc (own := [("k", 11)]) (qi_rng1 (ql_cons (qe_var (pv 3)) ql_nil) (by rfl) z_range) (ng_name (i := 11) (by decide)) rfl sc_law_far.nd (blkOk_by (N := N_law_far) (sc := defScope s_law_far) (by decide +kernel)) (fun _ _ _ _ _ => (pg_name (i := 11) sc_law_far.nd rfl (Or.inl rfl))) (fun _ _ _ _ _ => qts_nil) (fun _ _ _ _ _ => (qe_ix ix_seq opd_ix (qe_str [120, 32, 121] (by decide +kernel)) (qe_cb (call_min2 rfl) cd_min2 (by rfl) z_min (by decide +kernel) (qa_cons (qe_call D_law_next rfl rfl rfl rfl rfl bi_law_next (qv_own (pv 0) (qv_cons (qe_var (pv 2)) qv_nil)) (hr.mono (by decide)) (by rfl) pass0) (qa_cons qe_int qa_nil))) (fun _ _ => rfl)))) qa_nil)) sc_law_far.nd rfl (Or.inl rfl))
      (qss_cons (qs_setLc (i := 5) (own := [("low", 7)]) (qi_rng3 (ql_cons qe_int (ql_cons (qe_var (pv 3)) (ql_cons (qe_var (pv 1)) ql_nil))) (by rfl) z_range) (ng_name (i := 7) (by decide)) rfl sc_law_far.nd rfl rfl (sw_true rfl rfl rfl (by decide +kernel)) (blkOk_by (N := N_law_far) (sc := defScope s_law_far) (by decide +kernel)) (fun _ _ _ _ _ => (pg_name (i := 7) sc_law_far.nd rfl (Or.inl rfl))) (fun _ _ _ _ _ => qts_nil) (fun _ _ _ _ _ => (qe_tup (ql_cons (qe_var (pv 7)) (ql_cons (qe_cb (call_min2 rfl) cd_min2 (by rfl) z_min (by decide +kernel) (qa_cons (qe_var (pv 3)) (qa_cons (qe_op opr_add opd_add (qe_var (pv 7)) (qe_var (pv 1))) qa_nil))) ql_nil)))))
      (qss_cons (qs_set (i := 6) (qe_lst ql_nil) sc_law_far.nd rfl (Or.inl rfl))
      (qss_cons (qs_set (i := 7) qe_int sc_law_far.nd rfl (Or.inl rfl))
      (qss_cons (qs_for (qi_rng1 (ql_cons (qe_var (pv 3)) ql_nil) (by rfl) z_range) (qg_name (i := 8) sc_law_far.nd rfl (Or.inl rfl)) (qss_cons (qs_set (i := 9) (qe_cb (call_min2 rfl) cd_min2 (by rfl) z_min (by decide +kernel) (qa_cons (qe_var (pv 3)) (qa_cons (qe_op opr_add opd_add (qe_var (pv 7)) (qe_var (pv 1))) qa_nil))) sc_law_far.nd rfl (Or.inl rfl))
      (qss_cons (qs_set (i := 10) (qe_op opr_add opd_add (qe_mt PySem.F.plainAttrs_str PySem.F.slot_str_rfind PySem.F.type_str_rfind mt_rfind mtd_rfind (qe_sl (qe_var (pv 4)) (qo_some (qe_var (pv 7))) (qo_some (qe_var (pv 9)))) (qa_cons (qe_str [32] (by decide +kernel)) qa_nil)) qe_int) sc_law_far.nd rfl (Or.inl rfl))
      (qss_cons (qs_if (QW.t (qw_and (qt_cmp op_lt opd_lt (qe_var (pv 9)) (qe_var (pv 3)) (nomark _)) (qw_and1 (qt_cmp op_gt opd_gt (qe_var (pv 10)) qe_int (nomark _))))) (qss_one (qs_set (i := 9) (qe_op opr_add opd_add (qe_var (pv 7)) (qe_var (pv 10))) sc_law_far.nd rfl (Or.inl rfl))) qss_nil)
      (qss_cons (qs_expr (qe_meth (T := "list") PySem.F.plainAttrs_list PySem.F.slot_list_append PySem.F.type_list_append mt_append mut_append (pv 6) (ql_cons (qe_tup (ql_cons (qe_var (pv 7)) (ql_cons (qe_var (pv 9)) ql_nil))) ql_nil)))
      (qss_cons (qs_set (i := 7) (qe_var (pv 9)) sc_law_far.nd rfl (Or.inl rfl))
      (qss_one (qs_if (qt_cmp (opr_eq hr.units) opd_eq (qe_var (pv 7)) (qe_var (pv 3)) (nomark _)) (qss_one qs_break) qss_nil))))))) PassesOwn.never rfl)
      (qss_one (qs_ret (qe_call D_law_same rfl rfl rfl rfl rfl bi_law_same (qv_cons (qe_tup (ql_cons (qe_call D_laid rfl rfl rfl rfl rfl bi_laid_2 (qv_cons (qe_var (pv 4)) (qv_cons (qe_var (pv 1)) qv_nil)) (hr.mono (by decide)) (by rfl) pass0) (ql_cons (qe_callN (ks := ["wordwise"]) D_laid rfl rfl rfl rfl rfl kb_laid_0 (qv_cons (qe_var (pv 4)) (qv_cons (qe_var (pv 1)) qv_nil)) (qk_cons qe_bl qk_nil) (hr.mono (by decide)) (by rfl) pass0) ql_nil))) (qv_cons (qe_tup (ql_cons (qe_cty call_tuple_of cd_tuple (by rfl) z_tuple (by decide +kernel) (qa_cons (qe_var (pv 5)) qa_nil)) (ql_cons (qe_cty call_tuple_of cd_tuple (by rfl) z_tuple (by decide +kernel) (qa_cons (qe_var (pv 6)) qa_nil)) ql_nil))) qv_nil)) (hr.mono (by decide)) (by rfl) pass0)))))))))))
def l_law1 : DS := (dSeq (dAsg 3 (dBin fAdd (dC (.int 4)) (dCall P_law_next.length F_law_next [] (vOwn 1 (vCons (dBin fIx (dLst (lCons (dC (.int 5)) (lCons (dC (.int 5)) (lCons (dC (.int 9)) (lCons (dC (.int 77)) lNil))))) (dCall P_law_next.length F_law_next [] (vOwn 1 (vCons (dC (.int 4)) vNil)))) vNil)))))
      (dSeq (dAsg 4 (dCall P_law_band.length F_law_band [] (vOwn 1 (vCons (dVar 3) vNil))))
      (dSeq (dAsg 5 (dCall P_law_due.length F_law_due [] (vCons (dVar 4) (vCons (dVar 3) (vCons (dC (.bl false)) vNil)))))
      (dSeq (dIf (dOr (dNot (dTru (dCall P_law_same.length F_law_same [] (vCons (dCallK P_laid.length 0 2 F_laid (fun avs kvs => pick (.dat .non) [.inr 1, .inr 0] avs kvs ++ ([.bl false] : List Dt).map AV.dat) vNil (vCons (dVar 3) (vCons (dVar 4) vNil))) (vCons (dVar 5) vNil))))) (dNot (dTru (dCall P_law_same.length F_law_same [] (vCons (dCallK P_laid.length 2 1 F_laid (fun avs kvs => pick (.dat .non) [.inl 0, .inl 1, .inr 0] avs kvs ++ []) (vCons (dVar 4) (vCons (dVar 3) vNil)) (vCons (dC (.bl false)) vNil)) (vCons (dVar 5) vNil)))))) (dRet (dC (.bl false))) dNext)
      (dIf (dNot (dTru (dCall P_law_same.length F_law_same [] (vCons (dCallK P_laid.length 2 1 F_laid (fun avs kvs => pick (.dat .non) [.inl 0, .inl 1, .inr 0] avs kvs ++ []) (vCons (dVar 4) (vCons (dVar 3) vNil)) (vCons (dC (.bl true)) vNil)) (vCons (dCall P_law_due.length F_law_due [] (vCons (dVar 4) (vCons (dVar 3) (vCons (dC (.bl true)) vNil)))) vNil))))) (dRet (dC (.bl false))) dNext)))))
def t_law2 : DS := (dSeq (dIf (dNot (dTru (dCall P_law_same.length F_law_same [] (vCons (dCallK P_laid.length 2 1 F_laid (fun avs kvs => pick (.dat .non) [.inl 0, .inl 1, .inr 0] avs kvs ++ []) (vCons (dC (.str [])) (vCons (dBin fAdd (dC (.int 4)) (dCall P_law_next.length F_law_next [] (vOwn 1 (vCons (dC (.int 77)) vNil)))) vNil)) (vCons (dBin fEq (dCall P_law_next.length F_law_next [] (vOwn 1 (vCons (dC (.int 2)) vNil))) (dC (.int 0))) vNil)) (vCons (dTup (lCons (dTup (lCons (dC (.int 0)) (lCons (dC (.int 0)) lNil))) lNil)) vNil))))) (dRet (dC (.bl false))) dNext)
      (dRet (dOrV (dBin fGt (dCall P_law_next.length F_law_next [] (vOwn 1 (vCons (dC (.int 7)) vNil))) (dC (.int 0))) (dCall P_law_far.length F_law_far [] (vOwn 1 vNil)))))
def b_law : DS := (dSeq (dAsg 1 (dCall P_law_pool.length F_law_pool [] (vCons (dVar 0) vNil)))
      (dSeq (dFor (dRng1 (lCons (dC (.int 6)) lNil)) (gN 2) l_law1)
      t_law2))
theorem q_law {P : Program} {w : World} {K : PySem.W.Frag} {mg : Str → Option Value} {base : Heap} {PL : PoolP} {f : Addr} (D_law_pool : Def P w K mg base PL CX0 1 "_law_pool" s_law_pool [] [] P_law_pool F_law_pool) (D_law_band : Def P w K mg base PL CX0 2 "_law_band" s_law_band [] [] P_law_band F_law_band) (D_law_due : Def P w K mg base PL CX0 2 "_law_due" s_law_due [] [] P_law_due F_law_due) (D_law_same : Def P w K mg base PL CX0 4 "_law_same" s_law_same [] [] P_law_same F_law_same) (D_law_far : Def P w K mg base PL CX0 5 "_law_far" s_law_far [] [] P_law_far F_law_far) (D_law_next : Def P w K mg base PL CX0 1 "_law_next" s_law_next [] [] P_law_next F_law_next) (D_laid : Def P w K mg base PL CX0 2 "laid" s_laid [] [("wordwise", .bl false)] P_laid F_laid) (z_range : mg "range" = none) {cdv : Value} {A : Around} {outer : List Env} {s : Shared} {H : Hp} {E : XK} (hr : Room 5 (A.deeper (envOfC "law" (defScope s_law) s.heap.objs.size f cdv))) : QSs (cxOf CX0 P w K mg base N_law "law" (defScope s_law) f cdv A outer s H E).nox PL (defBody s_law) b_law := by
  delta b_law t_law2 l_law1
  exact (qss_cons (qs_set (i := 1) (qe_call D_law_pool rfl rfl rfl rfl rfl bi_law_pool (qv_cons (qe_var (pv 0)) qv_nil) (hr.mono (by decide)) (by rfl) pass0) sc_law.nd rfl (Or.inl rfl))
      (qss_cons (qs_for (qi_rng1 (ql_cons qe_int ql_nil) (by rfl) z_range) (qg_name (i := 2) sc_law.nd rfl (Or.inl rfl)) (qss_cons (qs_set (i := 3) (qe_op opr_add opd_add qe_int (qe_call D_law_next rfl rfl rfl rfl rfl bi_law_next (qv_own (pv 1) (qv_cons (qe_ix ix_seq opd_ix (qe_lst (ql_cons qe_int (ql_cons qe_int (ql_cons qe_int (ql_cons qe_int ql_nil))))) (qe_call D_law_next rfl rfl rfl rfl rfl bi_law_next (qv_own (pv 1) (qv_cons qe_int qv_nil)) (hr.mono (by decide)) (by rfl) pass0) (fun _ _ => rfl)) qv_nil)) (hr.mono (by decide)) (by rfl) pass0)) sc_law.nd rfl (Or.inl rfl))
      (qss_cons (qs_set (i := 4) (qe_call D_law_band rfl rfl rfl rfl rfl bi_law_band (qv_own (pv 1) (qv_cons (qe_var (pv 3)) qv_nil)) (hr.mono (by decide)) (by rfl) pass0) sc_law.nd rfl (Or.inl rfl))
      (qss_cons (qs_set (i := 5) (qe_call D_law_due rfl rfl rfl rfl rfl bi_law_due (qv_cons (qe_var (pv 4)) (qv_cons (qe_var (pv 3)) (qv_cons qe_bl qv_nil))) (hr.mono (by decide)) (by rfl) pass0) sc_law.nd rfl (Or.inl rfl))
      (qss_cons (qs_if (QW.t (qw_or (qt_not (qt_val (qe_call D_law_same rfl rfl rfl rfl rfl bi_law_same (qv_cons (qe_callN0 (ks := ["width", "row"]) D_laid rfl rfl rfl rfl rfl kb_laid_1 (qk_cons (qe_var (pv 3)) (qk_cons (qe_var (pv 4)) qk_nil)) (hr.mono (by decide)) (by rfl) pass0) (qv_cons (qe_var (pv 5)) qv_nil)) (hr.mono (by decide)) (by rfl) pass0))) (qw_or1 (qt_not (qt_val (qe_call D_law_same rfl rfl rfl rfl rfl bi_law_same (qv_cons (qe_callN (ks := ["wordwise"]) D_laid rfl rfl rfl rfl rfl kb_laid_0 (qv_cons (qe_var (pv 4)) (qv_cons (qe_var (pv 3)) qv_nil)) (qk_cons qe_bl qk_nil) (hr.mono (by decide)) (by rfl) pass0) (qv_cons (qe_var (pv 5)) qv_nil)) (hr.mono (by decide)) (by rfl) pass0)))))) (qss_one (qs_ret qe_bl)) qss_nil)
      (qss_one (qs_if (qt_not (qt_val (qe_call D_law_same rfl rfl rfl rfl rfl bi_law_same (qv_cons (qe_callN (ks := ["wordwise"]) D_laid rfl rfl rfl rfl rfl kb_laid_0 (qv_cons (qe_var (pv 4)) (qv_cons (qe_var (pv 3)) qv_nil)) (qk_cons qe_bl qk_nil) (hr.mono (by decide)) (by rfl) pass0) (qv_cons (qe_call D_law_due rfl rfl rfl rfl rfl bi_law_due (qv_cons (qe_var (pv 4)) (qv_cons (qe_var (pv 3)) (qv_cons qe_bl qv_nil))) (hr.mono (by decide)) (by rfl) pass0) qv_nil)) (hr.mono (by decide)) (by rfl) pass0))) (qss_one (qs_ret qe_bl)) qss_nil)))))) PassesOwn.never rfl)
      (qss_cons (qs_if (qt_not (qt_val (qe_call D_law_same rfl rfl rfl rfl rfl bi_law_same (qv_cons (qe_callN (ks := ["wordwise"]) D_laid rfl rfl rfl rfl rfl kb_laid_0 (qv_cons (qe_str [] (by decide +kernel)) (qv_cons (qe_op opr_add opd_add qe_int (qe_call D_law_next rfl rfl rfl rfl rfl bi_law_next (qv_own (pv 1) (qv_cons qe_int qv_nil)) (hr.mono (by decide)) (by rfl) pass0)) qv_nil)) (qk_cons (qe_cmp (opr_eq hr.units) opd_eq (qe_call D_law_next rfl rfl rfl rfl rfl bi_law_next (qv_own (pv 1) (qv_cons qe_int qv_nil)) (hr.mono (by decide)) (by rfl) pass0) qe_int (nomark _)) qk_nil) (hr.mono (by decide)) (by rfl) pass0) (qv_cons (qe_tup (ql_cons (qe_tup (ql_cons qe_int (ql_cons qe_int ql_nil))) ql_nil)) qv_nil)) (hr.mono (by decide)) (by rfl) pass0))) (qss_one (qs_ret qe_bl)) qss_nil)
      (qss_one (qs_ret (qe_or (qe_cmp op_gt opd_gt (qe_call D_law_next rfl rfl rfl rfl rfl bi_law_next (qv_own (pv 1) (qv_cons qe_int qv_nil)) (hr.mono (by decide)) (by rfl) pass0) qe_int (nomark _)) (qe_one (qe_call D_law_far rfl rfl rfl rfl rfl bi_law_far (qv_own (pv 1) qv_nil) (hr.mono (by decide)) (by rfl) pass0))))))))
end K61

namespace K61
open PySem PySem.Spec PyProof.Rows L2 Cl
local macro_rules | `(tactic| walk_at "cl") => `(tactic| simp only [dSeq, dAsg, dAsgG, dIf, dTru, dC, dBin, dBinT, dUn, dRet, dRetN, dDrop, dMeth, dNext, dBreak, dCont, dAnd, dOr, dNot, dAndV, dOrV, dNotV, dIfE, dTup, dLst, dCB, dSl, dNoPart, dIsi, dYes, aCons, aNil, lCons, lNil, vCons, vNil, dItems, dRng2, dRng3, dCall, dCallK, c0, toSlot, pick, wipeC, c_on1_dat, c_on1_sl, c_onS_dat, c_onS_own, c_onS_arg, c_on2, c_hd_dat, c_hd_sl, c_hd_new, c_asD_dat, c_asD_new, c_asD_sl, c_asS_dat, c_asS_own, c_var, c_varS_dat, c_varS_own, c_varS_arg, c_blR, c_blD, c_tru_non, c_tru_bl, c_tru_int, c_tru_lst, c_tru_tup, c_put_dat, c_put_new, c_put_sl, c_putS_dat, c_putS_own, c_toRet_dat, c_toRet_new, c_toRet_sl, c_toRetS_dat, c_toRetS_own, c_retC_dat, c_retC_new, c_ends_rt, c_ends_nx, c_ends_bk, c_ends_ct, c_retB_dat, c_retB_new, c_retB_sl, c_retBS_own, c_bk_nil, c_bk_dat, c_bk_ob, c_gt0, c_gtS, c_fsub, c_faddI, c_fadd_int, c_fadd_str, c_fadd_lst, c_fadd_tup, c_fmul_int, c_fmul_lst, c_fmul_str, c_fdiv, c_fmod, c_fpow, c_fshl, c_fshr, c_fand, c_for, c_fxor, c_flt, c_fle, c_fgt, c_fge, c_fneg, c_feq_int, c_fne_int, c_feq_str, c_fne_str, c_feq_bl, c_fne_bl, c_fin_str, c_fin_lst, c_fin_tup, c_fisn, c_fisb, c_isn_non, c_isb_non, c_tyd_non, c_isn_bl, c_isb_bl, c_tyd_bl, c_isn_int, c_isb_int, c_tyd_int, c_isn_str, c_isb_str, c_tyd_str, c_isn_tup, c_isb_tup, c_tyd_tup, c_isn_lst, c_isb_lst, c_tyd_lst, c_isn_frz, c_isb_frz, c_tyd_frz, c_isi_NoneType_bool, c_isi_NoneType_int, c_isi_NoneType_str, c_isi_NoneType_tuple, c_isi_NoneType_list, c_isi_bool_bool, c_isi_bool_int, c_isi_bool_str, c_isi_bool_tuple, c_isi_bool_list, c_isi_int_bool, c_isi_int_int, c_isi_int_str, c_isi_int_tuple, c_isi_int_list, c_isi_str_bool, c_isi_str_int, c_isi_str_str, c_isi_str_tuple, c_isi_str_list, c_isi_tuple_bool, c_isi_tuple_int, c_isi_tuple_str, c_isi_tuple_tuple, c_isi_tuple_list, c_isi_list_bool, c_isi_list_int, c_isi_list_str, c_isi_list_tuple, c_isi_list_list, c_fix_lst, c_fix_tup, c_fix_frz, c_fix_str, c_ixL0, c_ixL1, c_ixL2, c_ixL3, c_len_lst, c_len_tup, c_len_frz, c_len_str, c_int1_int, c_int1_bl, c_abs, c_min2, c_max2, c_len, c_int1, c_fabs, c_ftuple, c_flist, c_tuple_lst, c_tuple_tup, c_list_lst, c_list_tup, c_sl_lst, c_sl_str, c_sl_tup, c_part_int, c_part, c_mappend, c_mpop, c_obS_own, c_setS_own, c_obS_arg, c_setS_arg, c_obL, c_setL, c_setIx, c_ixQ, c_setN, c_ixN10, c_ixN20, c_ixN21, c_ixN30, c_ixN31, c_ixN32, c_mt, c_mtQ, c_vws_nil, c_vws_cons, c_rfind4, c_rfind, c_join_lst, c_join_tup, c_one1, c_cints2, c_cints3, c_own, c_isOb_own, c_isOb_arg, c_callQ, c_look_nil, c_look_dat, c_look_own, c_lookS_own, c_lookS_arg, c_nd_nil, c_nd_dat, c_nd_own, c_ni_nil, c_ni_dat, c_ni_own, c_putA_nil, c_putA_cons, c_new_none, c_new_arg, c_new_own, c_oa_nil, c_oa_dat, c_oa_own, c_gT, c_gsCons, c_gsNil, c_gN, c_it_lst, c_it_tup, c_it_frz, c_it_str, c_rng1, c_rngQ, c_par, c_two, c_aug, c_augS, c_loop, c_lc, List.map_cons, List.map_nil, List.length_cons, List.length_nil, Nat.reduceAdd, Nat.reduceSub, Nat.reduceLT, Nat.reduceLeDiff, Nat.zero_le, List.replicate, List.cons_append, List.nil_append, List.append_nil, List.set_cons_zero, List.set_cons_succ, List.getD_cons_zero, List.getD_cons_succ, br_true, br_false, br_not, br_dec, true_and, and_true, if_true, if_false, reduceIte, reduceCtorEq, Nat.reduceEqDiff, Nat.reduceBNe, Bool.and_true, Bool.true_and, Bool.bne_false, Bool.bne_true, Bool.not_true, Bool.not_false, Bool.true_bne, Bool.false_bne, not_true_eq_false, not_false_eq_true, implies_true, one_eq, rngD_length, rngC_length, Int.reduceToNat, Int.reducePow, Int.reduceNeg, Int.reduceLT, Int.reduceLE, true_or, or_true, decide_eq_true_eq, beq_self_eq_true, Nat.zero_add, c_unw_nil, c_unw, c_unwS_no, c_unwS_dat])
theorem red_piece_end : ∀ as R, as.length = P_piece_end.length → F_piece_end as R → b_piece_end (fnEnds as R) (c0 as N_piece_end.length) := by
  rintro as R - ⟨s, x, w, b, rfl, hs, hx, hR⟩
  unfold b_piece_end
  walk_at "cl"
  cases b with
  | false =>
    unfold t_piece_end1
    walk_at "cl"
    exact hR
  | true =>
    unfold t_piece_end1
    walk_at "cl"
    refine ⟨by omega, fun v hv => ?_⟩
    have e1 : ((x : Int)).toNat = x := by omega
    have e2 : min ((x : Int) + (w : Int)).toNat s.length = x + w := by omega
    rw [e1, e2] at hv
    have hv2 := isLast_uniq hv (lastV_is s x (x + w))
    unfold E at hR
    rw [if_pos rfl] at hR
    refine ⟨fun h => ?_, fun h => ?_⟩
    · rw [hv2] at h ⊢
      rw [if_pos h] at hR
      have e3 : (((lastV s x (x + w) + 1).toNat : Nat) : Int) = lastV s x (x + w) + 1 := by omega
      rw [e3] at hR
      exact hR
    · rw [hv2] at h
      rw [if_neg h] at hR
      exact hR
theorem red_laid : ∀ as R, as.length = P_laid.length → F_laid as R → b_laid (fnEnds as R) (c0 as N_laid.length) := by
  rintro as R - ⟨s, w, b, rfl, hs, hw, hR⟩
  unfold b_laid
  walk_at "cl"
  refine ⟨fun m c => ∃ (x : Nat) (acc : List Dt) (sl : Slot), m = s.length - x ∧ acc.length ≤ x ∧ x ≤ s.length ∧ acc ++ pcs s w b x = pcs s w b 0 ∧ c = [.dat (.str s), .dat (.int w), .dat (.bl b), .own (.lst acc), .dat (.int x), sl], ⟨s.length, 0, [], .no, by omega, by simp, by omega, rfl, rfl⟩, ?_⟩
  rintro m c ⟨x, acc, sl, hm, ha, hx, hp, rfl⟩
  unfold l_laid1 t_laid2
  walk_at "cl"
  refine ⟨by omega, fun h => ?_, fun h => ?_⟩
  · refine ⟨s, x, w, b, rfl, hs, by omega, ?_⟩
    walk_at "cl"
    have h1 := E_gt s hw b x
    have h2 := E_le s w b x
    refine ⟨by omega, s.length - E s w b x, by omega, E s w b x, acc ++ [pairD (x, E s w b x)], _, rfl, by simp; omega, by omega, ?_, rfl⟩
    rw [← hp, pcs_step (x := x) hw (by omega)]
    simp
  · refine ⟨by omega, ?_⟩
    rw [pcs_stop (by omega)] at hp
    unfold piecesD at hR
    rw [← hp] at hR
    exact ⟨by omega, hR⟩
theorem red_law_signs : ∀ as R, as.length = P_law_signs.length → F_law_signs as R → b_law_signs (fnEnds as R) (c0 as N_law_signs.length) := by
  rintro as R - ⟨rfl, hR⟩
  unfold b_law_signs
  walk_at "cl"
  exact hR _ rfl
theorem red_law_let : ∀ as R, as.length = P_law_let.length → F_law_let as R → b_law_let (fnEnds as R) (c0 as N_law_let.length) := by
  rintro as R - ⟨s, w, b, lo, hi, rfl, hs, hi', hR⟩
  unfold b_law_let
  walk_at "cl"
  refine ⟨fun h => hR false ⟨(by simp), fun h2 => absurd h2.2.1 (by omega)⟩, fun h => ⟨fun h1 => hR false ⟨(by simp), fun h2 => absurd h2.1 (by omega)⟩, fun h1 => ?_⟩⟩
  have hl : hi - 1 < s.length := by omega
  cases b with
  | false =>
    walk_at "cl"
    exact hR true ⟨fun _ => ⟨by omega, by omega, .inl rfl⟩, fun _ => rfl⟩
  | true =>
    walk_at "cl"
    refine ⟨by omega, ixS_i (n := hi - 1) (by omega) (List.getElem?_eq_getElem hl) ?_⟩
    walk_at "cl"
    refine ⟨fun h2 => hR true ⟨fun _ => ⟨by omega, by omega, .inr (.inl (by rw [List.getElem?_eq_getElem hl, h2]))⟩, fun _ => rfl⟩, fun h2 => ⟨fun h3 => ⟨by omega, ?_⟩, fun h3 => hR false ⟨(by simp), fun h4 => ?_⟩⟩⟩
    · refine hR _ ?_
      rw [cut_nat hi' (by omega), Bool.not_eq_true', decide_eq_false_iff_not]
      constructor
      · intro h4
        refine ⟨by omega, by omega, .inr (.inr ⟨by omega, fun i g1 g2 g3 => h4 ?_⟩)⟩
        rw [List.mem_iff_getElem?]
        exact ⟨i - lo, by rw [List.getElem?_take_of_lt (by omega), List.getElem?_drop, show lo + (i - lo) = i by omega]; exact g3⟩
      · rintro ⟨_, _, h4⟩ h5
        rw [List.mem_iff_getElem?] at h5
        obtain ⟨i, h5⟩ := h5
        have hil := (List.getElem?_eq_some_iff.mp h5).1
        rw [List.length_take, List.length_drop] at hil
        rw [List.getElem?_take_of_lt (by omega), List.getElem?_drop] at h5
        rcases h4 with h4 | h4 | ⟨_, h4⟩
        · cases h4
        · rw [List.getElem?_eq_getElem hl] at h4
          exact h2 (Option.some.inj h4)
        · exact h4 (lo + i) (by omega) (by omega) h5
    · obtain ⟨g1, g2, g3 | g3 | ⟨g3, _⟩⟩ := h4
      · cases g3
      · rw [List.getElem?_eq_getElem hl] at g3
        exact absurd (Option.some.inj g3) h2
      · omega
theorem pool_at {o : Ob} (h : isPool o) : ∃ (ds : List Int) (i st : Int), o = .lst [.lst (ds.map .int), .int i, .int st] ∧ 0 ≤ i ∧ ds.length ≤ 100000 := h
theorem red_law_next : ∀ as R, as.length = P_law_next.length → F_law_next as R → b_law_next (fnEnds as R) (c0 as N_law_next.length) := by
  rintro as R - ⟨o, m, rfl, ⟨ds, i, st, rfl, hi, hd⟩, hm, hR⟩
  unfold b_law_next
  walk_at "cl"
  refine ⟨fun h => ?_, fun h => ⟨by omega, hR _ _ ⟨ds, i, _, rfl, hi, hd⟩ (Int.emod_nonneg _ (by omega)) (Int.emod_lt_of_pos _ (by omega))⟩⟩
  have hl : i.toNat < (ds.map Dt.int).length := by omega
  have hl' : i.toNat < ds.length := by simpa using hl
  refine ixL_i (n := i.toNat) (d := .int ds[i.toNat]) (by omega) (by simp [hl']) ?_
  walk_at "cl"
  exact ⟨by omega, hR _ _ ⟨ds, _, _, rfl, by omega, hd⟩ (Int.emod_nonneg _ (by omega)) (Int.emod_lt_of_pos _ (by omega))⟩
theorem red_law_pool : ∀ as R, as.length = P_law_pool.length → F_law_pool as R → b_law_pool (fnEnds as R) (c0 as N_law_pool.length) := by
  rintro as R - ⟨ns, rfl, hn, hR⟩
  unfold b_law_pool
  walk_at "cl"
  refine for_map (fun k c => ∃ (ds : List Int) (st : Int) (a b d : Slot), ds.length ≤ 60 * k ∧ c = [.dat (.frz (ns.map .int)), .own (.lst (ds.map .int)), .dat (.int st), a, b, d]) ⟨[], 6101, _, _, _, by simp, rfl⟩ ?_ ?_
  · rintro k x c' hx ⟨ds, st, a, b, d, hd, rfl⟩
    have hk := (List.getElem?_eq_some_iff.mp hx).1
    unfold l_law_pool2
    walk_at "cl"
    have hm : (ds.map Dt.int).length = ds.length := List.length_map _
    refine ⟨by unfold CPow; decide, fun h => ⟨by omega, by rw [List.length_append, hm, List.length_singleton]; omega, ds ++ [_, _], _, _, _, _, by rw [List.length_append]; simp only [List.length_cons, List.length_nil]; omega, by rw [List.map_append, List.append_assoc]; rfl⟩, fun h => ?_⟩
    refine for_rng (fun j c => ∃ (ds : List Int) (st : Int) (a : Slot) (b : Int) (d : Slot), ds.length ≤ 60 * k + j ∧ c = [.dat (.frz (ns.map .int)), .own (.lst (ds.map .int)), .dat (.int st), a, .dat (.int b), d]) ⟨ds, _, _, _, _, by omega, rfl⟩ ?_ ?_
    · rintro j c' hj ⟨ds, st, a, b, d, hd, rfl⟩
      have hm : (ds.map Dt.int).length = ds.length := List.length_map _
      unfold l_law_pool1
      walk_at "cl"
      exact ⟨fun _ => ⟨ds, _, _, _, _, by omega, rfl⟩, fun _ => ⟨by omega, ds ++ [_], _, _, _, _, by rw [List.length_append, List.length_singleton]; omega, by rw [List.map_append]; rfl⟩⟩
    · rintro c' ⟨ds, st, a, b, d, hd, rfl⟩
      exact ⟨ds, _, _, _, _, by omega, rfl⟩
  · rintro c' ⟨ds, st, a, b, d, hd, rfl⟩
    unfold t_law_pool3
    walk_at "cl"
    exact hR _ ⟨ds, _, _, rfl, by omega, by omega⟩
theorem nx_ok {o : Ob} {m : Int} {R : Res → List AArg → Prop} (ho : isPool o) (hm : 1 ≤ m) (h : ∀ r o', isPool o' → 0 ≤ r → r < m → R (.dat (.int r)) [.ob o', .dat (.int m)]) : F_law_next [.ob o, .dat (.int m)] R := ⟨o, m, rfl, ho, hm, h⟩
theorem red_law_band : ∀ as R, as.length = P_law_band.length → F_law_band as R → b_law_band (fnEnds as R) (c0 as N_law_band.length) := by
  rintro as R - ⟨o, w, rfl, ho, hw, hw', hR⟩
  unfold b_law_band
  walk_at "cl"
  refine ⟨rfl, fun sg hsg => ?_⟩
  walk_at "cl"
  refine nx_ok ho (by omega) fun r1 o1 h1 g1 g2 => ?_
  walk_at "cl"
  have key : ∀ oo n, isPool oo → 0 ≤ n → n < 400 → t_law_band4 (fnEnds [.ob o, .dat (.int w)] R) [.arg oo, .dat (.int w), .dat (.str sg), .dat (.int n), .no, .no, .no, .no] := by
    intro oo n ho hn0 hn
    unfold t_law_band4
    walk_at "cl"
    refine nx_ok ho (by omega) fun r1 o1 h1 g1 g2 => ?_
    walk_at "cl"
    refine nx_ok h1 (by omega) fun r2 o2 h2 g3 g4 => ?_
    walk_at "cl"
    have hl : ∀ r : Int, 0 ≤ r → r < 94 → (1 + r).toNat < sg.length := fun r a b => by omega
    refine ⟨by omega, ixS_i (n := (1 + r2).toNat) (by omega) (List.getElem?_eq_getElem (hl r2 g3 g4)) ?_⟩
    walk_at "cl"
    refine ⟨by omega, for_rng (fun k c => ∃ (o : Ob) (t : List Nat) (d : Slot), isPool o ∧ t.length ≤ k ∧ c = [.arg o, .dat (.int w), .dat (.str sg), .dat (.int n), .dat (.int (1 + r1)), .dat (.str [sg[(1 + r2).toNat]'(hl r2 g3 g4)]), .dat (.str t), d]) ⟨o2, [], _, h2, Nat.le_refl _, rfl⟩ ?_ ?_⟩
    · rintro k c' hk ⟨o, t, d, ho, ht, rfl⟩
      unfold l_law_band1
      walk_at "cl"
      refine nx_ok ho (by omega) fun r3 o3 h3 g5 g6 => ?_
      walk_at "cl"
      refine ⟨fun _ => ⟨by (first | omega | (simp only [List.length_append, List.length_cons, List.length_nil, List.length_map, List.length_replicate, List.length_set, List.length_take, List.length_drop, rngD_length, rngC_length]; omega)), o3, _, _, h3, by (first | omega | (simp only [List.length_append, List.length_cons, List.length_nil, List.length_map, List.length_replicate, List.length_set, List.length_take, List.length_drop, rngD_length, rngC_length]; omega)), rfl⟩, fun _ => ?_⟩
      refine nx_ok h3 (by omega) fun r4 o4 h4 g7 g8 => ?_
      walk_at "cl"
      refine ⟨fun _ => ?_, fun _ => ⟨by (first | omega | (simp only [List.length_append, List.length_cons, List.length_nil, List.length_map, List.length_replicate, List.length_set, List.length_take, List.length_drop, rngD_length, rngC_length]; omega)), o4, _, _, h4, by (first | omega | (simp only [List.length_append, List.length_cons, List.length_nil, List.length_map, List.length_replicate, List.length_set, List.length_take, List.length_drop, rngD_length, rngC_length]; omega)), rfl⟩⟩
      refine nx_ok h4 (by omega) fun r5 o5 h5 g9 g10 => ?_
      walk_at "cl"
      refine ⟨by omega, ixS_i (n := (1 + r5).toNat) (by omega) (List.getElem?_eq_getElem (hl r5 g9 g10)) ?_⟩
      walk_at "cl"
      exact ⟨by (first | omega | (simp only [List.length_append, List.length_cons, List.length_nil, List.length_map, List.length_replicate, List.length_set, List.length_take, List.length_drop, rngD_length, rngC_length]; omega)), o5, _, _, h5, by (first | omega | (simp only [List.length_append, List.length_cons, List.length_nil, List.length_map, List.length_replicate, List.length_set, List.length_take, List.length_drop, rngD_length, rngC_length]; omega)), rfl⟩
    · rintro c' ⟨o, t, d, ho, ht, rfl⟩
      unfold t_law_band3 t_law_band2
      walk_at "cl"
      refine nx_ok ho (by omega) fun r3 o3 h3 g5 g6 => ?_
      walk_at "cl"
      refine ⟨fun _ => ?_, fun _ => hR _ _ h3 (by omega)⟩
      refine nx_ok h3 (by omega) fun r4 o4 h4 g7 g8 => ?_
      walk_at "cl"
      have e : (List.replicate r4.toNat [32]).flatten.length = r4.toNat := by rw [rep_flat, List.length_replicate]
      exact ⟨by omega, by omega, hR _ _ h4 (by rw [List.length_append, e]; omega)⟩
  refine nx_ok h1 (by omega) fun r2 o2 h2 g3 g4 => ?_
  walk_at "cl"
  refine ⟨fun _ => ?_, fun _ => key _ _ h2 (by omega) (by omega)⟩
  refine nx_ok h2 (by omega) fun r3 o3 h3 g5 g6 => ?_
  walk_at "cl"
  exact key _ _ h3 (by omega) (by omega)
theorem let_ok {s : List Nat} {w : Nat} {b : Bool} {lo hi : Nat} {x y : Int} {R : Res → List AArg → Prop} (hx : x = (lo : Int)) (hy : y = (hi : Int)) (hs : s.length ≤ 10000) (hh : hi ≤ s.length) (hR : ∀ r : Bool, (r = true ↔ Let s w b lo hi) → R (.dat (.bl r)) [.dat (.str s), .dat (.int w), .dat (.bl b), .dat (.int lo), .dat (.int hi)]) : F_law_let [.dat (.str s), .dat (.int w), .dat (.bl b), .dat (.int x), .dat (.int y)] R := by
  rw [hx, hy]
  exact ⟨s, w, b, lo, hi, rfl, hs, hh, hR⟩
def nearF (n w : Nat) (d : Dt) : Option Dt := match d with
  | .int y => if (n : Int) - y ≤ w then some (.int y) else none
  | _ => none
theorem near_len {n w : Nat} : ∀ xs : List Nat, 0 < ((xs.map fun y : Nat => Dt.int y).filterMap (nearF n w)).length ↔ ∃ y ∈ xs, n ≤ y + w
  | [] => by simp
  | x :: xs => by
    have ih := near_len (n := n) (w := w) xs
    rw [List.map_cons, List.filterMap_cons]
    by_cases h : (n : Int) - x ≤ w
    · have e : nearF n w (.int x) = some (.int x) := if_pos h
      rw [e]
      exact ⟨fun _ => ⟨x, List.mem_cons_self, by omega⟩, fun _ => Nat.succ_pos _⟩
    · have e : nearF n w (.int x) = none := if_neg h
      rw [e]
      show 0 < ((xs.map fun y : Nat => Dt.int y).filterMap (nearF n w)).length ↔ _
      rw [ih]
      constructor
      · rintro ⟨y, h1, h2⟩
        exact ⟨y, List.mem_cons_of_mem _ h1, h2⟩
      · rintro ⟨y, h1, h2⟩
        rcases List.mem_cons.mp h1 with rfl | h1
        · omega
        · exact ⟨y, h1, h2⟩
def tb (r : List Dt) (j : Nat) : Bool := match r[j]? with
  | some (.bl true) => true
  | _ => false
def metF (r : List Dt) (d : Dt) : Option Dt := match d with
  | .int y => if tb r y.toNat = true then some (.int y) else none
  | _ => none
def metL (r : List Dt) (n : Nat) : List Nat := (List.range n).filter (tb r)
theorem tb_of {r : List Dt} {j : Nat} {v : Bool} (h : r[j]? = some (.bl v)) : tb r j = v := by
  unfold tb
  rw [h]
  cases v <;> rfl
theorem met_all (r : List Dt) (n : Nat) : (rngD 0 n).filterMap (metF r) = (metL r n).map fun y : Nat => Dt.int y := by
  unfold rngD metL
  induction List.range n with
  | nil => rfl
  | cons a l ih =>
    rw [List.map_cons, List.filterMap_cons, List.filter_cons]
    have e : metF r (.int (0 + (a : Int))) = if tb r a = true then some (.int a) else none := by
      show (if tb r ((0 : Int) + (a : Int)).toNat = true then some (Dt.int (0 + (a : Int))) else none) = _
      rw [show ((0 : Int) + (a : Int)).toNat = a by omega, show (0 : Int) + (a : Int) = a by omega]
    rw [e]
    by_cases h : tb r a = true
    · rw [if_pos h, if_pos h]
      simp only [List.map_cons]
      rw [ih]
    · rw [if_neg h, if_neg h]
      exact ih
theorem met_last {r : List Dt} {n x : Nat} (hx : x < n) (h : tb r x = true) (h' : ∀ j, j < n → tb r j = true → j ≤ x) : (metL r n).getLast? = some x := by
  unfold metL
  have e : List.range n = List.range (x + 1) ++ (List.range (n - (x + 1))).map (x + 1 + ·) := by
    rw [← List.range_add, show x + 1 + (n - (x + 1)) = n by omega]
  rw [e, List.filter_append]
  have e2 : ((List.range (n - (x + 1))).map (x + 1 + ·)).filter (tb r) = [] := by
    rw [List.filter_eq_nil_iff]
    intro j hj hb
    obtain ⟨i, hi, rfl⟩ := List.mem_map.mp hj
    rw [List.mem_range] at hi
    have := h' _ (by omega) hb
    omega
  rw [e2, List.append_nil, List.range_succ, List.filter_append, List.filter_cons, if_pos h]
  simp
theorem met_le {r : List Dt} {n x : Nat} (h' : ∀ j, j < n → tb r j = true → j ≤ x) : ∀ y ∈ metL r n, y ≤ x := by
  intro y hy
  obtain ⟨h1, h2⟩ := List.mem_filter.mp hy
  exact h' y (List.mem_range.mp h1) h2
theorem met_len (r : List Dt) (n : Nat) : (metL r n).length ≤ n := by
  unfold metL
  have := List.length_filter_le (tb r) (List.range n)
  rw [List.length_range] at this
  exact this
theorem pair_at {c : List Nat} {x : Nat} : ∀ {i : Nat}, i < c.length → (prs x c)[i]? = some ((x :: c).getD i 0, c.getD i 0) := by
  induction c generalizing x with
  | nil => intro i h; exact absurd h (Nat.not_lt_zero _)
  | cons a r ih =>
    intro i h
    cases i with
    | zero => rfl
    | succ i =>
      have := ih (x := a) (i := i) (by simpa using h)
      simpa [prs] using this
theorem prs_len (c : List Nat) : ∀ x, (prs x c).length = c.length := by
  induction c with
  | nil => intro x; rfl
  | cons a r ih => intro x; simp [prs, ih]
def cutF (c : List Nat) (d : Dt) : Dt := match d with
  | .int i => pairD ((0 :: c).getD i.toNat 0, c.getD i.toNat 0)
  | _ => .non
theorem cut_all (c : List Nat) : (rngD 0 c.length).map (cutF c) = (prs 0 c).map pairD := by
  apply List.ext_getElem?
  intro i
  rw [List.getElem?_map, List.getElem?_map]
  by_cases h : i < c.length
  · rw [pair_at h]
    unfold rngD
    rw [List.getElem?_map, List.getElem?_range h]
    show some (pairD ((0 :: c).getD ((0 : Int) + (i : Int)).toNat 0, c.getD ((0 : Int) + (i : Int)).toNat 0)) = _
    rw [show ((0 : Int) + (i : Int)).toNat = i by omega]
    rfl
  · rw [List.getElem?_eq_none (by rw [rngD_length]; omega), List.getElem?_eq_none (by rw [prs_len]; omega)]
    rfl
theorem red_law_due : ∀ as R, as.length = P_law_due.length → F_law_due as R → b_law_due (fnEnds as R) (c0 as N_law_due.length) := by
  rintro as R - ⟨s, w, b, rfl, hs, hw, hR⟩
  unfold b_law_due
  walk_at "cl"
  rw [rep_flat]
  refine ⟨by omega, by omega, by omega, for_rng (fun k c => ∃ (l : List Dt) (d1 d2 d3 : Slot), l.length = s.length + 1 ∧ (∀ j, s.length + 1 - k ≤ j → j ≤ s.length → l[j]? = some (.bl true)) ∧ c = [.dat (.str s), .dat (.int w), .dat (.bl b), .dat (.int s.length), .own (.lst l), d1, .no, .no, .no, .no, d2, d3, .no, .no]) ⟨_, _, _, _, by rw [List.length_replicate]; omega, fun j _ _ => by omega, rfl⟩ ?_ ?_⟩
  · rintro k c' hk ⟨l, d1, d2, d3, hl, hj, rfl⟩
    unfold l_law_due2
    walk_at "cl"
    refine setN_i (m := s.length - k) (by omega) (by omega) ?_
    walk_at "cl"
    have e1 : (min (s.length : Int) (s.length - (0 + k) + w) + 1 - ((s.length : Int) - (0 + k) + 1)).toNat = min k w := by omega
    rw [e1]
    refine ⟨by omega, for_rng (fun m c => ∃ (l : List Dt) (d3 : Slot), l.length = s.length + 1 ∧ (∀ j, s.length + 1 - k ≤ j → j ≤ s.length → l[j]? = some (.bl true)) ∧ ((k ≤ w ∨ E s w b (s.length - k) ≤ s.length - k + m) → l[s.length - k]? = some (.bl true)) ∧ c = [.dat (.str s), .dat (.int w), .dat (.bl b), .dat (.int s.length), .own (.lst l), .dat (.int (0 + k)), .no, .no, .no, .no, .dat (.int (s.length - (0 + k))), d3, .no, .no]) ⟨_, _, by rw [List.length_set]; exact hl, fun j h1 h2 => by rw [getSet (by omega), if_neg (by omega)]; exact hj j h1 h2, fun h => by
      have := E_gt s hw b (s.length - k)
      rw [getSet (by omega), if_pos rfl]
      have : (decide ((0 : Int) + k ≤ w)) = true := by rw [decide_eq_true_eq]; omega
      rw [this], rfl⟩ ?_ ?_⟩
    · rintro m c' hm ⟨l, d3, hl, hj, ha, rfl⟩
      unfold l_law_due1
      walk_at "cl"
      refine ixL_i (n := s.length - k + 1 + m) (by omega) (hj _ (by omega) (by omega)) ?_
      walk_at "cl"
      refine let_ok (lo := s.length - k) (hi := s.length - k + 1 + m) (by omega) (by omega) hs (by omega) fun r hr => ?_
      walk_at "cl"
      cases r with
      | true =>
        walk_at "cl"
        refine setN_i (m := s.length - k) (by omega) (by omega) ?_
        walk_at "cl"
        exact ⟨_, _, by rw [List.length_set]; exact hl, fun j h1 h2 => by rw [getSet (by omega), if_neg (by omega)]; exact hj j h1 h2, fun h => by rw [getSet (by omega), if_pos rfl], rfl⟩
      | false =>
        walk_at "cl"
        refine ⟨_, _, hl, hj, fun h => ?_, rfl⟩
        by_cases e : k ≤ w ∨ E s w b (s.length - k) ≤ s.length - k + m
        · exact ha e
        · have e2 : E s w b (s.length - k) = s.length - k + 1 + m := by omega
          have := let_E s hw b (s.length - k)
          rw [e2] at this
          exact absurd (hr.mpr this) (by simp)
    · rintro c' ⟨l, d3, hl, hj, ha, rfl⟩
      refine ⟨l, _, _, _, hl, fun j h1 h2 => ?_, rfl⟩
      by_cases e : j = s.length - k
      · rw [e]
        have := E_le s w b (s.length - k)
        exact ha (by omega)
      · exact hj j (by omega) h2
  · rintro c' ⟨l, d1, d2, d3, hl, hj, rfl⟩
    unfold t_law_due8
    walk_at "cl"
    have hj : ∀ j, j ≤ s.length → l[j]? = some (.bl true) := fun j h => hj j (by omega) h
    have key : ∀ (l6 : Slot) (acc : List Nat) (d1 d8 d10 d11 d12 : Slot), acc ++ [s.length] = eds s w b s.length 0 → acc.length ≤ 10001 → t_law_due7 (fnEnds [.dat (.str s), .dat (.int w), .dat (.bl b)] R) [.dat (.str s), .dat (.int w), .dat (.bl b), .dat (.int s.length), .own (.lst l), d1, l6, .own (.lst (acc.map fun y : Nat => Dt.int y)), d8, .no, d10, d11, d12, .no] := by
      intro l6 acc d1 d8 d10 d11 d12 he ha
      unfold t_law_due7
      walk_at "cl"
      have ee : (acc.map fun y : Nat => Dt.int y) ++ [Dt.int s.length] = (eds s w b s.length 0).map fun y : Nat => Dt.int y := by
        rw [← he, List.map_append]; rfl
      have el : (eds s w b s.length 0).length = acc.length + 1 := by rw [← he, List.length_append]; rfl
      have el2 : ((acc.map fun y : Nat => Dt.int y)).length = acc.length := List.length_map _
      rw [ee, el2]
      have eln : (((eds s w b s.length 0).map fun y : Nat => Dt.int y)).length = acc.length + 1 := by rw [List.length_map, el]
      rw [eln]
      refine ⟨by omega, by omega, lc_map (cutF (eds s w b s.length 0)) (by rw [rngD_length]; omega) (fun d hd Y hY => ?_) ?_⟩
      · obtain ⟨i, hi⟩ := List.mem_iff_getElem?.mp hd
        obtain ⟨hi, rfl⟩ := rngD_get hi
        walk_at "cl"
        have hi2 : i < (eds s w b s.length 0).length := by omega
        have hi3 : i < (0 :: eds s w b s.length 0).length := by rw [List.length_cons]; omega
        refine ⟨by omega, ixL_i (n := i) (d := .int (((0 :: eds s w b s.length 0).getD i 0 : Nat) : Int)) (by omega) ?_ ?_⟩
        · have e0 : (Dt.int 0 :: (eds s w b s.length 0).map fun y : Nat => Dt.int y) = (0 :: eds s w b s.length 0).map fun y : Nat => Dt.int y := rfl
          rw [e0, List.getElem?_map, List.getElem?_eq_getElem hi3, List.getD_eq_getElem?_getD, List.getElem?_eq_getElem hi3]
          rfl
        · walk_at "cl"
          refine ixL_i (n := i) (d := .int (((eds s w b s.length 0).getD i 0 : Nat) : Int)) (by omega) ?_ ?_
          · rw [List.getElem?_map, List.getElem?_eq_getElem hi2, List.getD_eq_getElem?_getD, List.getElem?_eq_getElem hi2]
            rfl
          · walk_at "cl"
            have e3 : cutF (eds s w b s.length 0) (.int (0 + (i : Int))) = .tup [.int (((0 :: eds s w b s.length 0).getD i 0 : Nat) : Int), .int (((eds s w b s.length 0).getD i 0 : Nat) : Int)] := by
              show pairD ((0 :: eds s w b s.length 0).getD ((0 : Int) + (i : Int)).toNat 0, (eds s w b s.length 0).getD ((0 : Int) + (i : Int)).toNat 0) = _
              rw [show ((0 : Int) + (i : Int)).toNat = i by omega]
              rfl
            rw [e3] at hY
            exact hY
      · walk_at "cl"
        have e4 : ((acc.length + 1 : Nat) : Int).toNat = (eds s w b s.length 0).length := by omega
        rw [e4, cut_all]
        exact hR
    refine ⟨by omega, for_rng (fun k c => ∃ (xs : List Nat) (x : Nat) (acc : List Nat) (d1 d8 d10 d11 d12 : Slot), xs.getLast? = some x ∧ (∀ y ∈ xs, y ≤ x) ∧ xs.length ≤ 10001 ∧ x ≤ s.length ∧ k ≤ x ∧ acc ++ eds s w b s.length x = eds s w b s.length 0 ∧ acc.length ≤ k ∧ c = [.dat (.str s), .dat (.int w), .dat (.bl b), .dat (.int s.length), .own (.lst l), d1, .own (.lst (xs.map fun y : Nat => Dt.int y)), .own (.lst (acc.map fun y : Nat => Dt.int y)), d8, .no, d10, d11, d12, .no]) ⟨[0], 0, [], _, _, _, _, _, rfl, by simp, by simp, by omega, by omega, rfl, by simp, rfl⟩ ?_ ?_⟩
    · rintro k c' hk ⟨xs, x, acc, d1, d8, d10, d11, d12, hlast, hmax, hxl, hxs, hkx, hacc, hal, rfl⟩
      have hk' : k ≤ s.length := by omega
      unfold l_law_due6
      walk_at "cl"
      refine lc_pure (nearF s.length w) (by rw [List.length_map]; omega) (fun d hd Y hY => ?_) ?_
      · obtain ⟨y, hy, rfl⟩ := List.mem_map.mp hd
        walk_at "cl"
        have e : nearF s.length w (.int y) = if (s.length : Int) - y ≤ w then some (.int y) else none := rfl
        rw [e] at hY
        refine ⟨fun h => ?_, fun h => ?_⟩
        · rw [if_pos h] at hY
          exact hY
        · rw [if_neg h] at hY
          exact hY
      walk_at "cl"
      refine ⟨fun h => ?_, fun h => ?_⟩
      · obtain ⟨y, hy, h⟩ := (near_len _).mp (by omega : 0 < ((xs.map fun y : Nat => Dt.int y).filterMap (nearF s.length w)).length)
        have := hmax y hy
        rw [eds_stop (by omega)] at hacc
        exact key _ _ _ _ _ _ _ hacc (by omega)
      have hxm : x ∈ xs := List.mem_of_getLast? hlast
      have hxw : x + w < s.length := by
        rcases Nat.lt_or_ge (x + w) s.length with z | z
        · exact z
        · exact absurd ((near_len _).mpr ⟨x, hxm, z⟩) (by omega)
      rw [rep_flat]
      have hE := E_le s w b x
      have hE2 := E_gt s hw b x
      have e0 : ((s.length : Int) + 1).toNat = s.length + 1 := by omega
      rw [e0]
      refine ⟨by omega, for_map (fun i c => ∃ (r : List Dt) (d10 d11 : Slot), (r.length = s.length + 1 ∧ ∀ j, j ≤ s.length → ∃ v : Bool, r[j]? = some (.bl v) ∧ (v = true → j ≤ E s w b x)) ∧ (i = xs.length → r[E s w b x]? = some (.bl true)) ∧ c = [.dat (.str s), .dat (.int w), .dat (.bl b), .dat (.int s.length), .own (.lst l), d1, .dat (.lst (xs.map fun y : Nat => Dt.int y)), .own (.lst (acc.map fun y : Nat => Dt.int y)), .dat (.int (0 + k)), .no, d10, d11, .own (.lst r), .no]) ⟨_, _, _, ⟨List.length_replicate, fun j hj => ⟨false, by rw [List.getElem?_replicate, if_pos (by omega)], by simp⟩⟩, fun h => ?_, rfl⟩ ?_ ?_⟩
      · have := List.length_pos_of_mem hxm
        omega
      · rintro i y c' hy ⟨r, d10, d11, ⟨hr, hrb⟩, hre, rfl⟩
        have hyx := hmax y (List.mem_of_getElem? hy)
        unfold l_law_due4
        walk_at "cl"
        have e1 : (min (s.length : Int) (y + w) + 1 - ((y : Int) + 1)).toNat = min (s.length - y) w := by omega
        rw [e1]
        refine ⟨by omega, for_rng (fun m c => ∃ (r : List Dt) (d11 : Slot), (r.length = s.length + 1 ∧ ∀ j, j ≤ s.length → ∃ v : Bool, r[j]? = some (.bl v) ∧ (v = true → j ≤ E s w b x)) ∧ (y = x → E s w b x ≤ x + m → r[E s w b x]? = some (.bl true)) ∧ c = [.dat (.str s), .dat (.int w), .dat (.bl b), .dat (.int s.length), .own (.lst l), d1, .dat (.lst (xs.map fun y : Nat => Dt.int y)), .own (.lst (acc.map fun y : Nat => Dt.int y)), .dat (.int (0 + k)), .no, .dat (.int y), d11, .own (.lst r), .no]) ⟨_, _, ⟨hr, hrb⟩, fun _ h => by omega, rfl⟩ ?_ ?_⟩
        · rintro m c' hm ⟨r, d11, ⟨hr, hrb⟩, hre, rfl⟩
          unfold l_law_due3
          walk_at "cl"
          refine ixL_i (n := y + 1 + m) (by omega) (hj _ (by omega)) ?_
          walk_at "cl"
          refine let_ok (lo := y) (hi := y + 1 + m) (by omega) (by omega) hs (by omega) fun v hv => ?_
          walk_at "cl"
          cases v with
          | true =>
            walk_at "cl"
            refine setN_i (m := y + 1 + m) (by omega) (by omega) ?_
            walk_at "cl"
            have hle := let_le hyx hw (hv.mp rfl)
            refine ⟨_, _, ⟨by rw [List.length_set]; exact hr, fun j hj => ?_⟩, fun h1 h2 => ?_, rfl⟩
            · rw [getSet (by omega)]
              by_cases e : y + 1 + m = j
              · rw [if_pos e]
                exact ⟨true, rfl, fun _ => by omega⟩
              · rw [if_neg e]
                exact hrb j hj
            · rw [getSet (by omega)]
              by_cases e : y + 1 + m = E s w b x
              · rw [if_pos e]
              · rw [if_neg e]
                exact hre h1 (by omega)
          | false =>
            walk_at "cl"
            refine ⟨_, _, ⟨hr, hrb⟩, fun h1 h2 => ?_, rfl⟩
            by_cases e : E s w b x ≤ x + m
            · exact hre h1 e
            · have e2 : E s w b x = y + 1 + m := by omega
              have := let_E s hw b x
              rw [e2, ← h1] at this
              exact absurd (hv.mpr this) (by simp)
        · rintro c' ⟨r, d11, hrr, hre, rfl⟩
          refine ⟨r, _, _, hrr, fun h => ?_, rfl⟩
          have hyl : y = x := by
            rw [List.getLast?_eq_getElem?, show xs.length - 1 = i by omega, hy] at hlast
            exact Option.some.inj hlast
          exact hre hyl (by omega)
      · rintro c' ⟨r, d10, d11, ⟨hr, hrb⟩, hre, rfl⟩
        unfold t_law_due5
        walk_at "cl"
        have hre := hre rfl
        rw [e0]
        refine ⟨by omega, lc_pure (metF r) (by rw [rngD_length]; omega) (fun d hd Y hY => ?_) ?_⟩
        · obtain ⟨i, hi⟩ := List.mem_iff_getElem?.mp hd
          obtain ⟨hi, rfl⟩ := rngD_get hi
          obtain ⟨v, hv, _⟩ := hrb i (by omega)
          walk_at "cl"
          refine ixL_i (n := i) (by omega) hv ?_
          have e : metF r (.int (0 + (i : Int))) = if v = true then some (.int (0 + (i : Int))) else none := by
            show (if tb r ((0 : Int) + (i : Int)).toNat = true then some (Dt.int (0 + (i : Int))) else none) = _
            rw [show ((0 : Int) + (i : Int)).toNat = i by omega, tb_of hv]
          rw [e] at hY
          cases v with
          | true =>
            walk_at "cl"
            exact hY
          | false =>
            walk_at "cl"
            exact hY
        walk_at "cl"
        rw [met_all]
        have hm1 : ∀ j, j < s.length + 1 → tb r j = true → j ≤ E s w b x := fun j h1 h2 => by
          obtain ⟨v, hv, hv2⟩ := hrb j (by omega)
          rw [tb_of hv] at h2
          exact hv2 h2
        have hml := met_last (n := s.length + 1) (by omega) (tb_of hre) hm1
        refine ixL_last (d := .int (E s w b x)) (by rw [List.getLast?_map, hml]; rfl) ?_
        walk_at "cl"
        refine ⟨by (first | omega | (simp only [List.length_append, List.length_cons, List.length_nil, List.length_map, List.length_replicate, List.length_set, List.length_take, List.length_drop, rngD_length, rngC_length]; omega)), metL r (s.length + 1), E s w b x, acc ++ [E s w b x], _, _, _, _, _, hml, met_le hm1, by have := met_len r (s.length + 1); omega, by omega, by omega, ?_, by (first | omega | (simp only [List.length_append, List.length_cons, List.length_nil, List.length_map, List.length_replicate, List.length_set, List.length_take, List.length_drop, rngD_length, rngC_length]; omega)), by rw [List.map_append]; rfl⟩
        rw [← hacc, eds_step hw hxw, List.append_assoc]
        rfl
    · rintro c' ⟨xs, x, acc, d1, d8, d10, d11, d12, hlast, hmax, hxl, hxs, hkx, hacc, hal, rfl⟩
      omega
theorem red_law_same (n : Nat) (F' : FS) (hF : ∀ m, n = m + 1 → F' = F_same m) : ∀ as R, as.length = P_law_same.length → F_same n as R → b_law_same F' (fnEnds as R) (c0 as N_law_same.length) := by
  rintro as R - ⟨a, rfl, hg, hR⟩
  unfold b_law_same
  cases hg with
  | non =>
    walk_at "cl"
    exact hR
  | bl b =>
    cases b <;> walk_at "cl" <;> exact hR
  | int i =>
    walk_at "cl"
    exact hR
  | str s =>
    walk_at "cl"
    exact hR
  | @tup n l h h' =>
    have hF := hF n rfl
    subst hF
    walk_at "cl"
    unfold t_law_same3
    walk_at "cl"
    refine ⟨fun _ => ⟨by omega, for_rng (fun k c => ∃ d : Slot, c = [.dat (.tup l), .dat (.tup l), d]) ⟨_, rfl⟩ ?_ ?_⟩, fun h => h.elim⟩
    · rintro k c' hk ⟨d, rfl⟩
      have hk : k < l.length := by omega
      unfold l_law_same1
      walk_at "cl"
      refine ixL_i (n := k) (by omega) (List.getElem?_eq_getElem hk) ?_
      walk_at "cl"
      refine ixL_i (n := k) (by omega) (List.getElem?_eq_getElem hk) ?_
      walk_at "cl"
      refine ⟨_, rfl, h' _ (List.getElem_mem hk), ?_⟩
      walk_at "cl"
      exact ⟨_, rfl⟩
    · rintro c' ⟨d, rfl⟩
      unfold t_law_same2
      walk_at "cl"
      exact hR
  | @lst n l h h' =>
    have hF := hF n rfl
    subst hF
    walk_at "cl"
    unfold t_law_same3
    walk_at "cl"
    refine ⟨fun _ => ⟨by omega, for_rng (fun k c => ∃ d : Slot, c = [.dat (.lst l), .dat (.lst l), d]) ⟨_, rfl⟩ ?_ ?_⟩, fun h => h.elim⟩
    · rintro k c' hk ⟨d, rfl⟩
      have hk : k < l.length := by omega
      unfold l_law_same1
      walk_at "cl"
      refine ixL_i (n := k) (by omega) (List.getElem?_eq_getElem hk) ?_
      walk_at "cl"
      refine ixL_i (n := k) (by omega) (List.getElem?_eq_getElem hk) ?_
      walk_at "cl"
      refine ⟨_, rfl, h' _ (List.getElem_mem hk), ?_⟩
      walk_at "cl"
      exact ⟨_, rfl⟩
    · rintro c' ⟨d, rfl⟩
      unfold t_law_same2
      walk_at "cl"
      exact hR
theorem same_ok {a : Dt} {R : Res → List AArg → Prop} (h : Good 3 a) (hR : R (.dat (.bl true)) [.dat a, .dat a]) : F_law_same [.dat a, .dat a] R := ⟨a, rfl, h, hR⟩
theorem laid_ok {s : List Nat} {w : Nat} {b : Bool} {x : Int} {R : Res → List AArg → Prop} (hx : x = (w : Int)) (hs : s.length ≤ 10000) (hw : 1 ≤ w) (hR : R (.dat (piecesD s w b)) [.dat (.str s), .dat (.int x), .dat (.bl b)]) : F_laid [.dat (.str s), .dat (.int x), .dat (.bl b)] R := by
  subst hx
  exact ⟨s, w, b, rfl, hs, hw, hR⟩
theorem eds_len {s : List Nat} {w : Nat} {b : Bool} : ∀ f x, (eds s w b f x).length ≤ f + 1
  | 0, x => Nat.le_refl _
  | f + 1, x => by
    unfold eds
    split
    · have := eds_len (s := s) (w := w) (b := b) f (E s w b x)
      rw [List.length_cons]
      omega
    · exact Nat.le_add_left _ _
theorem good_pieces {s : List Nat} {w : Nat} {b : Bool} (hs : s.length ≤ 10000) {n : Nat} : Good (n + 2) (piecesD s w b) := by
  refine .tup ?_ ?_
  · unfold pcs
    rw [List.length_map, prs_len]
    have := eds_len (s := s) (w := w) (b := b) s.length 0
    omega
  · intro d hd
    unfold pcs at hd
    obtain ⟨p, _, rfl⟩ := List.mem_map.mp hd
    refine .tup (by simp) ?_
    intro d hd
    simp at hd
    rcases hd with rfl | rfl
    · exact .int _
    · exact .int _
def plainF (n w : Nat) (d : Dt) : Dt := match d with
  | .int i => .tup [.int i, .int (min (n : Int) (i + w))]
  | _ => .non
theorem plain_all {s : List Nat} {w : Nat} (hw : 1 ≤ w) : ∀ m x, x < s.length → x + m * w < s.length → s.length ≤ x + (m + 1) * w → (rngC x w (m + 1)).map (plainF s.length w) = pcs s w false x
  | 0, x, h, h1, h2 => by
    rw [pcs_stop (by omega)]
    show [plainF s.length w (.int (x + (0 : Nat) * w))] = _
    show [Dt.tup [.int (x + (0 : Nat) * w), .int (min (s.length : Int) (x + (0 : Nat) * w + w))]] = _
    rw [show (x : Int) + (0 : Nat) * w = x by simp, show min (s.length : Int) (x + w) = s.length by omega]
    rfl
  | m + 1, x, h, h1, h2 => by
    have e : (m + 1) * w = m * w + w := by rw [Nat.succ_mul]
    have e2 : (m + 1 + 1) * w = m * w + w + w := by rw [Nat.succ_mul, Nat.succ_mul]
    rw [pcs_step hw (by omega)]
    have e3 : rngC x w (m + 1 + 1) = .int (x + (0 : Nat) * w) :: rngC ((x + w : Nat) : Int) w (m + 1) := by
      unfold rngC
      rw [List.range_succ_eq_map, List.map_cons, List.map_map]
      congr 1
      apply List.map_congr_left
      intro k _
      show Dt.int ((x : Int) + ((k + 1 : Nat) : Int) * w) = Dt.int (((x + w : Nat) : Int) + k * w)
      congr 1
      rw [Int.natCast_add k 1, Int.add_mul]
      omega
    rw [e3, List.map_cons, plain_all hw m (x + w) (by omega) (by omega) (by omega)]
    have e4 : E s w false x = x + w := rfl
    rw [e4]
    congr 1
    show Dt.tup [.int (x + (0 : Nat) * w), .int (min (s.length : Int) (x + (0 : Nat) * w + w))] = _
    rw [show (x : Int) + (0 : Nat) * w = x by simp, show min (s.length : Int) (x + w) = ((x + w : Nat) : Int) by omega]
    rfl
theorem step_plain {s : List Nat} {w : Nat} (hw : 1 ≤ w) (hs : 1 ≤ s.length) : (rngC 0 w (stepN 0 s.length w)).map (plainF s.length w) = pcs s w false 0 := by
  have e : stepN 0 s.length w = (s.length - 1) / w + 1 := by
    unfold stepN
    rw [if_pos (by omega)]
    have : ((s.length : Int) - 0 - 1) = ((s.length - 1 : Nat) : Int) := by omega
    rw [this, ← Int.natCast_ediv]
    rw [show (((s.length - 1) / w : Nat) : Int) + 1 = (((s.length - 1) / w + 1 : Nat) : Int) from rfl, Int.toNat_natCast]
  rw [e]
  have h1 := Nat.div_mul_le_self (s.length - 1) w
  have h2 := Nat.lt_div_mul_add (a := s.length - 1) (b := w) (by omega)
  refine plain_all hw _ 0 (by omega) (by omega) ?_
  rw [Nat.succ_mul]
  omega
theorem lastV_cut {s : List Nat} {x h : Nat} {v : Int} (hh : h ≤ s.length) (hx : x ≤ h) (hv : IsLast ((s.drop x).take (h - x)) 32 0 ((s.drop x).take (h - x)).length v) : lastV s x h = if v = -1 then -1 else (x : Int) + v := by
  refine isLast_uniq (lastV_is s x h) ?_
  have hl : ((s.drop x).take (h - x)).length = h - x := by rw [List.length_take, List.length_drop]; omega
  have hg : ∀ i, i < h - x → ((s.drop x).take (h - x))[i]? = s[x + i]? := fun i hi => by rw [List.getElem?_take_of_lt hi, List.getElem?_drop]
  rw [hl] at hv
  rcases hv with ⟨rfl, q⟩ | ⟨n, rfl, q1, q2, q3, q4⟩
  · refine .inl ⟨by simp, fun i h1 h2 => ?_⟩
    have := q (i - x) (by omega) (by omega)
    rw [hg _ (by omega), show x + (i - x) = i by omega] at this
    exact this
  · refine .inr ⟨x + n, by rw [if_neg (by omega)]; omega, by omega, by omega, ?_, fun m h1 h2 => ?_⟩
    · rw [← hg _ q2]
      exact q3
    · have := q4 (m - x) (by omega) (by omega)
      rw [hg _ (by omega), show x + (m - x) = m by omega] at this
      exact this
theorem red_law_far : ∀ as R, as.length = P_law_far.length → F_law_far as R → b_law_far (fnEnds as R) (c0 as N_law_far.length) := by
  rintro as R - ⟨o', rfl, ho', hR⟩
  unfold b_law_far
  walk_at "cl"
  refine nx_ok ho' (by omega) fun r1 o1 h1 g1 g2 => ?_
  walk_at "cl"
  refine ixL_mem g1 (by simpa using g2) fun d hd => ?_
  have hd : ∃ m : Int, d = .int m ∧ 3 ≤ m ∧ m ≤ 77 := by
    simp at hd
    rcases hd with rfl | rfl
    · exact ⟨3, rfl, by omega, by omega⟩
    · exact ⟨77, rfl, by omega, by omega⟩
  obtain ⟨m, rfl, hm1, hm2⟩ := hd
  walk_at "cl"
  refine nx_ok h1 (by omega) fun r2 o2 h2 g3 g4 => ?_
  walk_at "cl"
  refine nx_ok h2 (by omega) fun r3 o3 h3 g5 g6 => ?_
  walk_at "cl"
  refine nx_ok h3 (by omega) fun r4 o4 h4 g7 g8 => ?_
  walk_at "cl"
  obtain ⟨w, hw⟩ : ∃ w : Nat, 4 + r2 = (w : Int) := ⟨(4 + r2).toNat, by omega⟩
  obtain ⟨n, hn⟩ : ∃ n : Nat, 1000 + r4 = (n : Int) := ⟨(1000 + r4).toNat, by omega⟩
  rw [hw, hn]
  refine ⟨by omega, by rw [rngD_length]; omega, fun k acc c => ∃ (o : Ob) (t : List Nat), isPool o ∧ t.length = k ∧ acc = t.map (fun ch => Dt.str [ch]) ∧ c = [.arg o, .dat (.int w), .dat (.int (2 + r3)), .dat (.int n), .no, .no, .no, .no, .no, .no, .no, .no], ⟨o4, [], h4, rfl, rfl, rfl⟩, ?_, ?_⟩
  · rintro k acc d c' hd _ ⟨o, t, ho, ht, rfl, rfl⟩
    obtain ⟨hk, rfl⟩ := rngD_get hd
    walk_at "cl"
    refine nx_ok ho (by omega) fun r5 o5 h5 g9 g10 => ?_
    walk_at "cl"
    obtain ⟨ch, hch⟩ : ∃ ch, [120, 32, 121][(min r5 2).toNat]? = some ch := by
      have : (min r5 2).toNat < 3 := by omega
      exact ⟨_, List.getElem?_eq_getElem this⟩
    refine ixS_i (n := (min r5 2).toNat) (by omega) hch ?_
    walk_at "cl"
    exact ⟨o5, t ++ [ch], h5, by (first | omega | (simp only [List.length_append, List.length_cons, List.length_nil, List.length_map, List.length_replicate, List.length_set, List.length_take, List.length_drop, rngD_length, rngC_length]; omega)), by rw [List.map_append]; rfl, rfl⟩
  rintro acc c' _ ⟨o, s, ho, ht, rfl, rfl⟩
  rw [rngD_length, Int.toNat_natCast] at ht
  walk_at "cl"
  rw [join_chars]
  refine ⟨by omega, ?_⟩
  walk_at "cl"
  refine ⟨_, rgC_pos (by omega) (by omega) (by omega) (by omega) (by omega) (by omega), ?_⟩
  subst ht
  refine lc_map (plainF s.length w) ?_ (fun d hd Y hY => ?_) ?_
  · rw [rngC_length]
    unfold stepN
    rw [if_pos (by omega)]
    have : ((s.length : Int) - 0 - 1) / w ≤ (s.length : Int) - 0 - 1 := Int.ediv_le_self _ (by omega)
    omega
  · obtain ⟨i, hi⟩ := List.mem_iff_getElem?.mp hd
    obtain ⟨hi, rfl⟩ := rngC_get hi
    walk_at "cl"
    exact hY
  walk_at "cl"
  rw [step_plain (by omega) (by omega)]
  have hw1 : 1 ≤ w := by omega
  have hs : s.length ≤ 10000 := by omega
  have key : ∀ (acc : List Dt) (d7 d8 d9 d10 : Slot), acc = pcs s w true 0 → t_law_far3 (fnEnds [.ob o'] R) [.arg o, .dat (.int w), .dat (.int (2 + r3)), .dat (.int s.length), .dat (.str s), .own (.lst (pcs s w false 0)), .own (.lst acc), d7, d8, d9, d10, .no] := by
    rintro acc d7 d8 d9 d10 rfl
    unfold t_law_far3
    walk_at "cl"
    refine laid_ok rfl hs hw1 ?_
    walk_at "cl"
    refine laid_ok rfl hs hw1 ?_
    walk_at "cl"
    refine same_ok (.tup (by simp) ?_) ?_
    · intro d hd
      simp at hd
      rcases hd with rfl | rfl
      · exact good_pieces hs
      · exact good_pieces hs
    · walk_at "cl"
      exact hR _ ho
  refine ⟨by omega, for_rng (fun k c => ∃ (x : Nat) (acc : List Dt) (d8 d9 d10 : Slot), acc ++ pcs s w true x = pcs s w true 0 ∧ acc.length ≤ k ∧ k ≤ x ∧ x < s.length ∧ c = [.arg o, .dat (.int w), .dat (.int (2 + r3)), .dat (.int s.length), .dat (.str s), .own (.lst (pcs s w false 0)), .own (.lst acc), .dat (.int x), d8, d9, d10, .no]) ⟨0, [], _, _, _, rfl, by simp, by omega, by omega, rfl⟩ ?_ ?_⟩
  · rintro k c' hk ⟨x, acc, d8, d9, d10, hacc, hal, hkx, hxs, rfl⟩
    unfold l_law_far2
    walk_at "cl"
    obtain ⟨y, hy⟩ : ∃ y : Nat, min (s.length : Int) (x + w) = (y : Int) := ⟨(min (s.length : Int) (x + w)).toNat, by omega⟩
    rw [hy]
    rw [cut_nat (by omega) (by omega)]
    refine ⟨by (first | omega | (simp only [List.length_append, List.length_cons, List.length_nil, List.length_map, List.length_replicate, List.length_set, List.length_take, List.length_drop, rngD_length, rngC_length]; omega)), by (first | omega | (simp only [List.length_append, List.length_cons, List.length_nil, List.length_map, List.length_replicate, List.length_set, List.length_take, List.length_drop, rngD_length, rngC_length]; omega)), fun v hv => ?_⟩
    have hv0 : -1 ≤ v := by
      rcases hv with ⟨rfl, _⟩ | ⟨n, rfl, _⟩ <;> omega
    have hv := lastV_cut (by omega) (by omega) hv
    have far1 : ∀ (z : Nat) (d10 : Slot), z = (if x + w < s.length then E s w true x else s.length) → t_law_far1 { nx := fun c => ∃ (x : Nat) (acc : List Dt) (d8 d9 d10 : Slot), acc ++ pcs s w true x = pcs s w true 0 ∧ acc.length ≤ k + 1 ∧ k + 1 ≤ x ∧ x < s.length ∧ c = [.arg o, .dat (.int w), .dat (.int (2 + r3)), .dat (.int s.length), .dat (.str s), .own (.lst (pcs s w false 0)), .own (.lst acc), .dat (.int x), d8, d9, d10, .no], rt := (fnEnds [.ob o'] R).rt, bk := t_law_far3 (fnEnds [.ob o'] R), ct := fun c => ∃ (x : Nat) (acc : List Dt) (d8 d9 d10 : Slot), acc ++ pcs s w true x = pcs s w true 0 ∧ acc.length ≤ k + 1 ∧ k + 1 ≤ x ∧ x < s.length ∧ c = [.arg o, .dat (.int w), .dat (.int (2 + r3)), .dat (.int s.length), .dat (.str s), .own (.lst (pcs s w false 0)), .own (.lst acc), .dat (.int x), d8, d9, d10, .no] } [.arg o, .dat (.int w), .dat (.int (2 + r3)), .dat (.int s.length), .dat (.str s), .own (.lst (pcs s w false 0)), .own (.lst acc), .dat (.int x), .dat (.int (0 + k)), .dat (.int z), d10, .no] := by
      intro z d10 hz
      unfold t_law_far1
      walk_at "cl"
      have h1 := E_gt s hw1 true x
      have h2 := E_le s w true x
      by_cases q : x + w < s.length
      · rw [if_pos q] at hz
        refine ⟨by omega, fun h => by omega, fun h => ⟨z, _, _, _, _, ?_, by (first | omega | (simp only [List.length_append, List.length_cons, List.length_nil, List.length_map, List.length_replicate, List.length_set, List.length_take, List.length_drop, rngD_length, rngC_length]; omega)), by omega, by omega, rfl⟩⟩
        rw [← hacc, pcs_step hw1 q, List.append_assoc, hz]
        rfl
      · rw [if_neg q] at hz
        refine ⟨by omega, fun h => key _ _ _ _ _ ?_, fun h => by omega⟩
        rw [← hacc, pcs_stop q, hz]
        rfl
    refine ⟨fun h => ⟨fun h2 => ?_, fun h2 => ?_⟩, fun h => ?_⟩
    · have e : x + w = y := by omega
      have hE : E s w true x = (x + (v + 1)).toNat := by
        have hv1 : lastV s x y = x + v := by rw [hv, if_neg (by omega)]
        unfold E
        rw [if_pos rfl, e, hv1, if_pos (by omega)]
        omega
      rw [show (x : Int) + (v + 1) = ((E s w true x : Nat) : Int) by omega]
      exact far1 _ _ (by rw [if_pos (by omega)])
    · have e : x + w = y := by omega
      have hE : E s w true x = y := by
        have hv1 : lastV s x y = -1 := by rw [hv, if_pos (by omega)]
        unfold E
        rw [if_pos rfl, e, hv1, if_neg (by omega)]
      exact far1 _ _ (by rw [if_pos (by omega), hE])
    · exact far1 _ _ (by rw [if_neg (by omega)]; omega)
  · rintro c' ⟨x, acc, d8, d9, d10, hacc, hal, hkx, hxs, rfl⟩
    omega
theorem band_ok {o : Ob} {w : Nat} {x : Int} {R : Res → List AArg → Prop} (hx : x = (w : Int)) (ho : isPool o) (h1 : 4 ≤ w) (h2 : w ≤ 80) (hR : ∀ (s : List Nat) o', isPool o' → s.length ≤ 1000 → R (.dat (.str s)) [.ob o', .dat (.int x)]) : F_law_band [.ob o, .dat (.int x)] R := ⟨o, x, rfl, ho, by omega, by omega, hR⟩
theorem due_ok {s : List Nat} {w : Nat} {b : Bool} {x : Int} {R : Res → List AArg → Prop} (hx : x = (w : Int)) (hs : s.length ≤ 10000) (hw : 1 ≤ w) (hR : R (.dat (piecesD s w b)) [.dat (.str s), .dat (.int x), .dat (.bl b)]) : F_law_due [.dat (.str s), .dat (.int x), .dat (.bl b)] R := by
  subst hx
  exact ⟨s, w, b, rfl, hs, hw, hR⟩
theorem red_law : ∀ as R, as.length = P_law.length → F_law as R → b_law (fnEnds as R) (c0 as N_law.length) := by
  rintro as R - ⟨ns, rfl, hn, hR⟩
  unfold b_law
  walk_at "cl"
  refine ⟨ns, rfl, hn, fun o ho => ?_⟩
  walk_at "cl"
  refine for_rng (fun k c => ∃ (o : Ob) (d2 d3 d4 d5 : Slot), isPool o ∧ c = [.dat (.frz (ns.map .int)), .own o, d2, d3, d4, d5]) ⟨o, _, _, _, _, ho, rfl⟩ ?_ ?_
  · rintro k c' hk ⟨o, d2, d3, d4, d5, ho, rfl⟩
    unfold l_law1
    walk_at "cl"
    refine nx_ok ho (by omega) fun r1 o1 h1 g1 g2 => ?_
    walk_at "cl"
    refine ixL_mem g1 (by simpa using g2) fun d hd => ?_
    have hd : ∃ m : Int, d = .int m ∧ 5 ≤ m ∧ m ≤ 77 := by
      simp at hd
      rcases hd with rfl | rfl | rfl
      · exact ⟨5, rfl, by omega, by omega⟩
      · exact ⟨9, rfl, by omega, by omega⟩
      · exact ⟨77, rfl, by omega, by omega⟩
    obtain ⟨m, rfl, hm1, hm2⟩ := hd
    walk_at "cl"
    refine nx_ok h1 (by omega) fun r2 o2 h2 g3 g4 => ?_
    walk_at "cl"
    obtain ⟨w, hw⟩ : ∃ w : Nat, 4 + r2 = (w : Int) := ⟨(4 + r2).toNat, by omega⟩
    rw [hw]
    refine band_ok rfl h2 (by omega) (by omega) fun s o3 h3 hs => ?_
    walk_at "cl"
    refine due_ok rfl (by omega) (by omega) ?_
    walk_at "cl"
    refine laid_ok rfl (by omega) (by omega) ?_
    walk_at "cl"
    refine same_ok (good_pieces (by omega)) ?_
    walk_at "cl"
    refine laid_ok rfl (by omega) (by omega) ?_
    walk_at "cl"
    refine same_ok (good_pieces (by omega)) ?_
    walk_at "cl"
    refine laid_ok rfl (by omega) (by omega) ?_
    walk_at "cl"
    refine due_ok rfl (by omega) (by omega) ?_
    walk_at "cl"
    refine same_ok (good_pieces (by omega)) ?_
    walk_at "cl"
    exact ⟨o3, _, _, _, _, h3, rfl⟩
  · rintro c' ⟨o, d2, d3, d4, d5, ho, rfl⟩
    unfold t_law2
    walk_at "cl"
    refine nx_ok ho (by omega) fun r1 o1 h1 g1 g2 => ?_
    walk_at "cl"
    refine nx_ok h1 (by omega) fun r2 o2 h2 g3 g4 => ?_
    walk_at "cl"
    obtain ⟨w, hw⟩ : ∃ w : Nat, 4 + r1 = (w : Int) := ⟨(4 + r1).toNat, by omega⟩
    rw [hw]
    refine laid_ok rfl (Nat.zero_le _) (by omega) ?_
    walk_at "cl"
    have e : piecesD [] w (decide (r2 = 0)) = .tup [.tup [.int 0, .int 0]] := by
      unfold piecesD
      rw [pcs_stop (by simp)]
      rfl
    have hg := good_pieces (s := []) (w := w) (b := decide (r2 = 0)) (Nat.zero_le _) (n := 1)
    rw [e] at hg ⊢
    refine same_ok hg ?_
    walk_at "cl"
    refine nx_ok h2 (by omega) fun r3 o3 h3 g5 g6 => ?_
    walk_at "cl"
    refine ⟨fun _ => hR, fun _ => ⟨o3, rfl, h3, fun o4 h4 => ?_⟩⟩
    walk_at "cl"
    exact hR
end K61


namespace K61
open PySem PySem.Spec PyProof.Rows L2 Cl
theorem law_ok (ns : List Int) (h : ns.length ≤ 63) (R : Res → List AArg → Prop) (hR : ∀ as, R (.dat (.bl true)) as) : F_law [.dat (.frz (ns.map .int))] R := ⟨ns, rfl, h, hR _⟩
def d_piece_end : He.DefD := ⟨("_piece_end", none), "_piece_end", "_piece_end", defArgs s_piece_end, defBody s_piece_end, defScope s_piece_end, [], []⟩
def d_laid : He.DefD := ⟨("laid", none), "laid", "laid", defArgs s_laid, defBody s_laid, defScope s_laid, [], [("wordwise", .bl false)]⟩
def d_law_pool : He.DefD := ⟨("_law_pool", none), "_law_pool", "_law_pool", defArgs s_law_pool, defBody s_law_pool, defScope s_law_pool, [], []⟩
def d_law_next : He.DefD := ⟨("_law_next", none), "_law_next", "_law_next", defArgs s_law_next, defBody s_law_next, defScope s_law_next, [], []⟩
def d_law_signs : He.DefD := ⟨("_law_signs", none), "_law_signs", "_law_signs", defArgs s_law_signs, defBody s_law_signs, defScope s_law_signs, [], []⟩
def d_law_same : He.DefD := ⟨("_law_same", none), "_law_same", "_law_same", defArgs s_law_same, defBody s_law_same, defScope s_law_same, [], []⟩
def d_law_band : He.DefD := ⟨("_law_band", none), "_law_band", "_law_band", defArgs s_law_band, defBody s_law_band, defScope s_law_band, [], []⟩
def d_law_let : He.DefD := ⟨("_law_let", none), "_law_let", "_law_let", defArgs s_law_let, defBody s_law_let, defScope s_law_let, [], []⟩
def d_law_due : He.DefD := ⟨("_law_due", none), "_law_due", "_law_due", defArgs s_law_due, defBody s_law_due, defScope s_law_due, [], []⟩
def d_law_far : He.DefD := ⟨("_law_far", none), "_law_far", "_law_far", defArgs s_law_far, defBody s_law_far, defScope s_law_far, [], []⟩
def d_law : He.DefD := ⟨("law", none), "law", "law", defArgs s_law, defBody s_law, defScope s_law, [], []⟩
def fn : List He.DefD := [d_piece_end, d_laid, d_law_pool, d_law_next, d_law_signs, d_law_same, d_law_band, d_law_let, d_law_due, d_law_far, d_law]
def fa : List He.Fa := [.glo "_piece_end", .glo "laid", .glo "_law_pool", .glo "_law_next", .glo "_law_signs", .glo "_law_same", .glo "_law_band", .glo "_law_let", .glo "_law_due", .glo "_law_far", .glo "law", .free "abs", .free "bool", .free "int", .free "isinstance", .free "len", .free "list", .free "min", .free "range", .free "str", .free "tuple"]
abbrev RR : PySem.W.OpenRow := PySem.W.OpenLaw.row PySem.Challenge.rw_deedstand_k61_whole_fewest_pieces
abbrev hk : PySem.W.Hook := He.hookD 4 fa fn
def ob (s : PySem.W.SharedT) : He.AlD := He.obsDG 4 fa fn (HandSHeadRun.getT s)
theorem ob_eq (s : PySem.W.SharedT) : ob s = hk.obs s.abs := He.obsDG_eq (HandSHeadRun.getT_eq s)
set_option maxHeartbeats 0 in
theorem run (w : World) : HandSHeadRun.RunEq RR (PySem.W.view RR.prog [12]) hk ob 3000 ["_piece_end", "laid", "_law_pool", "_law_next", "_law_signs", "_law_same", "_law_band", "_law_let", "_law_due", "_law_far"] w := by
  intro os
  kernel_rfl
theorem facts {P : Program} {w : World} {K : PySem.W.Frag} {h : Heap} {mg : Str → Option Value} {f : Addr} (X : K.In h) (G : h.Ns mainGlobals mg) (hfa : mg ("law" : Str) = some (.ref f)) (c : He.SaysD fa fn K) :
    ∃ fd : FuncData, (∀ (s : Shared) (v : Value), BindsTo s fd ⟨[v], []⟩ [("script", v)]) ∧ ∀ base : Heap, K.In base → base.Ns mainGlobals mg → FnOk P w K mg base CX0 6 f fd ["script"] (spC K noPool 1 F_law) := by
  obtain ⟨fd_piece_end, F_piece_end_⟩ := c.def_ 0 (d := d_piece_end) rfl
  have m_piece_end := He.glo_ok X G (c.fact 0 (f := .glo "_piece_end") rfl)
  obtain ⟨fd_laid, F_laid_⟩ := c.def_ 1 (d := d_laid) rfl
  have m_laid := He.glo_ok X G (c.fact 1 (f := .glo "laid") rfl)
  obtain ⟨fd_law_pool, F_law_pool_⟩ := c.def_ 2 (d := d_law_pool) rfl
  have m_law_pool := He.glo_ok X G (c.fact 2 (f := .glo "_law_pool") rfl)
  obtain ⟨fd_law_next, F_law_next_⟩ := c.def_ 3 (d := d_law_next) rfl
  have m_law_next := He.glo_ok X G (c.fact 3 (f := .glo "_law_next") rfl)
  obtain ⟨fd_law_signs, F_law_signs_⟩ := c.def_ 4 (d := d_law_signs) rfl
  have m_law_signs := He.glo_ok X G (c.fact 4 (f := .glo "_law_signs") rfl)
  obtain ⟨fd_law_same, F_law_same_⟩ := c.def_ 5 (d := d_law_same) rfl
  have m_law_same := He.glo_ok X G (c.fact 5 (f := .glo "_law_same") rfl)
  obtain ⟨fd_law_band, F_law_band_⟩ := c.def_ 6 (d := d_law_band) rfl
  have m_law_band := He.glo_ok X G (c.fact 6 (f := .glo "_law_band") rfl)
  obtain ⟨fd_law_let, F_law_let_⟩ := c.def_ 7 (d := d_law_let) rfl
  have m_law_let := He.glo_ok X G (c.fact 7 (f := .glo "_law_let") rfl)
  obtain ⟨fd_law_due, F_law_due_⟩ := c.def_ 8 (d := d_law_due) rfl
  have m_law_due := He.glo_ok X G (c.fact 8 (f := .glo "_law_due") rfl)
  obtain ⟨fd_law_far, F_law_far_⟩ := c.def_ 9 (d := d_law_far) rfl
  have m_law_far := He.glo_ok X G (c.fact 9 (f := .glo "_law_far") rfl)
  obtain ⟨fd_law, F_law_⟩ := c.def_ 10 (d := d_law) rfl
  have m_law := He.glo_ok X G (c.fact 10 (f := .glo "law") rfl)
  have z_abs : mg "abs" = none := He.free_ok X G (c.fact 11 (f := .free "abs") rfl)
  have z_bool : mg "bool" = none := He.free_ok X G (c.fact 12 (f := .free "bool") rfl)
  have z_int : mg "int" = none := He.free_ok X G (c.fact 13 (f := .free "int") rfl)
  have z_isinstance : mg "isinstance" = none := He.free_ok X G (c.fact 14 (f := .free "isinstance") rfl)
  have z_len : mg "len" = none := He.free_ok X G (c.fact 15 (f := .free "len") rfl)
  have z_list : mg "list" = none := He.free_ok X G (c.fact 16 (f := .free "list") rfl)
  have z_min : mg "min" = none := He.free_ok X G (c.fact 17 (f := .free "min") rfl)
  have z_range : mg "range" = none := He.free_ok X G (c.fact 18 (f := .free "range") rfl)
  have z_str : mg "str" = none := He.free_ok X G (c.fact 19 (f := .free "str") rfl)
  have z_tuple : mg "tuple" = none := He.free_ok X G (c.fact 20 (f := .free "tuple") rfl)
  have e := hfa.symm.trans m_law
  cases e
  have b := FunD.bindsA (ps := ["script"]) F_law_ fun _ _ _ _ _ _ us hl => match us, hl with | [_], _ => rfl
  refine ⟨fd_law, fun s v => b s [v] rfl, fun base _ _ => ?_⟩
  have D_law_pool : Def P w K mg base noPool CX0 1 "_law_pool" s_law_pool [] [] P_law_pool F_law_pool := ⟨_, _, fnC F_law_pool_ sc_law_pool (fun _ _ _ _ _ _ hr => q_law_pool z_abs z_int z_range hr) red_law_pool, m_law_pool, F_law_pool_.kp, F_law_pool_⟩
  have D_law_signs : Def P w K mg base noPool CX0 1 "_law_signs" s_law_signs [] [] P_law_signs F_law_signs := ⟨_, _, fnC F_law_signs_ sc_law_signs (fun _ _ _ _ _ _ hr => q_law_signs  hr) red_law_signs, m_law_signs, F_law_signs_.kp, F_law_signs_⟩
  have D_law_next : Def P w K mg base noPool CX0 1 "_law_next" s_law_next [] [] P_law_next F_law_next := ⟨_, _, fnC F_law_next_ sc_law_next (fun _ _ _ _ _ _ hr => q_law_next z_int z_len hr) red_law_next, m_law_next, F_law_next_.kp, F_law_next_⟩
  have D_law_band : Def P w K mg base noPool CX0 2 "_law_band" s_law_band [] [] P_law_band F_law_band := ⟨_, _, fnC F_law_band_ sc_law_band (fun _ _ _ _ _ _ hr => q_law_band D_law_signs D_law_next z_range hr) red_law_band, m_law_band, F_law_band_.kp, F_law_band_⟩
  have D_law_let : Def P w K mg base noPool CX0 1 "_law_let" s_law_let [] [] P_law_let F_law_let := ⟨_, _, fnC F_law_let_ sc_law_let (fun _ _ _ _ _ _ hr => q_law_let  hr) red_law_let, m_law_let, F_law_let_.kp, F_law_let_⟩
  have D_law_due : Def P w K mg base noPool CX0 2 "_law_due" s_law_due [] [] P_law_due F_law_due := ⟨_, _, fnC F_law_due_ sc_law_due (fun _ _ _ _ _ _ hr => q_law_due D_law_let z_len z_min z_range z_tuple hr) red_law_due, m_law_due, F_law_due_.kp, F_law_due_⟩
  have D_law_same : Def P w K mg base noPool CX0 4 "_law_same" s_law_same [] [] P_law_same F_law_same := by
    have D0 : Def P w K mg base noPool CX0 0 "_law_same" s_law_same [] [] P_law_same (fun _ _ => False) := ⟨_, _, bot_ok, m_law_same, F_law_same_.kp, F_law_same_⟩
    have S : ∀ {k : Nat} {F F' : FS}, 0 ≤ k → Def P w K mg base noPool CX0 k "_law_same" s_law_same [] [] P_law_same F' → (∀ as R, as.length = P_law_same.length → F as R → b_law_same F' (fnEnds as R) (c0 as N_law_same.length)) → Def P w K mg base noPool CX0 (k + 1) "_law_same" s_law_same [] [] P_law_same F := fun hk D' red => ⟨_, _, fnC F_law_same_ sc_law_same (fun _ _ _ _ _ _ hr => q_law_same hk D' z_bool z_int z_isinstance z_len z_list z_range z_str z_tuple hr) red, m_law_same, F_law_same_.kp, F_law_same_⟩
    have D1 := S (F := F_same 0) (by decide) D0 (red_law_same 0 _ (by intro m h; cases h))
    have D2 := S (F := F_same 1) (by decide) D1 (red_law_same 1 _ (by intro m h; cases h; rfl))
    have D3 := S (F := F_same 2) (by decide) D2 (red_law_same 2 _ (by intro m h; cases h; rfl))
    have D4 := S (F := F_same 3) (by decide) D3 (red_law_same 3 _ (by intro m h; cases h; rfl))
    exact D4
  have D_piece_end : Def P w K mg base noPool CX0 1 "_piece_end" s_piece_end [] [] P_piece_end F_piece_end := ⟨_, _, fnC F_piece_end_ sc_piece_end (fun _ _ _ _ _ _ hr => q_piece_end  hr) red_piece_end, m_piece_end, F_piece_end_.kp, F_piece_end_⟩
  have D_laid : Def P w K mg base noPool CX0 2 "laid" s_laid [] [("wordwise", .bl false)] P_laid F_laid := ⟨_, _, fnC F_laid_ sc_laid (fun _ _ _ _ _ _ hr => q_laid D_piece_end z_len z_tuple hr) red_laid, m_laid, F_laid_.kp, F_laid_⟩
  have D_law_far : Def P w K mg base noPool CX0 5 "_law_far" s_law_far [] [] P_law_far F_law_far := ⟨_, _, fnC F_law_far_ sc_law_far (fun _ _ _ _ _ _ hr => q_law_far D_law_same D_law_next D_laid z_min z_range z_tuple hr) red_law_far, m_law_far, F_law_far_.kp, F_law_far_⟩
  exact fnC F_law_ sc_law (fun _ _ _ _ _ _ hr => q_law D_law_pool D_law_band D_law_due D_law_same D_law_far D_law_next D_laid z_range hr) red_law
end K61
open PySem PySem.W PySem.Calls PyProof.Rows
set_option maxHeartbeats 0 in
theorem PySem.Challenge.cw_deedstand_k61_whole_fewest_pieces_holds : PySem.Challenge.rw_deedstand_k61_whole_fewest_pieces.Holds := by
  w_on; o_law
  refine HandSHeadRun.head_any (r := OpenLaw.row PySem.Challenge.rw_deedstand_k61_whole_fewest_pieces) (q := view (OpenLaw.row PySem.Challenge.rw_deedstand_k61_whole_fewest_pieces).prog [12]) (H := K61.hk) (ob := K61.ob) (M := 3000) (loose := ["_piece_end", "laid", "_law_pool", "_law_next", "_law_signs", "_law_same", "_law_band", "_law_let", "_law_due", "_law_far"]) (d := HandSHeadRun.topDef (OpenLaw.row PySem.Challenge.rw_deedstand_k61_whole_fewest_pieces).prog 12) (kwd := []) K61.ob_eq
    (by kernel_rfl) (fun s => by kernel_rfl) K61.run (by kernel_rfl) (by kernel_rfl) (by kernel_rfl) (by rfl) (by first | assumption | decide +kernel) (by decide +kernel) ⟨rfl, rfl, rfl, rfl, rfl, by decide +kernel⟩ ?hw ?hc
  case hw => w_witness2
  case hc =>
    refine L2.walk_ofE (l := PySem.Challenge.rw_deedstand_k61_whole_fewest_pieces) (n := 63) (k := 6) (x := "script") (CX := L2.CX0) rfl (by decide) (by kernel_rfl) ⟨rfl, by decide, by decide⟩ ?F (fun _ _ _ _ z => z)
    intro w mg fa h Y G hmg0
    obtain ⟨K, KX, c⟩ := Y
    have hmg : mg ("law" : PySem.Str) = some (.ref fa) := by
      have e : (HandSHeadRun.topDef (OpenLaw.row PySem.Challenge.rw_deedstand_k61_whole_fewest_pieces).prog 12).name = ("law" : PySem.Str) := by kernel_rfl
      rw [← e]
      exact hmg0
    obtain ⟨fd, hb, hF⟩ := K61.facts (P := (PySem.Challenge.rw_deedstand_k61_whole_fewest_pieces).prog) (w := w) KX G hmg c
    exact ⟨K, fd, _, KX, hb, fun H a ns hl _ hS => Cl.law_sp K61.law_ok hl hS, hF⟩
