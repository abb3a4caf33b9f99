import PyProof.Rows.All
import Wide.All
import OpenK.AllK
import Wide.FinOn
import HandS.ForMost
import HandS.StrMore
import HandS.TupMul
import HandS.Defaults
import HandS.IsInst
import KE.GoesEnum
import KE.GoesMore
import HandS.Rev
import HandS.Iter
import HandS.Deep
import HandS.Conv
import HandS.NoneIn
import HandS.Zip
import HandS.TupAny
import HandS.TupLe
import HandS.Style
import KE.KRevSl
import KE.KStateDown
import HandS.Head0
import HandS.Head1
import HandS.Head2
import HandS.HeadEnd
import HandS.HeadHook1
import HandS.HeadHook2
import PySem.Challenge.RW_deedstand_k26_whole_chain_papers
set_option Elab.async false
set_option linter.all false
set_option maxRecDepth 100000
set_option maxHeartbeats 400000
namespace Cl
open PySem PySem.Spec PyProof.Rows L2

/-! ### plain data -/
inductive Dt where
  | non | bl (b : Bool) | int (i : Int) | str (s : List Nat) | tup (l : List Dt) | lst (l : List Dt) | frz (l : List Dt)

def S (s : List Nat) : Str := ⟨s.toArray⟩
theorem S_tl (s : List Nat) : (S s).cps.toList = s := rfl
theorem S_len (s : List Nat) : (S s).length = s.length := by simp [S, Str.length]
theorem S_inj {s t : List Nat} (h : S s = S t) : s = t := by
  have := congrArg (fun x => x.cps.toList) h
  simpa [S] using this
theorem S_of (x : Str) : x = S x.cps.toList := by cases x; rfl

mutual
def Rep (K : PySem.W.Frag) (B : Hp) : Dt → V → Prop
  | .non, v => v = .non
  | .bl b, v => v = .bl b
  | .int i, v => v = .int i
  | .str s, v => v = .str (S s)
  | .tup l, v => ∃ a xs, v = .ref a ∧ SqT K B a xs ∧ RepL K B l xs
  | .lst l, v => ∃ a xs, v = .ref a ∧ B a = some (.lst xs) ∧ RepL K B l xs
  | .frz l, v => ∃ a xs, v = .ref a ∧ SqL K B a xs ∧ RepL K B l xs
def RepL (K : PySem.W.Frag) (B : Hp) : List Dt → List V → Prop
  | [], xs => xs = []
  | d :: ds, xs => ∃ x r, xs = x :: r ∧ Rep K B d x ∧ RepL K B ds r
end

theorem sameT {K : PySem.W.Frag} {H H' : Hp} {a : Addr} {xs : List V} (e : Same H H') (h : SqT K H a xs) : SqT K H' a xs := by
  rcases h with (h | ⟨o, h⟩) | h
  · exact .inl (.inl (e _ _ h))
  · exact .inl (.inr ⟨o, e _ _ h⟩)
  · exact .inr h

mutual
theorem Rep.mono {K : PySem.W.Frag} {B B' : Hp} (e : Same B B') : ∀ {d : Dt} {v : V}, Rep K B d v → Rep K B' d v
  | .non, _, h => h
  | .bl _, _, h => h
  | .int _, _, h => h
  | .str _, _, h => h
  | .tup l, v, h => by
    unfold Rep at h ⊢
    obtain ⟨a, xs, h1, h2, h3⟩ := h
    exact ⟨a, xs, h1, sameT e h2, RepL.mono e h3⟩
  | .lst l, v, h => by
    unfold Rep at h ⊢
    obtain ⟨a, xs, h1, h2, h3⟩ := h
    exact ⟨a, xs, h1, e _ _ h2, RepL.mono e h3⟩
  | .frz l, v, h => by
    unfold Rep at h ⊢
    obtain ⟨a, xs, h1, h2, h3⟩ := h
    exact ⟨a, xs, h1, e.seq h2, RepL.mono e h3⟩
theorem RepL.mono {K : PySem.W.Frag} {B B' : Hp} (e : Same B B') : ∀ {l : List Dt} {xs : List V}, RepL K B l xs → RepL K B' l xs
  | [], _, h => h
  | d :: ds, xs, h => by
    unfold RepL at h ⊢
    obtain ⟨x, r, h1, h2, h3⟩ := h
    exact ⟨x, r, h1, Rep.mono e h2, RepL.mono e h3⟩
end

theorem RepL.length {K : PySem.W.Frag} {B : Hp} : ∀ {l : List Dt} {xs : List V}, RepL K B l xs → xs.length = l.length
  | [], _, h => by unfold RepL at h; rw [h]; rfl
  | d :: ds, xs, h => by
    unfold RepL at h
    obtain ⟨x, r, h1, h2, h3⟩ := h
    rw [h1, List.length_cons, List.length_cons, RepL.length h3]
theorem RepL.get {K : PySem.W.Frag} {B : Hp} : ∀ {l : List Dt} {xs : List V} {i : Nat} {d : Dt}, RepL K B l xs → l[i]? = some d → ∃ v, xs[i]? = some v ∧ Rep K B d v
  | [], _, _, _, _, e => by simp at e
  | d :: ds, xs, 0, d', h, e => by
    unfold RepL at h
    obtain ⟨x, r, h1, h2, h3⟩ := h
    simp at e
    subst e
    exact ⟨x, by rw [h1]; rfl, h2⟩
  | d :: ds, xs, i + 1, d', h, e => by
    unfold RepL at h
    obtain ⟨x, r, h1, h2, h3⟩ := h
    obtain ⟨v, e1, e2⟩ := RepL.get (i := i) h3 (by simpa using e)
    exact ⟨v, by rw [h1]; simpa using e1, e2⟩
theorem RepL.getV {K : PySem.W.Frag} {B : Hp} {l : List Dt} {xs : List V} {i : Nat} {v : V} (h : RepL K B l xs) (e : xs[i]? = some v) : ∃ d, l[i]? = some d ∧ Rep K B d v := by
  have hi : i < l.length := by
    rw [← h.length]
    exact (List.getElem?_eq_some_iff.mp e).1
  obtain ⟨v', e1, e2⟩ := h.get (List.getElem?_eq_getElem hi)
  rw [e] at e1
  cases e1
  exact ⟨_, List.getElem?_eq_getElem hi, e2⟩
theorem RepL.app {K : PySem.W.Frag} {B : Hp} : ∀ {l m : List Dt} {xs ys : List V}, RepL K B l xs → RepL K B m ys → RepL K B (l ++ m) (xs ++ ys)
  | [], m, xs, ys, h, h' => by unfold RepL at h; rw [h]; exact h'
  | d :: ds, m, xs, ys, h, h' => by
    unfold RepL at h
    obtain ⟨x, r, h1, h2, h3⟩ := h
    rw [h1]
    show RepL K B (d :: (ds ++ m)) (x :: (r ++ ys))
    unfold RepL
    exact ⟨x, _, rfl, h2, RepL.app h3 h'⟩
theorem RepL.nil {K : PySem.W.Frag} {B : Hp} : RepL K B [] [] := by unfold RepL; rfl
theorem RepL.cons {K : PySem.W.Frag} {B : Hp} {d : Dt} {l : List Dt} {x : V} {xs : List V} (h : Rep K B d x) (h' : RepL K B l xs) : RepL K B (d :: l) (x :: xs) := by
  unfold RepL
  exact ⟨x, xs, rfl, h, h'⟩
theorem RepL.one {K : PySem.W.Frag} {B : Hp} {d : Dt} {x : V} (h : Rep K B d x) : RepL K B [d] [x] := .cons h .nil
theorem RepL.drop {K : PySem.W.Frag} {B : Hp} : ∀ {l : List Dt} {xs : List V} (n : Nat), RepL K B l xs → RepL K B (l.drop n) (xs.drop n)
  | [], _, _, h => by unfold RepL at h; rw [h]; simp; exact .nil
  | _ :: _, _, 0, h => h
  | d :: ds, xs, n + 1, h => by
    unfold RepL at h
    obtain ⟨x, r, h1, h2, h3⟩ := h
    rw [h1]
    exact RepL.drop n h3
theorem RepL.take {K : PySem.W.Frag} {B : Hp} : ∀ {l : List Dt} {xs : List V} (n : Nat), RepL K B l xs → RepL K B (l.take n) (xs.take n)
  | [], _, _, h => by unfold RepL at h; rw [h]; simp; exact .nil
  | _ :: _, _, 0, h => by simp; exact .nil
  | d :: ds, xs, n + 1, h => by
    unfold RepL at h
    obtain ⟨x, r, h1, h2, h3⟩ := h
    rw [h1]
    exact .cons h2 (RepL.take n h3)
theorem RepL.set {K : PySem.W.Frag} {B : Hp} {d : Dt} {v : V} (hv : Rep K B d v) : ∀ {l : List Dt} {xs : List V} (n : Nat), RepL K B l xs → RepL K B (l.set n d) (xs.set n v)
  | [], _, _, h => by unfold RepL at h; rw [h]; exact .nil
  | _ :: _, xs, 0, h => by
    unfold RepL at h
    obtain ⟨x, r, h1, h2, h3⟩ := h
    rw [h1]
    exact .cons hv h3
  | _ :: ds, xs, n + 1, h => by
    unfold RepL at h
    obtain ⟨x, r, h1, h2, h3⟩ := h
    rw [h1]
    exact .cons h2 (RepL.set hv n h3)
theorem RepL.rev {K : PySem.W.Frag} {B : Hp} : ∀ {l : List Dt} {xs : List V}, RepL K B l xs → RepL K B l.reverse xs.reverse
  | [], _, h => by unfold RepL at h; rw [h]; exact .nil
  | d :: ds, xs, h => by
    unfold RepL at h
    obtain ⟨x, r, h1, h2, h3⟩ := h
    rw [h1, List.reverse_cons, List.reverse_cons]
    exact .app (RepL.rev h3) (.one h2)
theorem RepL.erase {K : PySem.W.Frag} {B : Hp} : ∀ {l : List Dt} {xs : List V} (n : Nat), RepL K B l xs → RepL K B (l.eraseIdx n) (xs.eraseIdx n)
  | [], _, _, h => by unfold RepL at h; rw [h]; exact .nil
  | _ :: _, xs, 0, h => by
    unfold RepL at h
    obtain ⟨x, r, h1, h2, h3⟩ := h
    rw [h1]
    exact h3
  | _ :: ds, xs, n + 1, h => by
    unfold RepL at h
    obtain ⟨x, r, h1, h2, h3⟩ := h
    rw [h1]
    exact .cons h2 (RepL.erase n h3)
theorem RepL.rep {K : PySem.W.Frag} {B : Hp} {l : List Dt} {xs : List V} (h : RepL K B l xs) : ∀ k : Nat, RepL K B (List.replicate k l).flatten (List.replicate k xs).flatten
  | 0 => .nil
  | k + 1 => by
    rw [List.replicate_succ, List.replicate_succ, List.flatten_cons, List.flatten_cons]
    exact h.app (RepL.rep h k)

/-! ### owned objects -/
/-- the law's drawing box: what is true of it in the heap, with its footprint -/
structure PoolP where
  ok : Addr → List Addr → Hp → Prop
  mem : ∀ a fp H, ok a fp H → a ∈ fp
  alive : ∀ a fp H, ok a fp H → ∀ b ∈ fp, H b ≠ none
  loc : ∀ a fp H H', ok a fp H → (∀ b ∈ fp, H' b = H b) → ok a fp H'
inductive Ob where
  | lst (l : List Dt)
  | pool
def RepO (K : PySem.W.Frag) (PL : PoolP) (B H : Hp) : Ob → Addr → List Addr → Prop
  | .lst l, a, fp => fp = [a] ∧ ∃ xs, H a = some (.lst xs) ∧ RepL K B l xs
  | .pool, a, fp => PL.ok a fp H
theorem RepO.mono {K : PySem.W.Frag} {PL : PoolP} {B B' H H' : Hp} {o : Ob} {a : Addr} {fp : List Addr} (e : Same B B') (k : ∀ b ∈ fp, H' b = H b) (h : RepO K PL B H o a fp) : RepO K PL B' H' o a fp := by
  cases o with
  | lst l =>
    obtain ⟨rfl, xs, h1, h2⟩ := h
    exact ⟨rfl, xs, (k a (by simp)).trans h1, h2.mono e⟩
  | pool => exact PL.loc a fp H H' h k
theorem RepO.alive {K : PySem.W.Frag} {PL : PoolP} {B H : Hp} {o : Ob} {a : Addr} {fp : List Addr} (h : RepO K PL B H o a fp) : ∀ b ∈ fp, H b ≠ none := by
  cases o with
  | lst l =>
    obtain ⟨rfl, xs, h1, h2⟩ := h
    intro b hb
    have e : b = a := by simpa using hb
    rw [e, h1]
    simp
  | pool => exact PL.alive a fp H h
theorem RepO.self {K : PySem.W.Frag} {PL : PoolP} {B H : Hp} {o : Ob} {a : Addr} {fp : List Addr} (h : RepO K PL B H o a fp) : a ∈ fp := by
  cases o with
  | lst l =>
    obtain ⟨rfl, xs, h1, h2⟩ := h
    simp
  | pool => exact PL.mem a fp H h

/-! ### the clean state -/
inductive Slot where
  | no
  | dat (d : Dt)
  | own (o : Ob)
  | arg (o : Ob)
abbrev CEnv := List Slot
def gt : CEnv → Nat → Slot
  | [], _ => .no
  | s :: _, 0 => s
  | _ :: r, n + 1 => gt r n
theorem gt_get {c : CEnv} : ∀ {i : Nat} {s : Slot}, gt c i = s → s ≠ .no → c[i]? = some s := by
  induction c with
  | nil => intro i s h n; exact absurd h.symm n
  | cons t r ih =>
    intro i s h n
    cases i with
    | zero => exact congrArg some h
    | succ i => simpa using ih h n

theorem gt_of {c : CEnv} : ∀ {i : Nat} {s : Slot}, c[i]? = some s → gt c i = s := by
  induction c with
  | nil => intro i s h; simp at h
  | cons t r ih =>
    intro i s h
    cases i with
    | zero =>
      show t = s
      simpa using h
    | succ i => exact ih (i := i) (by simpa using h)

/-- what a def's entry was -/
structure Ent where
  B : Hp
  H : Hp
  ow : Nat → Option Addr
  fp : Nat → List Addr
  /-- cells that are being filled and must stand as they are -/
  pin : Addr → Option HO
def SlotOk (K : PySem.W.Frag) (PL : PoolP) (G : Ent) (B H : Hp) (F : List Addr) (i : Nat) : Slot → Option V → Prop
  | .no, _ => F = []
  | .dat d, o => F = [] ∧ ∃ v, o = some v ∧ Rep K B d v
  | .own ob, o => ∃ a, o = some (.ref a) ∧ RepO K PL B H ob a F ∧ ∀ b ∈ F, G.H b = none
  | .arg ob, o => ∃ a, o = some (.ref a) ∧ G.ow i = some a ∧ RepO K PL B H ob a F ∧ ∀ b ∈ F, G.H b = none ∨ b ∈ G.fp i
structure ConcF (K : PySem.W.Frag) (PL : PoolP) (G : Ent) (B : Hp) (c : CEnv) (σ : L2.St) (H : Hp) (F : Nat → List Addr) : Prop where
  ex : Same B H
  bb : Same G.B B
  new : ∀ a o, B a = some o → G.B a = some o ∨ G.H a = none
  frame : ∀ a o, G.H a = some o → (∀ k, a ∉ G.fp k) → H a = some o
  keep : ∀ a, G.H a ≠ none → H a ≠ none
  len : c.length = σ.length
  slots : ∀ i s, c[i]? = some s → ∃ o, σ[i]? = some o ∧ SlotOk K PL G B H (F i) i s o
  out : ∀ i, c.length ≤ i → F i = []
  disj : ∀ i j, i ≠ j → ∀ b ∈ F i, b ∉ F j
  off : ∀ i, ∀ b ∈ F i, B b = none
  pin : ∀ a o, G.pin a = some o → H a = some o ∧ B a = none ∧ ∀ i, a ∉ F i
def Conc (K : PySem.W.Frag) (PL : PoolP) (G : Ent) (B : Hp) (c : CEnv) (σ : L2.St) (H : Hp) : Prop := ∃ F, ConcF K PL G B c σ H F

section
variable {K : PySem.W.Frag} {PL : PoolP} {G : Ent} {B B' : Hp} {c : CEnv} {σ : L2.St} {H H' : Hp} {F : Nat → List Addr}

theorem SlotOk.mono {F : List Addr} {i : Nat} {s : Slot} {o : Option V} (e : Same B B') (k : ∀ b ∈ F, H' b = H b) (h : SlotOk K PL G B H F i s o) : SlotOk K PL G B' H' F i s o := by
  cases s with
  | no => exact h
  | dat d =>
    obtain ⟨h1, v, h2, h3⟩ := h
    exact ⟨h1, v, h2, h3.mono e⟩
  | own ob =>
    obtain ⟨a, h1, h2, h3⟩ := h
    exact ⟨a, h1, h2.mono e k, h3⟩
  | arg ob =>
    obtain ⟨a, h1, h1', h2, h3⟩ := h
    exact ⟨a, h1, h1', h2.mono e k, h3⟩
theorem SlotOk.alive {F : List Addr} {i : Nat} {s : Slot} {o : Option V} (h : SlotOk K PL G B H F i s o) : ∀ b ∈ F, H b ≠ none := by
  cases s with
  | no =>
    have e : F = [] := h
    rw [e]
    intro b hb
    simp at hb
  | dat d =>
    obtain ⟨h1, _⟩ := h
    rw [h1]
    intro b hb
    simp at hb
  | own ob =>
    obtain ⟨a, h1, h2, h3⟩ := h
    exact h2.alive
  | arg ob =>
    obtain ⟨a, h1, h1', h2, h3⟩ := h
    exact h2.alive
theorem ConcF.alive (h : ConcF K PL G B c σ H F) (i : Nat) : ∀ b ∈ F i, H b ≠ none := by
  by_cases hi : i < c.length
  · obtain ⟨o, _, h2⟩ := h.slots i _ (List.getElem?_eq_getElem hi)
    exact h2.alive
  · rw [h.out i (by omega)]
    intro b hb
    simp at hb
/-- new things stand in the heap -/
theorem ConcF.grow (h : ConcF K PL G B c σ H F) (e : Same H H') : ConcF K PL G B c σ H' F where
  ex := h.ex.trans e
  bb := h.bb
  new := h.new
  frame := fun a o h1 h2 => e a o (h.frame a o h1 h2)
  keep := fun a h1 h2 => by
    cases q : H a with
    | none => exact h.keep a h1 q
    | some o =>
      rw [e a o q] at h2
      cases h2
  len := h.len
  slots := fun i s hs => by
    obtain ⟨o, h1, h2⟩ := h.slots i s hs
    refine ⟨o, h1, h2.mono (Same.refl B) fun b hb => ?_⟩
    cases q : H b with
    | none => exact absurd q (h.alive i b hb)
    | some o => exact e b o q
  out := h.out
  disj := h.disj
  off := h.off
  pin := fun a o q => ⟨e a o (h.pin a o q).1, (h.pin a o q).2⟩
theorem Conc.grow (h : Conc K PL G B c σ H) (e : Same H H') : Conc K PL G B c σ H' := let ⟨F, h⟩ := h; ⟨F, h.grow e⟩
theorem Same.new {p : Addr} {o : HO} (h : H p = none) : Same H (upd H p o) := fun b x e => by
  rw [upd_ne (ne_of_none e h)]
  exact e
/-- a new object that will never change -/
theorem ConcF.dat {p : Addr} {o : HO} (h : ConcF K PL G B c σ H F) (hp : H p = none) : ConcF K PL G (upd B p o) c σ (upd H p o) F ∧ Same B (upd B p o) := by
  have hb : B p = none := h.ex.free hp
  have e : Same B (upd B p o) := Same.new hb
  refine ⟨?_, e⟩
  have h1 := h.grow (Same.new (o := o) hp)
  refine { h1 with ex := ?_, bb := h.bb.trans e, new := ?_, slots := ?_, off := ?_, pin := fun a x q => ⟨(h1.pin a x q).1, ?_, (h1.pin a x q).2.2⟩ }
  · intro a x q
    by_cases ha : a = p
    · subst ha
      rw [upd_same] at q ⊢
      exact q
    · rw [upd_ne ha] at q ⊢
      exact h.ex a x q
  · intro a x q
    by_cases ha : a = p
    · subst ha
      right
      cases g : G.H a with
      | none => rfl
      | some o' => exact absurd hp (h.keep a (by rw [g]; simp))
    · rw [upd_ne ha] at q
      exact h.new a x q
  · intro i s hs
    obtain ⟨o', q1, q2⟩ := h1.slots i s hs
    exact ⟨o', q1, q2.mono e fun _ _ => rfl⟩
  · intro i b hb'
    have : b ≠ p := fun z => h.alive i b hb' (by rw [z]; exact hp)
    rw [upd_ne this]
    exact h.off i b hb'
  · have : a ≠ p := fun z => by
      have := (h.pin a x q).1
      rw [z, hp] at this
      cases this
    rw [upd_ne this]
    exact (h.pin a x q).2.1
theorem Conc.dat {p : Addr} {o : HO} (h : Conc K PL G B c σ H) (hp : H p = none) : Conc K PL G (upd B p o) c σ (upd H p o) ∧ Same B (upd B p o) :=
  let ⟨F, h⟩ := h; ⟨⟨F, (h.dat hp).1⟩, (h.dat (o := o) hp).2⟩
theorem Conc.tup {p : Addr} {l : List Dt} {xs : List V} (h : Conc K PL G B c σ H) (hp : H p = none) (r : RepL K B l xs) :
    Conc K PL G (upd B p (.tup xs)) c σ (upd H p (.tup xs)) ∧ Same B (upd B p (.tup xs)) ∧ Rep K (upd B p (.tup xs)) (.tup l) (.ref p) := by
  obtain ⟨h1, h2⟩ := h.dat (o := .tup xs) hp
  refine ⟨h1, h2, ?_⟩
  unfold Rep
  exact ⟨p, xs, rfl, .of upd_same, r.mono h2⟩
theorem get_snoc {α : Type} {l : List α} {x y : α} {i : Nat} (h : (l ++ [x])[i]? = some y) : (i < l.length ∧ l[i]? = some y) ∨ (i = l.length ∧ x = y) := by
  by_cases hi : i < l.length
  · rw [List.getElem?_append_left hi] at h
    exact .inl ⟨hi, h⟩
  · rw [List.getElem?_append_right (by omega)] at h
    have : i - l.length = 0 := by
      by_cases z : i - l.length = 0
      · exact z
      · rw [List.getElem?_eq_none (by simp; omega)] at h
        cases h
    rw [this] at h
    exact .inr ⟨by omega, by simpa using h⟩
/-- an owned object besides, at the end -/
theorem ConcF.push {v : V} {o : Ob} {a : Addr} {fp : List Addr} (h : ConcF K PL G B c σ H F) (hv : v = .ref a) (r : RepO K PL B H o a fp) (hg : ∀ b ∈ fp, G.H b = none) (hb : ∀ b ∈ fp, B b = none) (hd : ∀ i, ∀ b ∈ F i, b ∉ fp) (hpin : ∀ b ∈ fp, G.pin b = none) :
    ConcF K PL G B (c ++ [.own o]) (σ ++ [some v]) H (fun i => if i = c.length then fp else F i) where
  ex := h.ex
  bb := h.bb
  new := h.new
  frame := h.frame
  keep := h.keep
  len := by simp [h.len]
  slots := fun i s hs => by
    rcases get_snoc hs with ⟨hi, q⟩ | ⟨hi, q⟩
    · obtain ⟨x, h1, h2⟩ := h.slots i s q
      have hne : i ≠ c.length := by omega
      refine ⟨x, ?_, ?_⟩
      · rw [List.getElem?_append_left (by rw [← h.len]; exact hi)]
        exact h1
      · simp only [hne, if_false]
        exact h2
    · subst hi
      subst q
      refine ⟨some v, ?_, ?_⟩
      · rw [h.len, List.getElem?_append_right (Nat.le_refl _)]
        simp
      · simp only [if_true]
        exact ⟨a, by rw [hv], r, hg⟩
  out := fun i hi => by
    rw [List.length_append, List.length_singleton] at hi
    have hne : i ≠ c.length := by omega
    simp only [hne, if_false]
    exact h.out i (by omega)
  disj := fun i j hij b hbi hbj => by
    by_cases hi : i = c.length
    · have hj : j ≠ c.length := by omega
      simp only [hi, if_true] at hbi
      simp only [hj, if_false] at hbj
      exact hd j b hbj hbi
    · simp only [hi, if_false] at hbi
      by_cases hj : j = c.length
      · simp only [hj, if_true] at hbj
        exact hd i b hbi hbj
      · simp only [hj, if_false] at hbj
        exact h.disj i j hij b hbi hbj
  off := fun i b hbi => by
    by_cases hi : i = c.length
    · simp only [hi, if_true] at hbi
      exact hb b hbi
    · simp only [hi, if_false] at hbi
      exact h.off i b hbi
  pin := fun x u q => ⟨(h.pin x u q).1, (h.pin x u q).2.1, fun i hx => by
    by_cases hi : i = c.length
    · simp only [hi, if_true] at hx
      rw [hpin x hx] at q
      cases q
    · simp only [hi, if_false] at hx
      exact (h.pin x u q).2.2 i hx⟩
/-- a new list of one's own -/
theorem Conc.newL {p : Addr} {l : List Dt} {xs : List V} (h : Conc K PL G B c σ H) (hp : H p = none) (r : RepL K B l xs) :
    Conc K PL G B (c ++ [.own (.lst l)]) (σ ++ [some (.ref p)]) (upd H p (.lst xs)) := by
  obtain ⟨F, h⟩ := h
  have h1 := h.grow (Same.new (o := .lst xs) hp)
  refine ⟨_, h1.push (a := p) (fp := [p]) rfl ⟨rfl, xs, upd_same, r⟩ (fun b hb => ?_) (fun b hb => ?_) (fun i b hb hb' => ?_) (fun b hb => ?_)⟩
  · have e : b = p := by simpa using hb
    subst e
    cases g : G.H b with
    | none => rfl
    | some o' => exact absurd hp (h.keep b (by rw [g]; simp))
  · have e : b = p := by simpa using hb
    subst e
    exact h.ex.free hp
  · have e : b = p := by simpa using hb'
    subst e
    exact h.alive i b hb hp
  · have e : b = p := by simpa using hb
    subst e
    cases g : G.pin b with
    | none => rfl
    | some o' =>
      have := (h.pin b o' g).1
      rw [hp] at this
      cases this
/-- the last one forgotten -/
theorem ConcF.pop {s : Slot} {o : Option V} (h : ConcF K PL G B (c ++ [s]) (σ ++ [o]) H F) : ConcF K PL G B c σ H (fun i => if i < c.length then F i else []) where
  ex := h.ex
  bb := h.bb
  new := h.new
  frame := h.frame
  keep := h.keep
  len := by simpa using h.len
  slots := fun i t ht => by
    have hi : i < c.length := (List.getElem?_eq_some_iff.mp ht).1
    have hl : c.length = σ.length := by simpa using h.len
    obtain ⟨x, h1, h2⟩ := h.slots i t (by rw [List.getElem?_append_left hi]; exact ht)
    refine ⟨x, ?_, ?_⟩
    · rw [List.getElem?_append_left (by omega)] at h1
      exact h1
    · simp only [hi, if_true]
      exact h2
  out := fun i hi => by
    have : ¬ i < c.length := by omega
    simp only [this, if_false]
  disj := fun i j hij b hbi hbj => by
    split at hbi
    · split at hbj
      · exact h.disj i j hij b hbi hbj
      · simp at hbj
    · simp at hbi
  off := fun i b hbi => by
    split at hbi
    · exact h.off i b hbi
    · simp at hbi
  pin := fun x u q => ⟨(h.pin x u q).1, (h.pin x u q).2.1, fun i hx => by
    split at hx
    · exact (h.pin x u q).2.2 i hx
    · simp at hx⟩
theorem Conc.pop {s : Slot} {o : Option V} (h : Conc K PL G B (c ++ [s]) (σ ++ [o]) H) : Conc K PL G B c σ H := let ⟨F, h⟩ := h; ⟨_, h.pop⟩
/-- a slot's own object is from now on never changed -/
theorem ConcF.freeze {i : Nat} {l : List Dt} (h : ConcF K PL G B c σ H F) (hs : c[i]? = some (.own (.lst l))) :
    ∃ B' v F', Same B B' ∧ σ[i]? = some (some v) ∧ Rep K B' (.lst l) v ∧ ConcF K PL G B' (c.set i (.dat (.lst l))) σ H F' := by
  obtain ⟨o, h1, a, h2, ⟨h3, xs, h4, h5⟩, h6⟩ := h.slots i _ hs
  subst h2
  have hb : B a = none := h.off i a (by rw [h3]; simp)
  have e : Same B (upd B a (.lst xs)) := Same.new hb
  have hic : i < c.length := (List.getElem?_eq_some_iff.mp hs).1
  have rep : Rep K (upd B a (.lst xs)) (.lst l) (.ref a) := by
    unfold Rep
    exact ⟨a, xs, rfl, upd_same, h5.mono e⟩
  refine ⟨upd B a (.lst xs), .ref a, fun j => if j = i then [] else F j, e, h1, rep, ?_⟩
  refine { ex := ?_, bb := h.bb.trans e, new := ?_, frame := h.frame, keep := h.keep, len := by simpa using h.len, slots := ?_, out := ?_, disj := ?_, off := ?_, pin := fun b x q => ⟨(h.pin b x q).1, ?_, fun j hx => ?_⟩ }
  · intro b x q
    by_cases hba : b = a
    · subst hba
      rw [upd_same] at q
      rw [h4]
      exact q
    · rw [upd_ne hba] at q
      exact h.ex b x q
  · intro b x q
    by_cases hba : b = a
    · subst hba
      exact .inr (h6 b (by rw [h3]; simp))
    · rw [upd_ne hba] at q
      exact h.new b x q
  · intro j s hj
    by_cases hji : j = i
    · subst hji
      rw [List.getElem?_set_self hic] at hj
      cases hj
      exact ⟨_, h1, by simp only [if_true]; exact ⟨rfl, _, rfl, rep⟩⟩
    · rw [List.getElem?_set_ne (Ne.symm hji)] at hj
      obtain ⟨x, q1, q2⟩ := h.slots j s hj
      refine ⟨x, q1, ?_⟩
      simp only [hji, if_false]
      exact q2.mono e fun _ _ => rfl
  · intro j hj
    rw [List.length_set] at hj
    by_cases hji : j = i
    · simp only [hji, if_true]
    · simp only [hji, if_false]
      exact h.out j hj
  · intro j k hjk b hbj hbk
    by_cases hji : j = i
    · simp only [hji, if_true] at hbj
      simp at hbj
    · simp only [hji, if_false] at hbj
      by_cases hki : k = i
      · simp only [hki, if_true] at hbk
        simp at hbk
      · simp only [hki, if_false] at hbk
        exact h.disj j k hjk b hbj hbk
  · intro j b hbj
    by_cases hji : j = i
    · simp only [hji, if_true] at hbj
      simp at hbj
    · simp only [hji, if_false] at hbj
      have hba : b ≠ a := fun z => h.disj j i hji b hbj (by rw [h3, z]; simp)
      rw [upd_ne hba]
      exact h.off j b hbj
  · have hba : b ≠ a := fun z => (h.pin b x q).2.2 i (by rw [h3, z]; simp)
    rw [upd_ne hba]
    exact (h.pin b x q).2.1
  · by_cases hji : j = i
    · simp only [hji, if_true] at hx
      simp at hx
    · simp only [hji, if_false] at hx
      exact (h.pin b x q).2.2 j hx
theorem set_snoc {α : Type} {l : List α} {x y : α} : (l ++ [x]).set l.length y = l ++ [y] := by
  rw [List.set_append_right _ _ (Nat.le_refl _)]
  simp
/-- a new list becomes plain data -/
theorem Conc.freezeLast {v : V} {l : List Dt} (h : Conc K PL G B (c ++ [.own (.lst l)]) (σ ++ [some v]) H) : ∃ B', Same B B' ∧ Conc K PL G B' c σ H ∧ Rep K B' (.lst l) v := by
  obtain ⟨F, h⟩ := h
  have hl : c.length = σ.length := by simpa using h.len
  obtain ⟨B', v', F', h1, h2, h3, h4⟩ := h.freeze (i := c.length) (l := l) (by rw [List.getElem?_append_right (Nat.le_refl _)]; simp)
  rw [hl, List.getElem?_append_right (Nat.le_refl _)] at h2
  have e : v' = v := by simpa using h2.symm
  subst e
  rw [set_snoc] at h4
  exact ⟨B', h1, ⟨_, h4.pop⟩, h3⟩
theorem Conc.freezeAt {i : Nat} {v : V} {l : List Dt} (h : Conc K PL G B c σ H) (hs : c[i]? = some (.own (.lst l))) (hv : σ[i]? = some (some v)) :
    ∃ B', Same B B' ∧ Conc K PL G B' (c.set i (.dat (.lst l))) σ H ∧ Rep K B' (.lst l) v := by
  obtain ⟨F, h⟩ := h
  obtain ⟨B', v', F', h1, h2, h3, h4⟩ := h.freeze hs
  rw [hv] at h2
  cases h2
  exact ⟨B', h1, ⟨_, h4⟩, h3⟩
/-- a name is given plain data -/
theorem Conc.setDat {i : Nat} {d : Dt} {v : V} (h : Conc K PL G B c σ H) (r : Rep K B d v) : Conc K PL G B (c.set i (.dat d)) (σ.set i (some v)) H := by
  obtain ⟨F, h⟩ := h
  refine ⟨fun j => if j = i then [] else F j, h.ex, h.bb, h.new, h.frame, h.keep, by simp [h.len], fun j s hj => ?_, fun j hj => ?_, fun j k hjk b hbj hbk => ?_, fun j b hbj => ?_, fun b x q => ⟨(h.pin b x q).1, (h.pin b x q).2.1, fun j hx => ?_⟩⟩
  · by_cases hji : j = i
    · subst hji
      have hic : j < c.length := by
        have := (List.getElem?_eq_some_iff.mp hj).1
        simpa using this
      rw [List.getElem?_set_self hic] at hj
      cases hj
      exact ⟨some v, List.getElem?_set_self (by rw [← h.len]; exact hic), by simp only [if_true]; exact ⟨rfl, v, rfl, r⟩⟩
    · rw [List.getElem?_set_ne (Ne.symm hji)] at hj
      obtain ⟨x, q1, q2⟩ := h.slots j s hj
      refine ⟨x, by rw [List.getElem?_set_ne (Ne.symm hji)]; exact q1, ?_⟩
      simp only [hji, if_false]
      exact q2
  · rw [List.length_set] at hj
    by_cases hji : j = i
    · simp only [hji, if_true]
    · simp only [hji, if_false]
      exact h.out j hj
  · by_cases hji : j = i
    · simp only [hji, if_true] at hbj
      simp at hbj
    · simp only [hji, if_false] at hbj
      by_cases hki : k = i
      · simp only [hki, if_true] at hbk
        simp at hbk
      · simp only [hki, if_false] at hbk
        exact h.disj j k hjk b hbj hbk
  · by_cases hji : j = i
    · simp only [hji, if_true] at hbj
      simp at hbj
    · simp only [hji, if_false] at hbj
      exact h.off j b hbj
  · by_cases hji : j = i
    · simp only [hji, if_true] at hx
      simp at hx
    · simp only [hji, if_false] at hx
      exact (h.pin b x q).2.2 j hx
/-- a name is forgotten -/
theorem Conc.setNo {i : Nat} (h : Conc K PL G B c σ H) (o : Option V) : Conc K PL G B (c.set i .no) (σ.set i o) H := by
  obtain ⟨F, h⟩ := h
  refine ⟨fun j => if j = i then [] else F j, h.ex, h.bb, h.new, h.frame, h.keep, by simp [h.len], fun j s hj => ?_, fun j hj => ?_, fun j k hjk b hbj hbk => ?_, fun j b hbj => ?_, fun b x q => ⟨(h.pin b x q).1, (h.pin b x q).2.1, fun j hx => ?_⟩⟩
  · by_cases hji : j = i
    · subst hji
      have hic : j < c.length := by
        have := (List.getElem?_eq_some_iff.mp hj).1
        simpa using this
      rw [List.getElem?_set_self hic] at hj
      cases hj
      exact ⟨o, List.getElem?_set_self (by rw [← h.len]; exact hic), by simp only [if_true]; rfl⟩
    · rw [List.getElem?_set_ne (Ne.symm hji)] at hj
      obtain ⟨x, q1, q2⟩ := h.slots j s hj
      refine ⟨x, by rw [List.getElem?_set_ne (Ne.symm hji)]; exact q1, ?_⟩
      simp only [hji, if_false]
      exact q2
  · rw [List.length_set] at hj
    by_cases hji : j = i
    · simp only [hji, if_true]
    · simp only [hji, if_false]
      exact h.out j hj
  · by_cases hji : j = i
    · simp only [hji, if_true] at hbj
      simp at hbj
    · simp only [hji, if_false] at hbj
      by_cases hki : k = i
      · simp only [hki, if_true] at hbk
        simp at hbk
      · simp only [hki, if_false] at hbk
        exact h.disj j k hjk b hbj hbk
  · by_cases hji : j = i
    · simp only [hji, if_true] at hbj
      simp at hbj
    · simp only [hji, if_false] at hbj
      exact h.off j b hbj
  · by_cases hji : j = i
    · simp only [hji, if_true] at hx
      simp at hx
    · simp only [hji, if_false] at hx
      exact (h.pin b x q).2.2 j hx
/-- a name is given a new object -/
theorem Conc.setNew {i : Nat} {o : Ob} {v : V} (hi : i < c.length) (h : Conc K PL G B (c ++ [.own o]) (σ ++ [some v]) H) : Conc K PL G B (c.set i (.own o)) (σ.set i (some v)) H := by
  obtain ⟨F, h⟩ := h
  have hl : c.length = σ.length := by simpa using h.len
  obtain ⟨x, hx, a, q1, q2, q3⟩ := h.slots c.length (.own o) (by rw [List.getElem?_append_right (Nat.le_refl _)]; simp)
  rw [hl, List.getElem?_append_right (Nat.le_refl _)] at hx
  have ex : x = some v := by simpa using hx.symm
  subst ex
  refine ⟨fun j => if j = i then F c.length else if j < c.length then F j else [], h.ex, h.bb, h.new, h.frame, h.keep, by simpa using hl, fun j s hj => ?_, fun j hj => ?_, fun j k hjk b hbj hbk => ?_, fun j b hbj => ?_, fun b x q => ⟨(h.pin b x q).1, (h.pin b x q).2.1, fun j hx => ?_⟩⟩
  · have hjc : j < c.length := by
      have := (List.getElem?_eq_some_iff.mp hj).1
      simpa using this
    by_cases hji : j = i
    · subst hji
      rw [List.getElem?_set_self hjc] at hj
      cases hj
      exact ⟨some v, List.getElem?_set_self (by omega), by simp only [if_true]; exact ⟨a, q1, q2, q3⟩⟩
    · rw [List.getElem?_set_ne (Ne.symm hji)] at hj
      obtain ⟨x, r1, r2⟩ := h.slots j s (by rw [List.getElem?_append_left hjc]; exact hj)
      rw [List.getElem?_append_left (by omega)] at r1
      refine ⟨x, by rw [List.getElem?_set_ne (Ne.symm hji)]; exact r1, ?_⟩
      simp only [hji, if_false, hjc, if_true]
      exact r2
  · rw [List.length_set] at hj
    have h1 : j ≠ i := by omega
    have h2 : ¬ j < c.length := by omega
    simp only [h1, if_false, h2]
  · have un : ∀ j, b ∈ (if j = i then F c.length else if j < c.length then F j else []) → (j = i ∧ b ∈ F c.length) ∨ (j ≠ i ∧ j < c.length ∧ b ∈ F j) := fun j hb => by
      by_cases hji : j = i
      · simp only [hji, if_true] at hb
        exact .inl ⟨hji, hb⟩
      · simp only [hji, if_false] at hb
        by_cases hjc : j < c.length
        · simp only [hjc, if_true] at hb
          exact .inr ⟨hji, hjc, hb⟩
        · simp only [hjc, if_false] at hb
          simp at hb
    rcases un j hbj with ⟨e1, m1⟩ | ⟨e1, l1, m1⟩
    · rcases un k hbk with ⟨e2, m2⟩ | ⟨e2, l2, m2⟩
      · omega
      · exact h.disj _ _ (by omega) b m1 m2
    · rcases un k hbk with ⟨e2, m2⟩ | ⟨e2, l2, m2⟩
      · exact h.disj _ _ (by omega) b m1 m2
      · exact h.disj _ _ hjk b m1 m2
  · by_cases hji : j = i
    · simp only [hji, if_true] at hbj
      exact h.off _ b hbj
    · simp only [hji, if_false] at hbj
      by_cases hjc : j < c.length
      · simp only [hjc, if_true] at hbj
        exact h.off j b hbj
      · simp only [hjc, if_false] at hbj
        simp at hbj
  · by_cases hji : j = i
    · simp only [hji, if_true] at hx
      exact (h.pin b x q).2.2 _ hx
    · simp only [hji, if_false] at hx
      by_cases hjc : j < c.length
      · simp only [hjc, if_true] at hx
        exact (h.pin b x q).2.2 j hx
      · simp only [hjc, if_false] at hx
        simp at hx
/-- a slot's list is changed -/
theorem Conc.write {i : Nat} {l m : List Dt} {a : Addr} {ys : List V} (h : Conc K PL G B c σ H) (hs : c[i]? = some (.own (.lst l)) ∨ c[i]? = some (.arg (.lst l))) (hv : σ[i]? = some (some (.ref a))) (r : RepL K B m ys) :
    Conc K PL G B (c.set i (match gt c i with | .arg _ => .arg (.lst m) | _ => .own (.lst m))) σ (upd H a (.lst ys)) ∧ ∃ xs, H a = some (.lst xs) ∧ RepL K B l xs := by
  obtain ⟨F, h⟩ := h
  have hic : i < c.length := by
    rcases hs with hs | hs <;> exact (List.getElem?_eq_some_iff.mp hs).1
  have key : F i = [a] ∧ (∃ xs, H a = some (.lst xs) ∧ RepL K B l xs) ∧ ((c[i]? = some (.own (.lst l)) ∧ G.H a = none) ∨ (c[i]? = some (.arg (.lst l)) ∧ G.ow i = some a ∧ (G.H a = none ∨ a ∈ G.fp i))) := by
    rcases hs with hs | hs
    · obtain ⟨o, h1, a', h2, ⟨h3, xs, h4, h5⟩, h6⟩ := h.slots i _ hs
      rw [hv] at h1
      cases h1
      cases h2
      exact ⟨h3, ⟨xs, h4, h5⟩, .inl ⟨hs, h6 a (by rw [h3]; simp)⟩⟩
    · obtain ⟨o, h1, a', h2, h2', ⟨h3, xs, h4, h5⟩, h6⟩ := h.slots i _ hs
      rw [hv] at h1
      cases h1
      cases h2
      exact ⟨h3, ⟨xs, h4, h5⟩, .inr ⟨hs, h2', h6 a (by rw [h3]; simp)⟩⟩
  obtain ⟨hF, hx, hk⟩ := key
  have hba : B a = none := h.off i a (by rw [hF]; simp)
  have gts : ∀ s, c[i]? = some s → gt c i = s := fun s => gt_of
  refine ⟨⟨F, fun b x q => ?_, h.bb, h.new, fun b x q nf => ?_, fun b q => ?_, by simpa using h.len, fun j s hj => ?_, fun j hj => h.out j (by simpa using hj), h.disj, h.off, fun b x q => ⟨?_, (h.pin b x q).2⟩⟩, hx⟩
  · have : b ≠ a := fun z => by
      rw [z, hba] at q
      cases q
    rw [upd_ne this]
    exact h.ex b x q
  · have : b ≠ a := fun z => by
      subst z
      rcases hk with ⟨_, g⟩ | ⟨_, _, g⟩
      · rw [g] at q
        cases q
      · rcases g with g | g
        · rw [g] at q
          cases q
        · exact nf i g
    rw [upd_ne this]
    exact h.frame b x q nf
  · by_cases hb : b = a
    · rw [hb, upd_same]
      simp
    · rw [upd_ne hb]
      exact h.keep b q
  · by_cases hji : j = i
    · subst hji
      rw [List.getElem?_set_self hic] at hj
      have ej := Option.some.inj hj
      refine ⟨_, hv, ?_⟩
      rcases hk with ⟨hc, g⟩ | ⟨hc, g1, g2⟩
      · rw [gts _ hc] at ej
        subst ej
        refine ⟨a, rfl, ⟨hF, ys, upd_same, r⟩, fun b hb => ?_⟩
        rw [hF] at hb
        have : b = a := by simpa using hb
        rw [this]
        exact g
      · rw [gts _ hc] at ej
        subst ej
        refine ⟨a, rfl, g1, ⟨hF, ys, upd_same, r⟩, fun b hb => ?_⟩
        rw [hF] at hb
        have : b = a := by simpa using hb
        rw [this]
        exact g2
    · rw [List.getElem?_set_ne (Ne.symm hji)] at hj
      obtain ⟨x, q1, q2⟩ := h.slots j s hj
      refine ⟨x, q1, q2.mono (Same.refl B) fun b hb => ?_⟩
      have : b ≠ a := fun z => h.disj j i hji b hb (by rw [hF, z]; simp)
      rw [upd_ne this]
  · have : b ≠ a := fun z => (h.pin b x q).2.2 i (by rw [hF, z]; simp)
    rw [upd_ne this]
    exact (h.pin b x q).1
theorem Conc.same (h : Conc K PL G B c σ H) : Same B H := let ⟨_, h⟩ := h; h.ex
theorem Conc.len (h : Conc K PL G B c σ H) : c.length = σ.length := let ⟨_, h⟩ := h; h.len
theorem Conc.getDat {i : Nat} {d : Dt} (h : Conc K PL G B c σ H) (hs : gt c i = .dat d) : ∃ v, σ[i]? = some (some v) ∧ Rep K B d v := by
  obtain ⟨F, h⟩ := h
  obtain ⟨o, h1, _, v, h2, h3⟩ := h.slots i _ (gt_get hs (by simp))
  exact ⟨v, by rw [h1, h2], h3⟩
theorem Conc.getOb {i : Nat} {o : Ob} (h : Conc K PL G B c σ H) (hs : c[i]? = some (.own o) ∨ c[i]? = some (.arg o)) : ∃ a fp, σ[i]? = some (some (.ref a)) ∧ RepO K PL B H o a fp := by
  obtain ⟨F, h⟩ := h
  rcases hs with hs | hs
  · obtain ⟨x, h1, a, h2, h3, _⟩ := h.slots i _ hs
    exact ⟨a, _, by rw [h1, h2], h3⟩
  · obtain ⟨x, h1, a, h2, _, h3, _⟩ := h.slots i _ hs
    exact ⟨a, _, by rw [h1, h2], h3⟩
end
end Cl

namespace Cl
open PySem PySem.Spec PyProof.Rows L2

/-- two ways by a bool -/
def br (b : Bool) (A B : Prop) : Prop := match b with
  | true => A
  | false => B
theorem br_true {A B : Prop} : br true A B = A := rfl
theorem br_false {A B : Prop} : br false A B = B := rfl
theorem br_not {b : Bool} {A B : Prop} : br (!b) A B = br b B A := by cases b <;> rfl
theorem br_dec {p : Prop} [Decidable p] {A B : Prop} : br (decide p) A B = ((p → A) ∧ (¬ p → B)) := by
  by_cases h : p
  · rw [decide_eq_true h]
    simp [br, h]
  · rw [decide_eq_false h]
    simp [br, h]
theorem br_intro {b : Bool} {A B : Prop} (h1 : b = true → A) (h2 : b = false → B) : br b A B := by
  cases b with
  | true => exact h1 rfl
  | false => exact h2 rfl
/-! ### what an expression gives -/
inductive Res where
  | dat (d : Dt)
  | sl (i : Nat)
  | new (o : Ob)
def CR (K : PySem.W.Frag) (PL : PoolP) (G : Ent) (B : Hp) (c : CEnv) (σ : L2.St) (H : Hp) : Res → V → Prop
  | .dat d, v => Conc K PL G B c σ H ∧ Rep K B d v
  | .sl i, v => Conc K PL G B c σ H ∧ σ[i]? = some (some v)
  | .new o, v => Conc K PL G B (c ++ [.own o]) (σ ++ [some v]) H
abbrev DE := CEnv → (Res → CEnv → Prop) → Prop
abbrev DT := CEnv → (Bool → CEnv → Prop) → Prop
abbrev DA := CEnv → (List Res → CEnv → Prop) → Prop
structure CEnds where
  nx : CEnv → Prop
  rt : Res → CEnv → Prop
  bk : CEnv → Prop := fun _ => False
  ct : CEnv → Prop := fun _ => False
abbrev DS := CEnds → CEnv → Prop
def lE (K : PySem.W.Frag) (PL : PoolP) (de : DE) : TE := fun σ H Q => ∃ G B c Qd, Conc K PL G B c σ H ∧ de c Qd ∧ ∀ r c' B' H' v, Qd r c' → Same B B' → CR K PL G B' c' σ H' r v → Q v H'
def lT (K : PySem.W.Frag) (PL : PoolP) (dt : DT) : TT := fun σ H Q => ∃ G B c Qd, Conc K PL G B c σ H ∧ dt c Qd ∧ ∀ b c' B' H', Qd b c' → Same B B' → Conc K PL G B' c' σ H' → Q b H'
/-- what stays of a result while other things are reckoned -/
def Held (K : PySem.W.Frag) (B : Hp) (σ : L2.St) : Res → V → Prop
  | .dat d, v => Rep K B d v
  | .sl i, v => σ[i]? = some (some v)
  | .new _, _ => True
def HeldL (K : PySem.W.Frag) (B : Hp) (σ : L2.St) : List Res → List V → Prop
  | [], vs => vs = []
  | r :: rs, vs => ∃ v ws, vs = v :: ws ∧ Held K B σ r v ∧ HeldL K B σ rs ws
def lA (K : PySem.W.Frag) (PL : PoolP) (da : DA) : TA := fun σ H Q => ∃ G B c Qd, Conc K PL G B c σ H ∧ da c Qd ∧ ∀ rs c' B' H' vs, Qd rs c' → Same B B' → Conc K PL G B' c' σ H' → HeldL K B' σ rs vs → Q vs H'
def lS (K : PySem.W.Frag) (PL : PoolP) (ds : DS) : TS := fun D σ H => ∃ G B c E, Conc K PL G B c σ H ∧ ds E c ∧ (∀ c' B' σ' H', E.nx c' → Same B B' → Conc K PL G B' c' σ' H' → D.nx σ' H') ∧
  (∀ r c' B' σ' H' v, E.rt r c' → CR K PL G B' c' σ' H' r v → D.rt v H') ∧ (∀ c' B' σ' H', E.bk c' → Same B B' → Conc K PL G B' c' σ' H' → D.bk σ' H') ∧ (∀ c' B' σ' H', E.ct c' → Same B B' → Conc K PL G B' c' σ' H' → D.ct σ' H')
structure QE (X : Cx) (PL : PoolP) (e : Expr) (de : DE) : Prop where
  pe : PE X e (lE X.K PL de)
structure QT (X : Cx) (PL : PoolP) (e : Expr) (dt : DT) : Prop where
  pt : PT X e (lT X.K PL dt)
structure QW (X : Cx) (PL : PoolP) (e : Expr) (dt : DT) : Prop where
  pw : PW X e (lT X.K PL dt)
structure QA (X : Cx) (PL : PoolP) (es : List Expr) (da : DA) : Prop where
  pa : PA X es (lA X.K PL da)
structure QS (X : Cx) (PL : PoolP) (st : Stmt) (ds : DS) : Prop where
  ps : PS X st (lS X.K PL ds)
structure QSs (X : Cx) (PL : PoolP) (st : List Stmt) (ds : DS) : Prop where
  pss : PSs X st (lS X.K PL ds)

theorem PE.weak {X : Cx} {e : Expr} {t t' : TE} (h : PE X e t) (hw : ∀ σ H Q, t' σ H Q → t σ H Q) : PE X e t' := ⟨fun pins s σ H Q I q => h.run pins s σ H Q I (hw _ _ _ q)⟩
theorem PT.weak {X : Cx} {e : Expr} {t t' : TT} (h : PT X e t) (hw : ∀ σ H Q, t' σ H Q → t σ H Q) : PT X e t' := ⟨fun pins s σ H Q I q => h.run pins s σ H Q I (hw _ _ _ q)⟩
theorem PW.weak {X : Cx} {e : Expr} {t t' : TT} (h : PW X e t) (hw : ∀ σ H Q, t' σ H Q → t σ H Q) : PW X e t' := ⟨fun wh pins s σ H Q I q => h.run wh pins s σ H Q I (hw _ _ _ q)⟩
theorem PA.weak {X : Cx} {e : List Expr} {t t' : TA} (h : PA X e t) (hw : ∀ σ H Q, t' σ H Q → t σ H Q) : PA X e t' := ⟨fun pos pins s σ H Q I q => h.run pos pins s σ H Q I (hw _ _ _ q)⟩
theorem PS.weak {X : Cx} {e : Stmt} {t t' : TS} (h : PS X e t) (hw : ∀ D σ H, t' D σ H → t D σ H) : PS X e t' := ⟨fun pins s σ H D I q => h.run pins s σ H D I (hw _ _ _ q)⟩
theorem PSs.weak {X : Cx} {e : List Stmt} {t t' : TS} (h : PSs X e t) (hw : ∀ D σ H, t' D σ H → t D σ H) : PSs X e t' := ⟨fun pins s σ H D I q => h.run pins s σ H D I (hw _ _ _ q)⟩

/-! ### results looked at -/
/-- a new list that waits becomes plain data -/
def hd : Res → Res
  | .new (.lst l) => .dat (.lst l)
  | r => r
/-- data as it stands now -/
def vw : Res → CEnv → Option Dt
  | .dat d, _ => some d
  | .sl i, c => match gt c i with
    | .dat d => some d
    | .own (.lst l) => some (.lst l)
    | .arg (.lst l) => some (.lst l)
    | _ => none
  | .new _, _ => none
def RepH (K : PySem.W.Frag) (B H : Hp) : Dt → V → Prop
  | .non, v => v = .non
  | .bl b, v => v = .bl b
  | .int i, v => v = .int i
  | .str s, v => v = .str (S s)
  | .tup l, v => ∃ a xs, v = .ref a ∧ SqT K B a xs ∧ RepL K B l xs
  | .lst l, v => ∃ a xs, v = .ref a ∧ H a = some (.lst xs) ∧ RepL K B l xs
  | .frz l, v => ∃ a xs, v = .ref a ∧ SqL K B a xs ∧ RepL K B l xs
section
variable {K : PySem.W.Frag} {PL : PoolP} {G : Ent} {B B' : Hp} {c c' : CEnv} {σ : L2.St} {H H' : Hp}
theorem Rep.toH {d : Dt} {v : V} (e : Same B H) (h : Rep K B d v) : RepH K B H d v := by
  cases d with
  | tup l =>
    unfold Rep at h
    obtain ⟨a, xs, h1, h2, h3⟩ := h
    exact ⟨a, xs, h1, h2, h3⟩
  | lst l =>
    unfold Rep at h
    obtain ⟨a, xs, h1, h2, h3⟩ := h
    exact ⟨a, xs, h1, e _ _ h2, h3⟩
  | frz l =>
    unfold Rep at h
    obtain ⟨a, xs, h1, h2, h3⟩ := h
    exact ⟨a, xs, h1, h2, h3⟩
  | _ => unfold Rep at h; exact h
theorem CR.conc {r : Res} {v : V} (h : CR K PL G B c σ H r v) : Conc K PL G B c σ H := by
  cases r with
  | dat d => exact h.1
  | sl i => exact h.1
  | new o => exact Conc.pop h
theorem CR.hold {r : Res} {v : V} (h : CR K PL G B c σ H r v) : ∃ B', Same B B' ∧ Conc K PL G B' c σ H ∧ Held K B' σ (hd r) v := by
  cases r with
  | dat d => exact ⟨B, Same.refl B, h.1, h.2⟩
  | sl i => exact ⟨B, Same.refl B, h.1, h.2⟩
  | new o =>
    cases o with
    | lst l =>
      obtain ⟨B', h1, h2, h3⟩ := Conc.freezeLast h
      exact ⟨B', h1, h2, h3⟩
    | pool => exact ⟨B, Same.refl B, Conc.pop h, trivial⟩
theorem Held.mono {r : Res} {v : V} (e : Same B B') (h : Held K B σ r v) : Held K B' σ r v := by
  cases r with
  | dat d => exact Rep.mono e h
  | sl i => exact h
  | new o => trivial
theorem HeldL.mono (e : Same B B') : ∀ {rs : List Res} {vs : List V}, HeldL K B σ rs vs → HeldL K B' σ rs vs
  | [], _, h => h
  | r :: rs, vs, h => by
    obtain ⟨v, ws, h1, h2, h3⟩ := h
    exact ⟨v, ws, h1, h2.mono e, HeldL.mono e h3⟩
theorem vw_ok {r : Res} {v : V} {d : Dt} (h : Conc K PL G B c σ H) (hh : Held K B σ r v) (hv : vw r c = some d) : RepH K B H d v := by
  cases r with
  | dat d' =>
    have e : d' = d := Option.some.inj hv
    subst e
    exact Rep.toH h.same hh
  | sl i =>
    have hs : σ[i]? = some (some v) := hh
    cases q : gt c i with
    | no => simp only [vw, q] at hv; cases hv
    | dat d' =>
      simp only [vw, q] at hv
      have e : d' = d := Option.some.inj hv
      subst e
      obtain ⟨v', h1, h2⟩ := h.getDat q
      rw [hs] at h1
      cases h1
      exact h2.toH h.same
    | own o =>
      cases o with
      | lst l =>
        simp only [vw, q] at hv
        have e : Dt.lst l = d := Option.some.inj hv
        subst e
        obtain ⟨a, fp, h1, h2, xs, h3, h4⟩ := h.getOb (.inl (gt_get q (by simp)))
        rw [hs] at h1
        cases h1
        exact ⟨a, xs, rfl, h3, h4⟩
      | pool => simp only [vw, q] at hv; cases hv
    | arg o =>
      cases o with
      | lst l =>
        simp only [vw, q] at hv
        have e : Dt.lst l = d := Option.some.inj hv
        subst e
        obtain ⟨a, fp, h1, h2, xs, h3, h4⟩ := h.getOb (.inr (gt_get q (by simp)))
        rw [hs] at h1
        cases h1
        exact ⟨a, xs, rfl, h3, h4⟩
      | pool => simp only [vw, q] at hv; cases hv
  | new o => cases hv
/-- made plain data for good -/
def asD (r : Res) (c : CEnv) (k : Dt → CEnv → Prop) : Prop := match r with
  | .dat d => k d c
  | .new (.lst l) => k (.lst l) c
  | .new .pool => False
  | .sl i => match gt c i with
    | .own (.lst l) => k (.lst l) (c.set i (.dat (.lst l)))
    | .dat d => k d c
    | _ => False
theorem asD_ok {r : Res} {v : V} {k : Dt → CEnv → Prop} (h : CR K PL G B c σ H r v) (hk : asD r c k) : ∃ B' c' d, Same B B' ∧ Conc K PL G B' c' σ H ∧ Rep K B' d v ∧ k d c' := by
  cases r with
  | dat d => exact ⟨B, c, d, Same.refl B, h.1, h.2, hk⟩
  | new o =>
    cases o with
    | lst l =>
      obtain ⟨B', h1, h2, h3⟩ := Conc.freezeLast h
      exact ⟨B', c, _, h1, h2, h3, hk⟩
    | pool => exact hk.elim
  | sl i =>
    obtain ⟨h1, h2⟩ := h
    unfold asD at hk
    cases q : gt c i with
    | no => simp only [q] at hk
    | dat d =>
      simp only [q] at hk
      obtain ⟨v', e1, e2⟩ := h1.getDat q
      rw [h2] at e1
      cases e1
      exact ⟨B, c, d, Same.refl B, h1, e2, hk⟩
    | own o =>
      cases o with
      | lst l =>
        simp only [q] at hk
        obtain ⟨B', e1, e2, e3⟩ := h1.freezeAt (gt_get q (by simp)) h2
        exact ⟨B', _, _, e1, e2, e3, hk⟩
      | pool => simp only [q] at hk
    | arg o => simp only [q] at hk
end

/-! ### names and constants -/
section
variable {X : Cx} {PL : PoolP}
def dVar (i : Nat) : DE := fun c Q => match gt c i with
  | .dat d => Q (.dat d) c
  | .own _ => Q (.sl i) c
  | .arg _ => Q (.sl i) c
  | .no => False
theorem q_of {e : Expr} {t : TE} {de : DE} (h : PE X e t) (hw : ∀ G B c σ H Qd Q, Conc X.K PL G B c σ H → de c Qd → (∀ r c' B' H' v, Qd r c' → Same B B' → CR X.K PL G B' c' σ H' r v → Q v H') → t σ H Q) : QE X PL e de :=
  ⟨PE.weak h fun σ H Q ⟨G, B, c, Qd, h1, h2, h3⟩ => hw G B c σ H Qd Q h1 h2 h3⟩
theorem qe_var {i : Nat} {x : Str} {pos : Pos} (h : PE X (.Name x pos) (tVar i)) : QE X PL (.Name x pos) (dVar i) := by
  refine q_of h fun G B c σ H Qd Q hc hd hq => ?_
  unfold dVar at hd
  cases q : gt c i with
  | no => simp only [q] at hd
  | dat d =>
    simp only [q] at hd
    obtain ⟨v, h1, h2⟩ := hc.getDat q
    exact ⟨v, h1, hq _ _ B H v hd (Same.refl B) ⟨hc, h2⟩⟩
  | own o =>
    simp only [q] at hd
    obtain ⟨a, fp, h1, h2⟩ := hc.getOb (.inl (gt_get q (by simp)))
    exact ⟨_, h1, hq _ _ B H _ hd (Same.refl B) ⟨hc, h1⟩⟩
  | arg o =>
    simp only [q] at hd
    obtain ⟨a, fp, h1, h2⟩ := hc.getOb (.inr (gt_get q (by simp)))
    exact ⟨_, h1, hq _ _ B H _ hd (Same.refl B) ⟨hc, h1⟩⟩
def dC (d : Dt) : DE := fun c Q => Q (.dat d) c
theorem qe_c {e : Expr} {d : Dt} {v : V} (h : PE X e (tC v)) (r : ∀ B, Rep X.K B d v) : QE X PL e (dC d) := by
  refine q_of h fun G B c σ H Qd Q hc hd hq => ?_
  exact hq _ _ B H v hd (Same.refl B) ⟨hc, r B⟩
theorem qe_int {i : Int} {j : Nat} {pos : Pos} : QE X PL (.Constant (.int i) j pos) (dC (.int i)) := qe_c pe_int fun _ => by unfold Rep; rfl
theorem qe_bl {b : Bool} {j : Nat} {pos : Pos} : QE X PL (.Constant (.bool b) j pos) (dC (.bl b)) := qe_c pe_bl fun _ => by unfold Rep; rfl
theorem qe_non {j : Nat} {pos : Pos} : QE X PL (.Constant .none j pos) (dC .non) := qe_c pe_non fun _ => by unfold Rep; rfl
theorem qe_str {x : Str} {j : Nat} {pos : Pos} (s : List Nat) (h : x = S s) : QE X PL (.Constant (.str x) j pos) (dC (.str s)) := by
  subst h
  exact qe_c pe_str fun _ => by unfold Rep; rfl
/-- a module's constant that is no object -/
theorem qe_glob {x : Str} {d : Dt} {v : V} {u : Value} {pos : Pos} (hg : Gl X x) (hm : X.mg x = some u) (r : RelV v u) (hr : ∀ B, Rep X.K B d v) (hd : (x == ("__debug__" : Str)) = false := by decide) : QE X PL (.Name x pos) (dC d) :=
  qe_c (pe_glob hg hm r hd) hr

/-! ### operators -/
abbrev OpF := Dt → Dt → (Res → Prop) → Prop
def OpD (K : PySem.W.Frag) (PL : PoolP) (r : R2) (f : OpF) : Prop := ∀ G B c σ H x y v u k (Q : VK), Conc K PL G B c σ H → RepH K B H x v → RepH K B H y u → f x y k →
  (∀ z w B' H', k z → Same B B' → CR K PL G B' c σ H' z w → Q w H') → r v u H Q
def on2 (r s : Res) (c : CEnv) (f : Dt → Dt → Prop) : Prop := match vw r c with
  | none => False
  | some x => match vw s c with
    | none => False
    | some y => f x y
def dBin (f : OpF) (da db : DE) : DE := fun c Q => da c fun r c1 => db c1 fun s c2 => on2 (hd r) (hd s) c2 fun x y => f x y fun z => Q z c2
theorem on2_ok {K : PySem.W.Frag} {PL : PoolP} {G : Ent} {B : Hp} {c : CEnv} {σ : L2.St} {H : Hp} {r s : Res} {v u : V} {f : Dt → Dt → Prop} (hc : Conc K PL G B c σ H) (h1 : Held K B σ r v) (h2 : Held K B σ s u) (h : on2 r s c f) : ∃ x y, RepH K B H x v ∧ RepH K B H y u ∧ f x y := by
  unfold on2 at h
  cases q1 : vw r c with
  | none => simp only [q1] at h
  | some x =>
    simp only [q1] at h
    cases q2 : vw s c with
    | none => simp only [q2] at h
    | some y =>
      simp only [q2] at h
      exact ⟨x, y, vw_ok hc h1 q1, vw_ok hc h2 q2, h⟩
theorem bin_ok {r : R2} {f : OpF} (ho : OpD X.K PL r f) {da db : DE} {G : Ent} {B : Hp} {c : CEnv} {σ : L2.St} {H : Hp} {Qd : Res → CEnv → Prop} {Q : VK} (hc : Conc X.K PL G B c σ H) (hd' : dBin f da db c Qd)
    (hq : ∀ r c' B' H' v, Qd r c' → Same B B' → CR X.K PL G B' c' σ H' r v → Q v H') : tOp r (lE X.K PL da) (lE X.K PL db) σ H Q := by
  refine ⟨G, B, c, _, hc, hd', fun r1 c1 B1 H1 v h1 e1 cr1 => ?_⟩
  obtain ⟨B2, e2, hc2, hh⟩ := cr1.hold
  refine ⟨G, B2, c1, _, hc2, h1, fun r2 c2 B3 H2 u h2 e3 cr2 => ?_⟩
  obtain ⟨B4, e4, hc4, hh2⟩ := cr2.hold
  obtain ⟨x, y, rx, ry, hf⟩ := on2_ok hc4 (hh.mono (e3.trans e4)) hh2 h2
  exact ho G B4 c2 σ H2 x y v u _ Q hc4 rx ry hf fun z w B' H' hk e' cr => hq z c2 B' H' w hk (((e1.trans e2).trans e3).trans (e4.trans e')) cr
theorem qe_op {a b : Expr} {op : Operator} {pos : Pos} {r : R2} {f : OpF} {da db : DE} (ho : OpR X (binaryOp op) r) (hd' : OpD X.K PL r f) (ha : QE X PL a da) (hb : QE X PL b db) : QE X PL (.BinOp a op b pos) (dBin f da db) :=
  q_of (pe_op ho ha.pe hb.pe) fun _ _ _ _ _ _ _ hc hd2 hq => bin_ok hd' hc hd2 hq
theorem qe_ix {a b : Expr} {pos : Pos} {r : R2} {f : OpF} {da db : DE} (ho : IxR X r) (hd' : OpD X.K PL r f) (ha : QE X PL a da) (hb : QE X PL b db) (hs : PlainIx b) : QE X PL (.Subscript a b pos) (dBin f da db) :=
  q_of (pe_ix ho ha.pe hb.pe hs) fun _ _ _ _ _ _ _ hc hd2 hq => bin_ok hd' hc hd2 hq
theorem qe_cmp {a b : Expr} {op : CmpOp} {pos : Pos} {r : R2} {f : OpF} {da db : DE} (ho : OpR X (compareOp op) r) (hd' : OpD X.K PL r f) (ha : QE X PL a da) (hb : QE X PL b db) (h1 : behindInMarks op b = false) : QE X PL (.Compare a [op] [b] pos) (dBin f da db) :=
  q_of (pe_cmpR ho ha.pe hb.pe h1) fun _ _ _ _ _ _ _ hc hd2 hq => bin_ok hd' hc hd2 hq
theorem OpR.or {f : Value → Value → Sem Value} {r r' : R2} (h : OpR X f r) (h' : OpR X f r') : OpR X f (fun x y H Q => r x y H Q ∨ r' x y H Q) := by
  intro pins s σ H x y v u Q I rx ry hw
  rcases hw with hw | hw
  · exact h pins s σ H x y v u Q I rx ry hw
  · exact h' pins s σ H x y v u Q I rx ry hw
end
end Cl

namespace Cl
open PySem PySem.Spec PyProof.Rows L2

theorem sz7 {n : Nat} (h : n ≤ 10000000) : n ≤ sizeLine := Nat.le_trans h (by rw [sizeLine_eq]; decide)
theorem sz7l {n : Nat} (h : n < 10000000) : n < sizeLine := Nat.lt_of_lt_of_le h (by rw [sizeLine_eq]; decide)
theorem S_app (s t : List Nat) : S s ++ S t = S (s ++ t) := by
  apply Str.ext'
  show (S s).cps ++ (S t).cps = (S (s ++ t)).cps
  simp [S]

/-! ### operators on data -/
section
variable {K : PySem.W.Frag} {PL : PoolP}
theorem opd_or {r r' : R2} {f g : OpF} (h : OpD K PL r f) (h' : OpD K PL r' g) : OpD K PL (fun x y H Q => r x y H Q ∨ r' x y H Q) (fun x y k => f x y k ∨ g x y k) := by
  intro G B c σ H x y v u k Q hc rx ry hf hq
  rcases hf with hf | hf
  · exact .inl (h G B c σ H x y v u k Q hc rx ry hf hq)
  · exact .inr (h' G B c σ H x y v u k Q hc rx ry hf hq)
/-- two ints in, a value out -/
def fI (C : Int → Int → Prop) (g : Int → Int → Dt) : OpF
  | .int i, .int j, k => C i j ∧ k (.dat (g i j))
  | _, _, _ => False
theorem opd_I {C D : Int → Int → Prop} {g : Int → Int → Int} (hD : ∀ i j, D i j → C i j) : OpD K PL (rI C fun i j => .int (g i j)) (fI D fun i j => .int (g i j)) := by
  intro G B c σ H x y v u k Q hc rx ry hf hq
  cases x with
  | int i =>
    cases y with
    | int j =>
      obtain ⟨h1, h2⟩ := hf
      exact ⟨i, j, rx, ry, hD i j h1, hq _ _ B H h2 (Same.refl B) ⟨hc, by unfold Rep; rfl⟩⟩
    | _ => exact hf.elim
  | _ => exact hf.elim
theorem opd_I0 {g : Int → Int → Int} : OpD K PL (rI0 fun i j => .int (g i j)) (fI (fun _ _ => True) fun i j => .int (g i j)) := by
  intro G B c σ H x y v u k Q hc rx ry hf hq
  cases x with
  | int i =>
    cases y with
    | int j =>
      obtain ⟨h1, h2⟩ := hf
      exact ⟨i, j, rx, ry, hq _ _ B H h2 (Same.refl B) ⟨hc, by unfold Rep; rfl⟩⟩
    | _ => exact hf.elim
  | _ => exact hf.elim
theorem opd_B0 {g : Int → Int → Bool} : OpD K PL (rI0 fun i j => .bl (g i j)) (fI (fun _ _ => True) fun i j => .bl (g i j)) := by
  intro G B c σ H x y v u k Q hc rx ry hf hq
  cases x with
  | int i =>
    cases y with
    | int j =>
      obtain ⟨h1, h2⟩ := hf
      exact ⟨i, j, rx, ry, hq _ _ B H h2 (Same.refl B) ⟨hc, by unfold Rep; rfl⟩⟩
    | _ => exact hf.elim
  | _ => exact hf.elim
theorem conc_lst {G : Ent} {B : Hp} {c : CEnv} {σ : L2.St} {H : Hp} {p : Addr} {l : List Dt} {xs : List V} (h : Conc K PL G B c σ H) (hp : H p = none) (r : RepL K B l xs) : CR K PL G B c σ (upd H p (.lst xs)) (.new (.lst l)) (.ref p) := Conc.newL h hp r
theorem conc_tup {G : Ent} {B : Hp} {c : CEnv} {σ : L2.St} {H : Hp} {p : Addr} {l : List Dt} {xs : List V} (h : Conc K PL G B c σ H) (hp : H p = none) (r : RepL K B l xs) :
    Same B (upd B p (.tup xs)) ∧ CR K PL G (upd B p (.tup xs)) c σ (upd H p (.tup xs)) (.dat (.tup l)) (.ref p) := by
  obtain ⟨h1, h2, h3⟩ := h.tup hp r
  exact ⟨h2, h1, h3⟩
/-- + -/
def fAdd : OpF
  | .int i, .int j, k => k (.dat (.int (i + j)))
  | .str s, .str t, k => s.length + t.length ≤ 10000000 ∧ k (.dat (.str (s ++ t)))
  | .lst l, .lst m, k => l.length + m.length ≤ 10000000 ∧ k (.new (.lst (l ++ m)))
  | .tup l, .tup m, k => l ≠ [] ∧ l.length + m.length ≤ 10000000 ∧ k (.dat (.tup (l ++ m)))
  | _, _, _ => False
def rAdd (K : PySem.W.Frag) : R2 := fun x y H Q => rI0 (fun i j => .int (i + j)) x y H Q ∨ (∃ i j, x = .str i ∧ y = .str j ∧ i.length + j.length ≤ sizeLine ∧ Q (.str (i ++ j)) H) ∨ rCat x y H Q ∨ rCatT K x y H Q
theorem opr_add {X : Cx} : OpR X (binaryOp .Add) (rAdd X.K) := OpR.or op_add (OpR.or op_add_str (OpR.or op_cat op_catT))
theorem opd_add : OpD K PL (rAdd K) fAdd := by
  intro G B c σ H x y v u k Q hc rx ry hf hq
  cases x with
  | int i =>
    cases y with
    | int j => exact .inl ⟨i, j, rx, ry, hq _ _ B H hf (Same.refl B) ⟨hc, by unfold Rep; rfl⟩⟩
    | _ => exact hf.elim
  | str s =>
    cases y with
    | str t =>
      obtain ⟨h1, h2⟩ := hf
      refine .inr (.inl ⟨S s, S t, rx, ry, by rw [S_len, S_len]; exact sz7 h1, hq _ _ B H h2 (Same.refl B) ⟨hc, by unfold Rep; rw [S_app]⟩⟩)
    | _ => exact hf.elim
  | lst l =>
    cases y with
    | lst m =>
      obtain ⟨h1, h2⟩ := hf
      obtain ⟨a, xs, rfl, e1, e2⟩ := rx
      obtain ⟨b, ys, rfl, e3, e4⟩ := ry
      refine .inr (.inr (.inl ⟨a, b, xs, ys, rfl, rfl, e1, e3, by rw [e2.length, e4.length]; exact sz7 h1, fun p hp => hq _ _ B _ h2 (Same.refl B) (conc_lst hc hp (e2.app e4))⟩))
    | _ => exact hf.elim
  | tup l =>
    cases y with
    | tup m =>
      obtain ⟨h0, h1, h2⟩ := hf
      obtain ⟨a, xs, rfl, e1, e2⟩ := rx
      obtain ⟨b, ys, rfl, e3, e4⟩ := ry
      refine .inr (.inr (.inr ⟨a, b, xs, ys, rfl, rfl, sameT hc.same e1, sameT hc.same e3, fun z => h0 ?_, by rw [e2.length, e4.length]; exact sz7 h1, fun z => ?_, fun z p hp => ?_⟩))
      · have := e2.length
        rw [z] at this
        exact List.length_eq_zero_iff.mp this.symm
      · have hm : m = [] := by
          have := e4.length
          rw [z] at this
          exact List.length_eq_zero_iff.mp this.symm
        subst hm
        subst z
        rw [List.append_nil] at h2
        exact hq _ _ B H h2 (Same.refl B) ⟨hc, by unfold Rep; exact ⟨a, xs, rfl, e1, e2⟩⟩
      · obtain ⟨h3, h4⟩ := conc_tup hc hp (e2.app e4)
        exact hq _ _ _ _ h2 h3 h4
    | _ => exact hf.elim
  | _ => exact hf.elim

/-- // and % by a positive number, shifts, bits -/
def CDiv' (_ j : Int) : Prop := 0 < j ∧ j < 1073741824
def fDiv : OpF := fI (fun _ j => 0 < j ∧ j < 1073741824) fun i j => .int (i / j)
theorem opd_div : OpD K PL (rI CDiv fun i j => .int (i / j)) fDiv := opd_I fun _ _ h => h
def fMod : OpF := fI (fun _ j => 0 < j) fun i j => .int (i % j)
theorem opd_mod : OpD K PL (rI (fun _ j => 0 < j) fun i j => .int (i % j)) fMod := opd_I fun _ _ h => h
def fSub : OpF := fI (fun _ _ => True) fun i j => .int (i - j)
theorem opd_sub : OpD K PL (rI0 fun i j => .int (i - j)) fSub := opd_I0
def fPow : OpF := fI CPow fun i j => .int (i ^ j.toNat)
theorem opd_pow : OpD K PL (rI CPow fun i j => .int (i ^ j.toNat)) fPow := opd_I fun _ _ h => h
def fShl : OpF := fI CPow fun i j => .int (i * 2 ^ j.toNat)
theorem opd_shl : OpD K PL (rI CPow fun i j => .int (i * 2 ^ j.toNat)) fShl := opd_I fun _ _ h => h
def fShr : OpF := fI (fun _ j => 0 ≤ j) fun i j => .int (i / 2 ^ j.toNat)
theorem opd_shr : OpD K PL (rI (fun _ j => 0 ≤ j) fun i j => .int (i / 2 ^ j.toNat)) fShr := opd_I fun _ _ h => h
def fAnd : OpF := fI (fun _ _ => True) fun i j => .int (Builtin.bitAnd i j)
theorem opd_and : OpD K PL (rI0 fun i j => .int (Builtin.bitAnd i j)) fAnd := opd_I0
def fOr : OpF := fI (fun _ _ => True) fun i j => .int (Builtin.bitOr i j)
theorem opd_or' : OpD K PL (rI0 fun i j => .int (Builtin.bitOr i j)) fOr := opd_I0
def fXor : OpF := fI (fun _ _ => True) fun i j => .int (Builtin.bitXor i j)
theorem opd_xor : OpD K PL (rI0 fun i j => .int (Builtin.bitXor i j)) fXor := opd_I0
/-- * of ints, of a list, of a text -/
def fMul : OpF
  | .int i, .int j, k => ((-(2 ^ 64) < i ∧ i < 2 ^ 64) ∨ (-(2 ^ 64) < j ∧ j < 2 ^ 64)) ∧ k (.dat (.int (i * j)))
  | .lst l, .int n, k => (n ≤ 10000000 ∧ -10000000 ≤ n ∧ l.length * n.toNat ≤ 10000000) ∧ k (.new (.lst (List.replicate n.toNat l).flatten))
  | .str s, .int n, k => (n ≤ 10000000 ∧ -10000000 ≤ n ∧ s.length * n.toNat ≤ 10000000) ∧ k (.dat (.str (List.replicate n.toNat s).flatten))
  | _, _, _ => False
def rMulS : R2 := fun x y H Q => ∃ z n, x = .str z ∧ y = .int n ∧ MulOk z n ∧ Q (.str (Txt.mul z n)) H
theorem opr_mulS {X : Cx} : OpR X (binaryOp .Mult) rMulS := by
  intro pins s σ H x y v u Q I rx ry h
  obtain ⟨z, n, rfl, rfl, h1, q⟩ := h
  obtain ⟨t, rfl⟩ := rx
  obtain ⟨t', rfl⟩ := ry
  exact SB.mul h1 fun t2 k => ⟨.str _, H, I.tok _, ⟨_, rfl⟩, q⟩
def rMul : R2 := fun x y H Q => rI CMul (fun i j => .int (i * j)) x y H Q ∨ rRep x y H Q ∨ rMulS x y H Q
theorem opr_mul {X : Cx} : OpR X (binaryOp .Mult) rMul := OpR.or op_mul (OpR.or op_rep opr_mulS)
theorem foldl_arr (x : Array Nat) : ∀ (n : Nat) (a : Array Nat), ((List.replicate n x).foldl (· ++ ·) a) = a ++ ((List.replicate n x.toList).flatten).toArray
  | 0, a => by simp
  | n + 1, a => by
    rw [List.replicate_succ, List.foldl_cons, foldl_arr x n, List.replicate_succ, List.flatten_cons]
    rw [Array.append_assoc]
    congr 1
    apply Array.ext'
    simp
theorem mul_S (s : List Nat) (n : Int) : Txt.mul (S s) n = S (List.replicate n.toNat s).flatten := by
  unfold Txt.mul
  by_cases h : n < 1
  · rw [if_pos h]
    have : n.toNat = 0 := by omega
    rw [this]
    rfl
  · rw [if_neg h]
    by_cases h2 : (n == 1 || (S s).length == 0) = true
    · rw [if_pos h2]
      rw [Bool.or_eq_true] at h2
      rcases h2 with h2 | h2
      · have e : n = 1 := by simpa using h2
        subst e
        simp [S]
      · have e : s.length = 0 := by
          have : (S s).length = 0 := by simpa using h2
          rw [S_len] at this
          exact this
        have : s = [] := List.length_eq_zero_iff.mp e
        subst this
        simp [S]
    · rw [if_neg h2, foldl_arr]
      simp [S]
theorem mulOk_S {s : List Nat} {n : Int} (h : n ≤ 10000000 ∧ -10000000 ≤ n ∧ s.length * n.toNat ≤ 10000000) : MulOk (S s) n := by
  obtain ⟨h1, h2, h3⟩ := h
  refine ⟨?_, fun h4 _ => ?_, fun h4 _ => ?_⟩
  · rw [Bool.or_eq_false_iff]
    exact ⟨decide_eq_false (by omega), decide_eq_false (by omega)⟩
  · rw [S_len]
    intro h5
    have h6 : (s.length : Int) ≤ 10000000 := by
      have : s.length * 1 ≤ s.length * n.toNat := Nat.mul_le_mul_left _ (by omega)
      omega
    have h7 : (10000000 : Int) ≤ (2 ^ 63 - 1) / n := by
      apply Int.le_ediv_of_mul_le (by omega)
      have : (10000000 : Int) * n ≤ 10000000 * 10000000 := Int.mul_le_mul_of_nonneg_left h1 (by decide)
      omega
    omega
  · rw [S_len]
    unfold Builtin.Str.tooLong
    exact decide_eq_false (by have := sz7 h3; omega)
theorem opd_mul : OpD K PL rMul fMul := by
  intro G B c σ H x y v u k Q hc rx ry hf hq
  cases x with
  | int i =>
    cases y with
    | int j =>
      obtain ⟨h1, h2⟩ := hf
      exact .inl ⟨i, j, rx, ry, h1, hq _ _ B H h2 (Same.refl B) ⟨hc, by unfold Rep; rfl⟩⟩
    | _ => exact hf.elim
  | lst l =>
    cases y with
    | int n =>
      obtain ⟨⟨h1, h2, h3⟩, h4⟩ := hf
      obtain ⟨a, xs, rfl, e1, e2⟩ := rx
      refine .inr (.inl ⟨a, n, xs, rfl, ry, e1, by omega, by omega, by rw [e2.length]; exact sz7 h3, fun p hp => hq _ _ B _ h4 (Same.refl B) (conc_lst hc hp (e2.rep _))⟩)
    | _ => exact hf.elim
  | str s =>
    cases y with
    | int n =>
      obtain ⟨h1, h4⟩ := hf
      refine .inr (.inr ⟨S s, n, rx, ry, mulOk_S h1, hq _ _ B _ h4 (Same.refl B) ⟨hc, by unfold Rep; rw [mul_S]⟩⟩)
    | _ => exact hf.elim
  | _ => exact hf.elim

/-! ### comparisons -/
def fLt : OpF := fI (fun _ _ => True) fun i j => .bl (decide (i < j))
def fLe : OpF := fI (fun _ _ => True) fun i j => .bl (decide (i ≤ j))
def fGt : OpF := fI (fun _ _ => True) fun i j => .bl (decide (j < i))
def fGe : OpF := fI (fun _ _ => True) fun i j => .bl (decide (j ≤ i))
mutual
def toPy : Dt → PyData
  | .non => .none
  | .bl b => .bool b
  | .int i => .int i
  | .str s => .str (S s)
  | .tup l => .tuple (toPys l)
  | .lst l => .list (toPys l)
  | .frz l => .list (toPys l)
def toPys : List Dt → List PyData
  | [] => []
  | d :: r => toPy d :: toPys r
end
mutual
theorem Rep.dp {B H : Hp} (e : Same B H) : ∀ {d : Dt} {v : V}, Rep K B d v → Dp K H v (toPy d)
  | .non, v, h => by unfold Rep at h; subst h; unfold toPy; exact .non
  | .bl b, v, h => by unfold Rep at h; subst h; unfold toPy; exact .bl b
  | .int i, v, h => by unfold Rep at h; subst h; unfold toPy; exact .int i
  | .str s, v, h => by unfold Rep at h; subst h; unfold toPy; exact .str _
  | .tup l, v, h => by
    unfold Rep at h
    obtain ⟨a, xs, h1, h2, h3⟩ := h
    subst h1
    unfold toPy
    exact .tup (sameT e h2) (RepL.dp e h3)
  | .lst l, v, h => by
    unfold Rep at h
    obtain ⟨a, xs, h1, h2, h3⟩ := h
    subst h1
    unfold toPy
    exact .lst (.of (e _ _ h2)) (RepL.dp e h3)
  | .frz l, v, h => by
    unfold Rep at h
    obtain ⟨a, xs, h1, h2, h3⟩ := h
    subst h1
    unfold toPy
    exact .lst (e.seq h2) (RepL.dp e h3)
theorem RepL.dp {B H : Hp} (e : Same B H) : ∀ {l : List Dt} {xs : List V}, RepL K B l xs → DpAll K H xs (toPys l)
  | [], xs, h => by unfold RepL at h; subst h; unfold toPys; exact .nil
  | d :: r, xs, h => by
    unfold RepL at h
    obtain ⟨x, q, h1, h2, h3⟩ := h
    subst h1
    unfold toPys
    exact .cons (Rep.dp e h2) (RepL.dp e h3)
end
theorem RepH.dp {B H : Hp} (e : Same B H) {d : Dt} {v : V} (h : RepH K B H d v) : Dp K H v (toPy d) := by
  cases d with
  | lst l =>
    obtain ⟨a, xs, rfl, h2, h3⟩ := h
    unfold toPy
    exact .lst (.of h2) (h3.dp e)
  | tup l => exact Rep.dp e (by unfold Rep; exact h)
  | frz l => exact Rep.dp e (by unfold Rep; exact h)
  | _ => exact Rep.dp e (by unfold Rep; exact h)
/-- == as Python has it -/
def eqD (x y : Dt) : Bool := PyData.eqv (toPy x) (toPy y)
def shp (x : Dt) : Bool := SeqAt.shaped (toPy x)
theorem eqD_int (i j : Int) : eqD (.int i) (.int j) = decide (i = j) := by
  unfold eqD toPy PyData.eqv
  exact Bool.beq_eq_decide_eq i j
theorem eqD_bl (i j : Bool) : eqD (.bl i) (.bl j) = (i == j) := by
  unfold eqD toPy PyData.eqv
  rfl
theorem eqD_str (s t : List Nat) : eqD (.str s) (.str t) = decide (s = t) := by
  unfold eqD toPy PyData.eqv
  rw [Bool.eq_iff_iff]
  simp only [beq_iff_eq, decide_eq_true_eq]
  exact ⟨fun h => S_inj h, fun h => by rw [h]⟩
theorem shp_int (i : Int) : shp (.int i) = true := by unfold shp toPy; rfl
theorem shp_bl (i : Bool) : shp (.bl i) = true := by unfold shp toPy; rfl
theorem shp_non : shp .non = true := by unfold shp toPy; rfl
theorem shp_str (s : List Nat) (h : s.all (· < 1114112) = true) : shp (.str s) = true := by
  unfold shp toPy SeqAt.shaped
  rw [Bool.and_eq_true]
  refine ⟨?_, decide_eq_true (Nat.zero_le _)⟩
  show PyData.strOk (S s) = true
  unfold PyData.strOk S
  simpa using h
end
end Cl

namespace Cl
open PySem PySem.Spec PyProof.Rows L2

section
variable {K : PySem.W.Frag} {PL : PoolP}
/-! ### an item -/
def ixL (l : List Dt) (i : Int) (k : Res → Prop) : Prop := match atI l i with
  | some d => k (.dat d)
  | none => False
def fIx : OpF
  | .lst l, .int i, k => ixL l i k
  | .tup l, .int i, k => ixL l i k
  | .frz l, .int i, k => ixL l i k
  | .str s, .int i, k => s.length ≤ 10000000 ∧ (match atI s i with
    | some ch => k (.dat (.str [ch]))
    | none => False)
  | _, _, _ => False
theorem atI_map {B : Hp} {l : List Dt} {xs : List V} {i : Int} {d : Dt} (r : RepL K B l xs) (h : atI l i = some d) : ∃ v, atI xs i = some v ∧ Rep K B d v := by
  unfold atI at h ⊢
  rw [r.length]
  cases q : ixN l.length i with
  | none => rw [q] at h; cases h
  | some j =>
    rw [q] at h
    obtain ⟨v, h1, h2⟩ := r.get (show l[j]? = some d from h)
    exact ⟨v, h1, h2⟩
theorem opd_ix : OpD K PL (rIx K) fIx := by
  intro G B c σ H x y v u k Q hc rx ry hf hq
  have fin : ∀ {l : List Dt} {xs : List V} {i : Int}, RepL K B l xs → ixL l i k → ∃ w, atI xs i = some w ∧ Q w H := fun {l xs i} r h => by
    unfold ixL at h
    cases q : atI l i with
    | none => simp only [q] at h
    | some d =>
      simp only [q] at h
      obtain ⟨w, h1, h2⟩ := atI_map r q
      exact ⟨w, h1, hq _ _ B H h (Same.refl B) ⟨hc, h2⟩⟩
  cases x with
  | lst l =>
    cases y with
    | int i =>
      obtain ⟨a, xs, rfl, e1, e2⟩ := rx
      obtain ⟨w, h1, h2⟩ := fin e2 hf
      exact .inl ⟨a, xs, i, w, rfl, ry, .of e1, h1, h2⟩
    | _ => exact hf.elim
  | tup l =>
    cases y with
    | int i =>
      obtain ⟨a, xs, rfl, e1, e2⟩ := rx
      obtain ⟨w, h1, h2⟩ := fin e2 hf
      exact .inr (.inl ⟨a, xs, i, w, rfl, ry, sameT hc.same e1, h1, h2⟩)
    | _ => exact hf.elim
  | frz l =>
    cases y with
    | int i =>
      obtain ⟨a, xs, rfl, e1, e2⟩ := rx
      obtain ⟨w, h1, h2⟩ := fin e2 hf
      exact .inl ⟨a, xs, i, w, rfl, ry, hc.same.seq e1, h1, h2⟩
    | _ => exact hf.elim
  | str s =>
    cases y with
    | int i =>
      obtain ⟨h1, h2⟩ := hf
      cases q : atI s i with
      | none => simp only [q] at h2
      | some ch =>
        simp only [q] at h2
        exact .inr (.inr ⟨S s, i, ch, rx, ry, by rw [S_len]; exact sz7 h1, q, hq _ _ B H h2 (Same.refl B) ⟨hc, by unfold Rep; rfl⟩⟩)
    | _ => exact hf.elim
  | _ => exact hf.elim

/-! ### in -/
def flatD : Dt → Bool
  | .non => true
  | .bl _ => true
  | .int _ => true
  | .str _ => true
  | _ => false
theorem flat_rep {B : Hp} {d : Dt} {v : V} (h : Rep K B d v) (f : flatD d = true) : flatV v = true := by
  cases d with
  | non => unfold Rep at h; subst h; rfl
  | bl b => unfold Rep at h; subst h; rfl
  | int b => unfold Rep at h; subst h; rfl
  | str b => unfold Rep at h; subst h; rfl
  | _ => exact absurd (show false = true from f) Bool.false_ne_true
theorem flat_reps {B : Hp} : ∀ {l : List Dt} {xs : List V}, RepL K B l xs → l.all flatD = true → xs.all flatV = true
  | [], xs, h, _ => by unfold RepL at h; subst h; rfl
  | d :: r, xs, h, f => by
    unfold RepL at h
    obtain ⟨x, q, h1, h2, h3⟩ := h
    subst h1
    rw [List.all_cons, Bool.and_eq_true] at f
    rw [List.all_cons, Bool.and_eq_true]
    exact ⟨flat_rep h2 f.1, flat_reps h3 f.2⟩
theorem S_beq (a b : List Nat) : (S a == S b) = (a == b) := by
  rw [Bool.eq_iff_iff]
  simp only [beq_iff_eq]
  exact ⟨fun h => S_inj h, fun h => by rw [h]⟩
theorem eqV_rep {B : Hp} {d e : Dt} {v u : V} (h : Rep K B d v) (h' : Rep K B e u) (f : flatD d = true) (f' : flatD e = true) : eqV v u = eqD d e := by
  cases d with
  | non =>
    unfold Rep at h; subst h
    cases e with
    | non => unfold Rep at h'; subst h'; simp [eqV, eqD, toPy, PyData.eqv]
    | bl b => unfold Rep at h'; subst h'; simp [eqV, eqD, toPy, PyData.eqv]
    | int b => unfold Rep at h'; subst h'; simp [eqV, eqD, toPy, PyData.eqv]
    | str b => unfold Rep at h'; subst h'; simp [eqV, eqD, toPy, PyData.eqv]
    | _ => exact absurd (show false = true from f') Bool.false_ne_true
  | bl b =>
    unfold Rep at h; subst h
    cases e with
    | non => unfold Rep at h'; subst h'; simp [eqV, eqD, toPy, PyData.eqv]
    | bl b => unfold Rep at h'; subst h'; simp [eqV, eqD, toPy, PyData.eqv]
    | int b => unfold Rep at h'; subst h'; simp [eqV, eqD, toPy, PyData.eqv]
    | str b => unfold Rep at h'; subst h'; simp [eqV, eqD, toPy, PyData.eqv]
    | _ => exact absurd (show false = true from f') Bool.false_ne_true
  | int b =>
    unfold Rep at h; subst h
    cases e with
    | non => unfold Rep at h'; subst h'; simp [eqV, eqD, toPy, PyData.eqv]
    | bl b => unfold Rep at h'; subst h'; simp [eqV, eqD, toPy, PyData.eqv]
    | int b => unfold Rep at h'; subst h'; simp [eqV, eqD, toPy, PyData.eqv]
    | str b => unfold Rep at h'; subst h'; simp [eqV, eqD, toPy, PyData.eqv]
    | _ => exact absurd (show false = true from f') Bool.false_ne_true
  | str b =>
    unfold Rep at h; subst h
    cases e with
    | non => unfold Rep at h'; subst h'; simp [eqV, eqD, toPy, PyData.eqv]
    | bl b => unfold Rep at h'; subst h'; simp [eqV, eqD, toPy, PyData.eqv]
    | int b => unfold Rep at h'; subst h'; simp [eqV, eqD, toPy, PyData.eqv]
    | str b => unfold Rep at h'; subst h'; simp [eqV, eqD, toPy, PyData.eqv, S_beq]
    | _ => exact absurd (show false = true from f') Bool.false_ne_true
  | _ => exact absurd (show false = true from f) Bool.false_ne_true
theorem inV_rep {B : Hp} {d : Dt} {v : V} (h : Rep K B d v) (f : flatD d = true) : ∀ {l : List Dt} {xs : List V}, RepL K B l xs → l.all flatD = true → inV v xs = l.any fun y => eqD y d
  | [], xs, h', _ => by unfold RepL at h'; subst h'; rfl
  | e :: r, xs, h', f' => by
    unfold RepL at h'
    obtain ⟨x, q, h1, h2, h3⟩ := h'
    subst h1
    rw [List.all_cons, Bool.and_eq_true] at f'
    have ih := inV_rep h f h3 f'.2
    unfold inV at ih ⊢
    rw [List.any_cons, List.any_cons, ih, eqV_rep h2 h f'.1 f]
def one1 (s : List Nat) (k : Nat → Prop) : Prop := match s with
  | [ch] => k ch
  | _ => False
theorem one1_ok {s : List Nat} {k : Nat → Prop} (h : one1 s k) : ∃ ch, s = [ch] ∧ k ch := by
  match s, h with
  | [ch], h => exact ⟨ch, rfl, h⟩
def fIn (neg : Bool) : OpF
  | .str s, .str t, k => one1 s fun ch => k (.dat (.bl (decide (ch ∈ t) != neg)))
  | x, .lst l, k => (flatD x = true ∧ l.all flatD = true) ∧ k (.dat (.bl ((l.any fun y => eqD y x) != neg)))
  | x, .tup l, k => (flatD x = true ∧ l.all flatD = true) ∧ k (.dat (.bl ((l.any fun y => eqD y x) != neg)))
  | _, _, _ => False
def rInS (neg : Bool) : R2 := fun x y H Q => ∃ (c : Nat) (z : Str), x = .str ⟨#[c]⟩ ∧ y = .str z ∧ Q (.bl (decide (c ∈ z.cps.toList) != neg)) H
theorem opr_in {X : Cx} : OpR X (compareOp .In) (fun x y H Q => rInS false x y H Q ∨ rIn X.K false x y H Q) := by
  refine OpR.or ?_ op_in_seq
  intro pins s σ H x y v u Q I rx ry h
  obtain ⟨ch, z, h1, h2, h3⟩ := h
  rw [Bool.bne_false] at h3
  exact op_in_sign pins s σ H x y v u Q I rx ry ⟨ch, z, h1, h2, h3⟩
theorem opr_notIn {X : Cx} : OpR X (compareOp .NotIn) (fun x y H Q => rInS true x y H Q ∨ rIn X.K true x y H Q) := by
  refine OpR.or ?_ op_notIn_seq
  intro pins s σ H x y v u Q I rx ry h
  obtain ⟨ch, z, h1, h2, h3⟩ := h
  rw [Bool.bne_true] at h3
  exact op_notIn_sign pins s σ H x y v u Q I rx ry ⟨ch, z, h1, h2, h3⟩
theorem RepH.flat {B H : Hp} {d : Dt} {v : V} (h : RepH K B H d v) (f : flatD d = true) : Rep K B d v := by
  cases d with
  | non => unfold Rep; exact h
  | bl b => unfold Rep; exact h
  | int b => unfold Rep; exact h
  | str b => unfold Rep; exact h
  | _ => exact absurd (show false = true from f) Bool.false_ne_true
theorem opd_in {neg : Bool} : OpD K PL (fun x y H Q => rInS neg x y H Q ∨ rIn K neg x y H Q) (fIn neg) := by
  intro G B c σ H x y v u k Q hc rx ry hf hq
  have seq : ∀ {l : List Dt} {xs : List V} {a : Addr}, u = .ref a → (SqL K H a xs ∨ SqT K H a xs) → RepL K B l xs → ((flatD x = true ∧ l.all flatD = true) ∧ k (.dat (.bl ((l.any fun y => eqD y x) != neg)))) → rIn K neg v u H Q := fun {l xs a} hu hs r h => by
    obtain ⟨⟨h1, h2⟩, h3⟩ := h
    have rv := rx.flat h1
    refine ⟨a, xs, hu, hs, flat_rep rv h1, flat_reps r h2, ?_⟩
    have e := inV_rep rv h1 r h2
    refine hq _ _ B H h3 (Same.refl B) ⟨hc, ?_⟩
    unfold Rep
    rw [e]
    cases neg <;> simp
  cases y with
  | lst l =>
    obtain ⟨a, xs, hu, e1, e2⟩ := ry
    exact .inr (seq hu (.inl (.of e1)) e2 (by cases x <;> exact hf))
  | tup l =>
    obtain ⟨a, xs, hu, e1, e2⟩ := ry
    exact .inr (seq hu (.inr (sameT hc.same e1)) e2 (by cases x <;> exact hf))
  | str t =>
    cases x with
    | str s =>
      obtain ⟨ch, rfl, h2⟩ := one1_ok hf
      exact .inl ⟨ch, S t, rx, ry, hq _ _ B H h2 (Same.refl B) ⟨hc, by unfold Rep; rfl⟩⟩
    | _ => exact hf.elim
  | _ => cases x <;> exact hf.elim

/-! ### is None -/
def isN : Dt → Bool
  | .non => true
  | _ => false
def fIsN (neg : Bool) : OpF := fun x y k => match y with
  | .non => k (.dat (.bl (isN x != neg)))
  | _ => False
theorem non_iff {B H : Hp} {x : Dt} {v : V} (r : RepH K B H x v) : decide (v = .non) = isN x := by
  cases x with
  | non =>
    have e : v = .non := r
    subst e
    rfl
  | bl b =>
    have e : v = .bl b := r
    subst e
    rfl
  | int b =>
    have e : v = .int b := r
    subst e
    rfl
  | str b =>
    have e : v = .str (S b) := r
    subst e
    rfl
  | tup l => obtain ⟨a, xs, rfl, _⟩ := r; rfl
  | lst l => obtain ⟨a, xs, rfl, _⟩ := r; rfl
  | frz l => obtain ⟨a, xs, rfl, _⟩ := r; rfl
theorem opd_isN : OpD K PL (fun x y H Q => y = .non ∧ Q (.bl (decide (x = .non))) H) (fIsN false) := by
  intro G B c σ H x y v u k Q hc rx ry hf hq
  cases y with
  | non => exact ⟨ry, hq _ _ B H hf (Same.refl B) ⟨hc, by unfold Rep; rw [non_iff rx, Bool.bne_false]⟩⟩
  | _ => exact hf.elim
theorem opd_notN : OpD K PL (fun x y H Q => y = .non ∧ Q (.bl (!decide (x = .non))) H) (fIsN true) := by
  intro G B c σ H x y v u k Q hc rx ry hf hq
  cases y with
  | non => exact ⟨ry, hq _ _ B H hf (Same.refl B) ⟨hc, by unfold Rep; rw [non_iff rx, Bool.bne_true]⟩⟩
  | _ => exact hf.elim
end

/-! ### == of plain values of any kinds, and of data -/
section
variable {K : PySem.W.Frag} {PL : PoolP}
def scD : Dt → Dt → Bool
  | .non, .non => true | .non, .int _ => true | .int _, .non => true | .non, .bl _ => true | .bl _, .non => true | .non, .str _ => true | .str _, .non => true
  | .int _, .int _ => true | .bl _, .bl _ => true | .str _, .str _ => true
  | .int _, .str _ => true | .str _, .int _ => true | .bl _, .str _ => true | .str _, .bl _ => true
  | _, _ => false
theorem sc_rep {B H : Hp} {d e : Dt} {v u : V} (h : RepH K B H d v) (h' : RepH K B H e u) (f : scD d e = true) : scal v u = true ∧ decide (v = u) = eqD d e := by
  cases d with
  | non =>
    have q1 : v = .non := h
    subst q1
    cases e with
    | non =>
      have q : u = .non := h'
      subst q
      exact ⟨rfl, by simp [eqD, toPy, PyData.eqv]⟩
    | bl b =>
      have q : u = .bl b := h'
      subst q
      exact ⟨rfl, by simp [eqD, toPy, PyData.eqv]⟩
    | int b =>
      have q : u = .int b := h'
      subst q
      exact ⟨rfl, by simp [eqD, toPy, PyData.eqv]⟩
    | str b =>
      have q : u = .str (S b) := h'
      subst q
      exact ⟨rfl, by simp [eqD, toPy, PyData.eqv]⟩
    | _ => exact absurd (show false = true from f) Bool.false_ne_true
  | bl a =>
    have q1 : v = .bl a := h
    subst q1
    cases e with
    | non =>
      have q : u = .non := h'
      subst q
      exact ⟨rfl, by simp [eqD, toPy, PyData.eqv]⟩
    | bl b =>
      have q : u = .bl b := h'
      subst q
      exact ⟨rfl, by cases a <;> cases b <;> simp [eqD, toPy, PyData.eqv]⟩
    | str b =>
      have q : u = .str (S b) := h'
      subst q
      exact ⟨rfl, by simp [eqD, toPy, PyData.eqv]⟩
    | _ => exact absurd (show false = true from f) Bool.false_ne_true
  | int a =>
    have q1 : v = .int a := h
    subst q1
    cases e with
    | non =>
      have q : u = .non := h'
      subst q
      exact ⟨rfl, by simp [eqD, toPy, PyData.eqv]⟩
    | int b =>
      have q : u = .int b := h'
      subst q
      exact ⟨rfl, by rw [eqD_int]; simp⟩
    | str b =>
      have q : u = .str (S b) := h'
      subst q
      exact ⟨rfl, by simp [eqD, toPy, PyData.eqv]⟩
    | _ => exact absurd (show false = true from f) Bool.false_ne_true
  | str a =>
    have q1 : v = .str (S a) := h
    subst q1
    cases e with
    | non =>
      have q : u = .non := h'
      subst q
      exact ⟨rfl, by simp [eqD, toPy, PyData.eqv]⟩
    | bl b =>
      have q : u = .bl b := h'
      subst q
      exact ⟨rfl, by simp [eqD, toPy, PyData.eqv]⟩
    | int b =>
      have q : u = .int b := h'
      subst q
      exact ⟨rfl, by simp [eqD, toPy, PyData.eqv]⟩
    | str b =>
      have q : u = .str (S b) := h'
      subst q
      refine ⟨rfl, ?_⟩
      rw [eqD_str]
      by_cases e : a = b
      · subst e
        simp
      · have : ¬ V.str (S a) = V.str (S b) := fun z => e (S_inj (V.str.inj z))
        rw [decide_eq_false this, decide_eq_false e]
    | _ => exact absurd (show false = true from f) Bool.false_ne_true
  | _ => cases e <;> exact absurd (show false = true from f) Bool.false_ne_true
def okEq (x y : Dt) : Bool := scD x y || (shp x && shp y)
def fEq : OpF := fun x y k => okEq x y = true ∧ k (.dat (.bl (eqD x y)))
def fNe : OpF := fun x y k => okEq x y = true ∧ k (.dat (.bl (!eqD x y)))
theorem opr_eq {X : Cx} (hu : X.A.units + 64 < cLine) : OpR X (compareOp .Eq) (fun x y H Q => L2.rEq x y H Q ∨ rEqD X.K x y H Q) := OpR.or op_eq (op_eqD hu)
theorem opr_ne {X : Cx} (hu : X.A.units + 64 < cLine) : OpR X (compareOp .NotEq) (fun x y H Q => L2.rNe x y H Q ∨ rNeD X.K x y H Q) := OpR.or op_ne (op_neD hu)
theorem opd_eq : OpD K PL (fun x y H Q => L2.rEq x y H Q ∨ rEqD K x y H Q) fEq := by
  intro G B c σ H x y v u k Q hc rx ry hf hq
  obtain ⟨h1, h3⟩ := hf
  unfold okEq at h1
  rw [Bool.or_eq_true, Bool.and_eq_true] at h1
  rcases h1 with h1 | ⟨h1, h2⟩
  · obtain ⟨g1, g2⟩ := sc_rep rx ry h1
    exact .inl ⟨g1, hq _ _ B H h3 (Same.refl B) ⟨hc, by unfold Rep; rw [g2]⟩⟩
  · exact .inr ⟨_, _, rx.dp hc.same, ry.dp hc.same, h1, h2, hq _ _ B H h3 (Same.refl B) ⟨hc, by unfold Rep; rfl⟩⟩
theorem opd_ne : OpD K PL (fun x y H Q => L2.rNe x y H Q ∨ rNeD K x y H Q) fNe := by
  intro G B c σ H x y v u k Q hc rx ry hf hq
  obtain ⟨h1, h3⟩ := hf
  unfold okEq at h1
  rw [Bool.or_eq_true, Bool.and_eq_true] at h1
  rcases h1 with h1 | ⟨h1, h2⟩
  · obtain ⟨g1, g2⟩ := sc_rep rx ry h1
    exact .inl ⟨g1, hq _ _ B H h3 (Same.refl B) ⟨hc, by unfold Rep; rw [g2]⟩⟩
  · exact .inr ⟨_, _, rx.dp hc.same, ry.dp hc.same, h1, h2, hq _ _ B H h3 (Same.refl B) ⟨hc, by unfold Rep; rfl⟩⟩
end

/-! ### unary -/
section
variable {X : Cx} {PL : PoolP}
abbrev UnF := Dt → (Res → Prop) → Prop
def UnD (K : PySem.W.Frag) (PL : PoolP) (r : V → Hp → VK → Prop) (f : UnF) : Prop := ∀ G B c σ H x v k (Q : VK), Conc K PL G B c σ H → RepH K B H x v → f x k →
  (∀ z w B' H', k z → Same B B' → CR K PL G B' c σ H' z w → Q w H') → r v H Q
def on1 (r : Res) (c : CEnv) (f : Dt → Prop) : Prop := match vw r c with
  | none => False
  | some x => f x
theorem on1_ok {K : PySem.W.Frag} {G : Ent} {B : Hp} {c : CEnv} {σ : L2.St} {H : Hp} {r : Res} {v : V} {f : Dt → Prop} (hc : Conc K PL G B c σ H) (h1 : Held K B σ r v) (h : on1 r c f) : ∃ x, RepH K B H x v ∧ f x := by
  unfold on1 at h
  cases q1 : vw r c with
  | none => simp only [q1] at h
  | some x =>
    simp only [q1] at h
    exact ⟨x, vw_ok hc h1 q1, h⟩
def dUn (f : UnF) (da : DE) : DE := fun c Q => da c fun r c1 => on1 (hd r) c1 fun x => f x fun z => Q z c1
theorem qe_un {a : Expr} {op : UnaryOp} {pos : Pos} {r : V → Hp → VK → Prop} {f : UnF} {da : DE} (ho : UnR X (unaryOp op) r) (hd' : UnD X.K PL r f) (ha : QE X PL a da) : QE X PL (.UnaryOp op a pos) (dUn f da) := by
  refine q_of (pe_un ho ha.pe) fun G B c σ H Qd Q hc hd2 hq => ?_
  refine ⟨G, B, c, _, hc, hd2, fun r1 c1 B1 H1 v h1 e1 cr1 => ?_⟩
  obtain ⟨B2, e2, hc2, hh⟩ := cr1.hold
  obtain ⟨x, rx, hf⟩ := on1_ok hc2 hh h1
  exact hd' G B2 c1 σ H1 x v _ Q hc2 rx hf fun z w B' H' hk e' cr => hq z c1 B' H' w hk ((e1.trans e2).trans e') cr
def fNeg : UnF
  | .int i, k => k (.dat (.int (-i)))
  | _, _ => False
theorem und_neg {K : PySem.W.Frag} : UnD K PL (rU fun i => .int (-i)) fNeg := by
  intro G B c σ H x v k Q hc rx hf hq
  cases x with
  | int i => exact ⟨i, rx, hq _ _ B H hf (Same.refl B) ⟨hc, by unfold Rep; rfl⟩⟩
  | _ => exact hf.elim

/-! ### tests -/
/-- truth of data -/
def truD : Dt → Option Bool
  | .non => some false
  | .bl b => some b
  | .int i => some (i != 0)
  | .str s => if s.length ≤ 10000000 then some (!s.isEmpty) else none
  | .lst l => some (!l.isEmpty)
  | .tup l => some (!l.isEmpty)
  | .frz l => some (!l.isEmpty)
theorem isEmpty_len {α β : Type} {l : List α} {m : List β} (h : l.length = m.length) : l.isEmpty = m.isEmpty := by
  cases l <;> cases m <;> simp at h ⊢
theorem truD_ok {K : PySem.W.Frag} {B H : Hp} {x : Dt} {v : V} {b : Bool} (e : Same B H) (r : RepH K B H x v) (h : truD x = some b) : TruV K v H b := by
  cases x with
  | non =>
    have e1 : v = .non := r
    subst e1
    exact (Option.some.inj h).symm
  | bl k =>
    have e1 : v = .bl k := r
    subst e1
    exact (Option.some.inj h).symm
  | int k =>
    have e1 : v = .int k := r
    subst e1
    exact (Option.some.inj h).symm
  | str s =>
    have e1 : v = .str (S s) := r
    subst e1
    have h' : (if s.length ≤ 10000000 then some (!s.isEmpty) else none) = some b := h
    by_cases hl : s.length ≤ 10000000
    · rw [if_pos hl] at h'
      have h := h'
      have e2 : (!s.isEmpty) = b := Option.some.inj h
      refine ⟨by rw [S_len]; exact sz7 hl, ?_⟩
      rw [← e2, S_len]
      cases s with
      | nil => rfl
      | cons a t =>
        have : ((a :: t).length : Int) ≠ 0 := by simp; omega
        simp
        omega
    · rw [if_neg hl] at h'
      cases h'
  | lst l =>
    obtain ⟨a, xs, e1, h1, h2⟩ := r
    subst e1
    exact .inl ⟨xs, .of h1, by rw [isEmpty_len h2.length]; exact (Option.some.inj h).symm⟩
  | tup l =>
    obtain ⟨a, xs, e1, h1, h2⟩ := r
    subst e1
    exact .inr (.inl ⟨xs, sameT e h1, by rw [isEmpty_len h2.length]; exact (Option.some.inj h).symm⟩)
  | frz l =>
    obtain ⟨a, xs, e1, h1, h2⟩ := r
    subst e1
    exact .inl ⟨xs, e.seq h1, by rw [isEmpty_len h2.length]; exact (Option.some.inj h).symm⟩
def tru (x : Dt) (k : Bool → Prop) : Prop := match truD x with
  | some b => k b
  | none => False
def dTru (da : DE) : DT := fun c Q => da c fun r c1 => on1 (hd r) c1 fun x => tru x fun b => Q b c1
theorem qt_of {e : Expr} {t : TT} {dt : DT} (h : PT X e t) (hw : ∀ G B c σ H Qd Q, Conc X.K PL G B c σ H → dt c Qd → (∀ b c' B' H', Qd b c' → Same B B' → Conc X.K PL G B' c' σ H' → Q b H') → t σ H Q) : QT X PL e dt :=
  ⟨PT.weak h fun σ H Q ⟨G, B, c, Qd, h1, h2, h3⟩ => hw G B c σ H Qd Q h1 h2 h3⟩
theorem qt_val {e : Expr} {da : DE} (ha : QE X PL e da) (he : ∀ whole, isTrue e X.env whole = (do let v ← whole; standAt e.pos; holding [v] (truthy v)) := by intro _; rfl) : QT X PL e (dTru da) := by
  refine qt_of (pt_truth ha.pe he) fun G B c σ H Qd Q hc hd2 hq => ?_
  refine ⟨G, B, c, _, hc, hd2, fun r1 c1 B1 H1 v h1 e1 cr1 => ?_⟩
  obtain ⟨B2, e2, hc2, hh⟩ := cr1.hold
  obtain ⟨x, rx, hf⟩ := on1_ok hc2 hh h1
  unfold tru at hf
  cases q : truD x with
  | none => simp only [q] at hf
  | some b =>
    simp only [q] at hf
    exact ⟨b, truD_ok hc2.same rx q, hq b c1 B2 H1 hf (e1.trans e2) hc2⟩
def blR (r : Res) (k : Bool → Prop) : Prop := match r with
  | .dat (.bl b) => k b
  | _ => False
/-- a comparison as a test -/
def dBinT (f : OpF) (da db : DE) : DT := fun c Q => da c fun r c1 => db c1 fun s c2 => on2 (hd r) (hd s) c2 fun x y => f x y fun z => blR z fun b => Q b c2
theorem qt_cmp {a b : Expr} {op : CmpOp} {pos : Pos} {r : R2} {f : OpF} {da db : DE} (ho : OpR X (compareOp op) r) (hd' : OpD X.K PL r f) (ha : QE X PL a da) (hb : QE X PL b db) (h1 : behindInMarks op b = false) : QT X PL (.Compare a [op] [b] pos) (dBinT f da db) := by
  refine qt_of (pt_cmpR ho ha.pe hb.pe h1) fun G B c σ H Qd Q hc hd2 hq => ?_
  refine bin_ok (PL := PL) hd' hc (Qd := fun z c2 => blR z fun b => Qd b c2) hd2 fun z c' B' H' w hz e cr => ?_
  cases z with
  | dat d =>
    cases d with
    | bl b =>
      obtain ⟨h2, h3⟩ := cr
      unfold Rep at h3
      exact ⟨b, h3, hq b c' B' H' hz e h2⟩
    | _ => exact hz.elim
  | _ => exact hz.elim
def dAnd (t u : DT) : DT := fun c Q => t c fun b c1 => br b (u c1 Q) (Q false c1)
def dOr (t u : DT) : DT := fun c Q => t c fun b c1 => br b (Q true c1) (u c1 Q)
def dNot (t : DT) : DT := fun c Q => t c fun b c1 => Q (!b) c1
theorem qw_of {e : Expr} {t : TT} {dt : DT} (h : PW X e t) (hw : ∀ G B c σ H Qd Q, Conc X.K PL G B c σ H → dt c Qd → (∀ b c' B' H', Qd b c' → Same B B' → Conc X.K PL G B' c' σ H' → Q b H') → t σ H Q) : QW X PL e dt :=
  ⟨PW.weak h fun σ H Q ⟨G, B, c, Qd, h1, h2, h3⟩ => hw G B c σ H Qd Q h1 h2 h3⟩
theorem QW.t {e : Expr} {dt : DT} (h : QW X PL e dt) : QT X PL e dt := ⟨h.pw.pt⟩
theorem qw_and1 {a : Expr} {pos : Pos} {t : DT} (h : QT X PL a t) : QW X PL (.BoolOp .And [a] pos) t := ⟨pw_and1 h.pt⟩
theorem qw_or1 {a : Expr} {pos : Pos} {t : DT} (h : QT X PL a t) : QW X PL (.BoolOp .Or [a] pos) t := ⟨pw_or1 h.pt⟩
theorem qw_and {a b : Expr} {rest : List Expr} {pos : Pos} {t u : DT} (h : QT X PL a t) (h' : QW X PL (.BoolOp .And (b :: rest) pos) u) : QW X PL (.BoolOp .And (a :: b :: rest) pos) (dAnd t u) := by
  refine qw_of (pw_and h.pt h'.pw) fun G B c σ H Qd Q hc hd2 hq => ?_
  refine ⟨G, B, c, _, hc, hd2, fun b c1 B1 H1 h1 e1 hc1 => ?_⟩
  cases b with
  | true =>
    rw [if_pos rfl]
    exact ⟨G, B1, c1, _, hc1, h1, fun b' c2 B2 H2 h2 e2 hc2 => hq b' c2 B2 H2 h2 (e1.trans e2) hc2⟩
  | false =>
    rw [if_neg Bool.false_ne_true]
    exact hq false c1 B1 H1 h1 e1 hc1
theorem qw_or {a b : Expr} {rest : List Expr} {pos : Pos} {t u : DT} (h : QT X PL a t) (h' : QW X PL (.BoolOp .Or (b :: rest) pos) u) : QW X PL (.BoolOp .Or (a :: b :: rest) pos) (dOr t u) := by
  refine qw_of (pw_or h.pt h'.pw) fun G B c σ H Qd Q hc hd2 hq => ?_
  refine ⟨G, B, c, _, hc, hd2, fun b c1 B1 H1 h1 e1 hc1 => ?_⟩
  cases b with
  | true =>
    rw [if_pos rfl]
    exact hq true c1 B1 H1 h1 e1 hc1
  | false =>
    rw [if_neg Bool.false_ne_true]
    exact ⟨G, B1, c1, _, hc1, h1, fun b' c2 B2 H2 h2 e2 hc2 => hq b' c2 B2 H2 h2 (e1.trans e2) hc2⟩
theorem qt_not {a : Expr} {pos : Pos} {t : DT} (h : QT X PL a t) : QT X PL (.UnaryOp .Not a pos) (dNot t) := by
  refine qt_of (pt_not h.pt) fun G B c σ H Qd Q hc hd2 hq => ?_
  exact ⟨G, B, c, _, hc, hd2, fun b c1 B1 H1 h1 e1 hc1 => hq (!b) c1 B1 H1 h1 e1 hc1⟩
/-! as values -/
def blD (r : Res) (k : Bool → Prop) : Prop := match r with
  | .dat (.bl b) => k b
  | _ => False
theorem blD_ok {K : PySem.W.Frag} {G : Ent} {B : Hp} {c : CEnv} {σ : L2.St} {H : Hp} {r : Res} {v : V} {k : Bool → Prop} (cr : CR K PL G B c σ H r v) (h : blD r k) : ∃ b, v = .bl b ∧ k b := by
  cases r with
  | dat d =>
    cases d with
    | bl b =>
      obtain ⟨_, h2⟩ := cr
      unfold Rep at h2
      exact ⟨b, h2, h⟩
    | _ => exact h.elim
  | _ => exact h.elim
def dAndV (da db : DE) : DE := fun c Q => da c fun r c1 => blD r fun b => br b (db c1 Q) (Q (.dat (.bl false)) c1)
def dOrV (da db : DE) : DE := fun c Q => da c fun r c1 => blD r fun b => br b (Q (.dat (.bl true)) c1) (db c1 Q)
def dNotV (da : DE) : DE := fun c Q => da c fun r c1 => blD r fun b => Q (.dat (.bl (!b))) c1
theorem qe_one {op : BoolOp} {a : Expr} {pos : Pos} {da : DE} (h : QE X PL a da) : QE X PL (.BoolOp op [a] pos) da := ⟨pe_one h.pe⟩
theorem qe_and {a b : Expr} {rest : List Expr} {pos : Pos} {da db : DE} (h : QE X PL a da) (h' : QE X PL (.BoolOp .And (b :: rest) pos) db) : QE X PL (.BoolOp .And (a :: b :: rest) pos) (dAndV da db) := by
  refine q_of (pe_and h.pe h'.pe) fun G B c σ H Qd Q hc hd2 hq => ?_
  refine ⟨G, B, c, _, hc, hd2, fun r c1 B1 H1 v h1 e1 cr => ?_⟩
  obtain ⟨b, rfl, h2⟩ := blD_ok cr h1
  refine ⟨b, rfl, ?_⟩
  cases b with
  | true =>
    rw [if_pos rfl]
    exact ⟨G, B1, c1, _, cr.conc, h2, fun r' c2 B2 H2 v' h3 e2 cr2 => hq r' c2 B2 H2 v' h3 (e1.trans e2) cr2⟩
  | false =>
    rw [if_neg Bool.false_ne_true]
    exact hq _ c1 B1 H1 _ h2 e1 ⟨cr.conc, by unfold Rep; rfl⟩
theorem qe_or {a b : Expr} {rest : List Expr} {pos : Pos} {da db : DE} (h : QE X PL a da) (h' : QE X PL (.BoolOp .Or (b :: rest) pos) db) : QE X PL (.BoolOp .Or (a :: b :: rest) pos) (dOrV da db) := by
  refine q_of (pe_or h.pe h'.pe) fun G B c σ H Qd Q hc hd2 hq => ?_
  refine ⟨G, B, c, _, hc, hd2, fun r c1 B1 H1 v h1 e1 cr => ?_⟩
  obtain ⟨b, rfl, h2⟩ := blD_ok cr h1
  refine ⟨b, rfl, ?_⟩
  cases b with
  | true =>
    rw [if_pos rfl]
    exact hq _ c1 B1 H1 _ h2 e1 ⟨cr.conc, by unfold Rep; rfl⟩
  | false =>
    rw [if_neg Bool.false_ne_true]
    exact ⟨G, B1, c1, _, cr.conc, h2, fun r' c2 B2 H2 v' h3 e2 cr2 => hq r' c2 B2 H2 v' h3 (e1.trans e2) cr2⟩
theorem qe_not {a : Expr} {pos : Pos} {da : DE} (h : QE X PL a da) : QE X PL (.UnaryOp .Not a pos) (dNotV da) := by
  refine q_of (pe_not h.pe) fun G B c σ H Qd Q hc hd2 hq => ?_
  refine ⟨G, B, c, _, hc, hd2, fun r c1 B1 H1 v h1 e1 cr => ?_⟩
  obtain ⟨b, rfl, h2⟩ := blD_ok cr h1
  exact ⟨b, rfl, hq _ c1 B1 H1 _ h2 e1 ⟨cr.conc, by unfold Rep; rfl⟩⟩
def dIfE (t : DT) (da db : DE) : DE := fun c Q => t c fun b c1 => br b (da c1 Q) (db c1 Q)
theorem qe_if {t a b : Expr} {pos : Pos} {dt : DT} {da db : DE} (ht : QT X PL t dt) (h : QE X PL a da) (h' : QE X PL b db) : QE X PL (.IfExp t a b pos) (dIfE dt da db) := by
  refine q_of (pe_ifExp ht.pt h.pe h'.pe) fun G B c σ H Qd Q hc hd2 hq => ?_
  refine ⟨G, B, c, _, hc, hd2, fun b c1 B1 H1 h1 e1 hc1 => ?_⟩
  cases b with
  | true =>
    rw [if_pos rfl]
    exact ⟨G, B1, c1, _, hc1, h1, fun r' c2 B2 H2 v' h3 e2 cr2 => hq r' c2 B2 H2 v' h3 (e1.trans e2) cr2⟩
  | false =>
    rw [if_neg Bool.false_ne_true]
    exact ⟨G, B1, c1, _, hc1, h1, fun r' c2 B2 H2 v' h3 e2 cr2 => hq r' c2 B2 H2 v' h3 (e1.trans e2) cr2⟩
end
end Cl

namespace Cl
open PySem PySem.Spec PyProof.Rows L2

section
variable {X : Cx} {PL : PoolP}
/-! ### arguments, each as it is -/
def aNil : DA := fun c Q => Q [] c
def aCons (de : DE) (da : DA) : DA := fun c Q => de c fun r c1 => da c1 fun rs c2 => Q (hd r :: rs) c2
theorem qa_of {es : List Expr} {t : TA} {da : DA} (h : PA X es t) (hw : ∀ G B c σ H Qd Q, Conc X.K PL G B c σ H → da c Qd → (∀ rs c' B' H' vs, Qd rs c' → Same B B' → Conc X.K PL G B' c' σ H' → HeldL X.K B' σ rs vs → Q vs H') → t σ H Q) : QA X PL es da :=
  ⟨PA.weak h fun σ H Q ⟨G, B, c, Qd, h1, h2, h3⟩ => hw G B c σ H Qd Q h1 h2 h3⟩
theorem qa_nil : QA X PL [] aNil := by
  refine qa_of pa_nil fun G B c σ H Qd Q hc hd2 hq => ?_
  exact hq [] c B H [] hd2 (Same.refl B) hc rfl
theorem qa_cons {e : Expr} {es : List Expr} {de : DE} {da : DA} (h : QE X PL e de) (h' : QA X PL es da) (hs : starEach (e :: es) X.env = (false, eval e X.env) :: starEach es X.env := by rfl) : QA X PL (e :: es) (aCons de da) := by
  refine qa_of (pa_cons h.pe h'.pa hs) fun G B c σ H Qd Q hc hd2 hq => ?_
  refine ⟨G, B, c, _, hc, hd2, fun r c1 B1 H1 v h1 e1 cr => ?_⟩
  obtain ⟨B2, e2, hc2, hh⟩ := cr.hold
  refine ⟨G, B2, c1, _, hc2, h1, fun rs c2 B3 H2 vs h3 e3 hc3 hl => ?_⟩
  exact hq _ c2 B3 H2 _ h3 ((e1.trans e2).trans e3) hc3 ⟨v, vs, rfl, hh.mono e3, hl⟩
/-! ### arguments made plain data -/
abbrev DL := CEnv → (List Dt → CEnv → Prop) → Prop
def lL (K : PySem.W.Frag) (PL : PoolP) (da : DL) : TA := fun σ H Q => ∃ G B c Qd, Conc K PL G B c σ H ∧ da c Qd ∧ ∀ ds c' B' H' vs, Qd ds c' → Same B B' → Conc K PL G B' c' σ H' → RepL K B' ds vs → Q vs H'
structure QL (X : Cx) (PL : PoolP) (es : List Expr) (da : DL) : Prop where
  pa : PA X es (lL X.K PL da)
def lNil : DL := fun c Q => Q [] c
def lCons (de : DE) (da : DL) : DL := fun c Q => de c fun r c1 => asD r c1 fun d c2 => da c2 fun ds c3 => Q (d :: ds) c3
theorem ql_of {es : List Expr} {t : TA} {da : DL} (h : PA X es t) (hw : ∀ G B c σ H Qd Q, Conc X.K PL G B c σ H → da c Qd → (∀ rs c' B' H' vs, Qd rs c' → Same B B' → Conc X.K PL G B' c' σ H' → RepL X.K B' rs vs → Q vs H') → t σ H Q) : QL X PL es da :=
  ⟨PA.weak h fun σ H Q ⟨G, B, c, Qd, h1, h2, h3⟩ => hw G B c σ H Qd Q h1 h2 h3⟩
theorem ql_nil : QL X PL [] lNil := by
  refine ql_of pa_nil fun G B c σ H Qd Q hc hd2 hq => ?_
  exact hq [] c B H [] hd2 (Same.refl B) hc .nil
theorem ql_cons {e : Expr} {es : List Expr} {de : DE} {da : DL} (h : QE X PL e de) (h' : QL X PL es da) (hs : starEach (e :: es) X.env = (false, eval e X.env) :: starEach es X.env := by rfl) : QL X PL (e :: es) (lCons de da) := by
  refine ql_of (pa_cons h.pe h'.pa hs) fun G B c σ H Qd Q hc hd2 hq => ?_
  refine ⟨G, B, c, _, hc, hd2, fun r c1 B1 H1 v h1 e1 cr => ?_⟩
  obtain ⟨B2, c2, d, e2, hc2, rd, h2⟩ := asD_ok cr h1
  refine ⟨G, B2, c2, _, hc2, h2, fun rs c3 B3 H2 vs h3 e3 hc3 hl => ?_⟩
  exact hq _ c3 B3 H2 _ h3 ((e1.trans e2).trans e3) hc3 (.cons (rd.mono e3) hl)

/-! ### displays -/
def dTup (da : DL) : DE := fun c Q => da c fun ds c1 => ds.length ≤ 10000000 ∧ Q (.dat (.tup ds)) c1
def dLst (da : DL) : DE := fun c Q => da c fun ds c1 => ds.length ≤ 10000000 ∧ Q (.new (.lst ds)) c1
theorem qe_tup {es : List Expr} {x1 : Nat} {pos : Pos} {da : DL} (h : QL X PL es da) : QE X PL (.Tuple es x1 pos) (dTup da) := by
  refine q_of (pe_tup h.pa) fun G B c σ H Qd Q hc hd2 hq => ?_
  refine ⟨G, B, c, _, hc, hd2, fun ds c1 B1 H1 vs h1 e1 hc1 rl => ?_⟩
  obtain ⟨h2, h3⟩ := h1
  refine ⟨by rw [rl.length]; exact sz7 h2, fun p hp => ?_⟩
  obtain ⟨e2, cr⟩ := conc_tup hc1 hp rl
  exact hq _ c1 _ _ _ h3 (e1.trans e2) cr
theorem qe_lst {es : List Expr} {pos : Pos} {da : DL} (h : QL X PL es da) : QE X PL (.List es pos) (dLst da) := by
  refine q_of (pe_lst h.pa) fun G B c σ H Qd Q hc hd2 hq => ?_
  refine ⟨G, B, c, _, hc, hd2, fun ds c1 B1 H1 vs h1 e1 hc1 rl => ?_⟩
  obtain ⟨h2, h3⟩ := h1
  exact ⟨by rw [rl.length]; exact sz7 h2, fun p hp => hq _ c1 _ _ _ h3 e1 (conc_lst hc1 hp rl)⟩

/-! ### calls of built-ins -/
abbrev CallF := List Dt → (Res → Prop) → Prop
def RepHs (K : PySem.W.Frag) (B H : Hp) : List Dt → List V → Prop
  | [], vs => vs = []
  | d :: ds, vs => ∃ v ws, vs = v :: ws ∧ RepH K B H d v ∧ RepHs K B H ds ws
def CallD (K : PySem.W.Frag) (PL : PoolP) (r : List V → Hp → VK → Prop) (f : CallF) : Prop := ∀ G B c σ H xs vs k (Q : VK), Conc K PL G B c σ H → RepHs K B H xs vs → f xs k →
  (∀ z w B' H', k z → Same B B' → CR K PL G B' c σ H' z w → Q w H') → r vs H Q
def vws : List Res → CEnv → (List Dt → Prop) → Prop
  | [], _, k => k []
  | r :: rs, c, k => on1 r c fun x => vws rs c fun xs => k (x :: xs)
theorem vws_ok {K : PySem.W.Frag} {G : Ent} {B : Hp} {c : CEnv} {σ : L2.St} {H : Hp} (hc : Conc K PL G B c σ H) : ∀ {rs : List Res} {vs : List V} {k : List Dt → Prop}, HeldL K B σ rs vs → vws rs c k → ∃ xs, RepHs K B H xs vs ∧ k xs
  | [], vs, k, h, hk => ⟨[], h, hk⟩
  | r :: rs, vs, k, h, hk => by
    obtain ⟨v, ws, h1, h2, h3⟩ := h
    obtain ⟨x, rx, hf⟩ := on1_ok hc h2 hk
    obtain ⟨xs, rxs, hf2⟩ := vws_ok hc h3 hf
    exact ⟨x :: xs, ⟨v, ws, h1, rx, rxs⟩, hf2⟩
def dCB (f : CallF) (da : DA) : DE := fun c Q => da c fun rs c1 => vws rs c1 fun xs => f xs fun z => Q z c1
theorem cb_ok {r : List V → Hp → VK → Prop} {f : CallF} (hf : CallD X.K PL r f) {da : DA} {G : Ent} {B : Hp} {c : CEnv} {σ : L2.St} {H : Hp} {Qd : Res → CEnv → Prop} {Q : VK} (hc : Conc X.K PL G B c σ H) (hd2 : dCB f da c Qd)
    (hq : ∀ r c' B' H' v, Qd r c' → Same B B' → CR X.K PL G B' c' σ H' r v → Q v H') : tCB r (lA X.K PL da) σ H Q := by
  refine ⟨G, B, c, _, hc, hd2, fun rs c1 B1 H1 vs h1 e1 hc1 hl => ?_⟩
  obtain ⟨xs, rx, h2⟩ := vws_ok hc1 hl h1
  exact hf G B1 c1 σ H1 xs vs _ Q hc1 rx h2 fun z w B' H' hk e' cr => hq z c1 B' H' w hk (e1.trans e') cr
theorem qe_cb {x : Str} {p pos : Pos} {e : Expr} {es : List Expr} {id : String} {r : List V → Hp → VK → Prop} {f : CallF} {da : DA} (hc : CallR X (.builtin id) r) (hf : CallD X.K PL r f) (hg : Gl X x) (hm : X.mg x = none) (hv : bootBuiltins x = some (.builtin id)) (ha : QA X PL (e :: es) da)
    (hn : x ≠ "__name__" := by decide) (hdb : (x == ("__debug__" : Str)) = false := by decide) (he : starEach (e :: es) X.env = (false, eval e X.env) :: starEach es X.env := by rfl) (hpl : (backTo pos (starEach es X.env)).any (·.1) = false := by rfl) :
    QE X PL (.Call (.Name x p) (e :: es) [] pos) (dCB f da) :=
  q_of (pe_callB hc hg hm hv ha.pa hn hdb he hpl) fun _ _ _ _ _ _ _ hc hd2 hq => cb_ok hf hc hd2 hq
theorem qe_cty {x : Str} {p pos : Pos} {e : Expr} {es : List Expr} {T : String} {r : List V → Hp → VK → Prop} {f : CallF} {da : DA} (hc : CallR X (.type T) r) (hf : CallD X.K PL r f) (hg : Gl X x) (hm : X.mg x = none) (hv : bootBuiltins x = some (.type T)) (ha : QA X PL (e :: es) da)
    (hn : x ≠ "__name__" := by decide) (hdb : (x == ("__debug__" : Str)) = false := by decide) (he : starEach (e :: es) X.env = (false, eval e X.env) :: starEach es X.env := by rfl) (hpl : (backTo pos (starEach es X.env)).any (·.1) = false := by rfl) :
    QE X PL (.Call (.Name x p) (e :: es) [] pos) (dCB f da) :=
  q_of (pe_callTy hc hg hm hv ha.pa hn hdb he hpl) fun _ _ _ _ _ _ _ hc hd2 hq => cb_ok hf hc hd2 hq
theorem repHs1 {K : PySem.W.Frag} {B H : Hp} {d : Dt} {vs : List V} (h : RepHs K B H [d] vs) : ∃ v, vs = [v] ∧ RepH K B H d v := by
  obtain ⟨v, ws, h1, h2, h3⟩ := h
  have e : ws = [] := h3
  subst e
  exact ⟨v, h1, h2⟩
theorem repHs2 {K : PySem.W.Frag} {B H : Hp} {d e : Dt} {vs : List V} (h : RepHs K B H [d, e] vs) : ∃ v u, vs = [v, u] ∧ RepH K B H d v ∧ RepH K B H e u := by
  obtain ⟨v, ws, h1, h2, h3⟩ := h
  obtain ⟨u, rfl, h4⟩ := repHs1 h3
  exact ⟨v, u, h1, h2, h4⟩
def arg1 (g : Dt → (Res → Prop) → Prop) : CallF := fun xs k => match xs with
  | [x] => g x k
  | _ => False
def arg2 (g : Dt → Dt → (Res → Prop) → Prop) : CallF := fun xs k => match xs with
  | [x, y] => g x y k
  | _ => False
theorem arg1_ok {g : Dt → (Res → Prop) → Prop} {xs : List Dt} {k : Res → Prop} (h : arg1 g xs k) : ∃ x, xs = [x] ∧ g x k := by
  cases xs with
  | nil => exact h.elim
  | cons x r =>
    cases r with
    | nil => exact ⟨x, rfl, h⟩
    | cons y r => exact h.elim
theorem arg2_ok {g : Dt → Dt → (Res → Prop) → Prop} {xs : List Dt} {k : Res → Prop} (h : arg2 g xs k) : ∃ x y, xs = [x, y] ∧ g x y k := by
  cases xs with
  | nil => exact h.elim
  | cons x r =>
    cases r with
    | nil => exact h.elim
    | cons y r =>
      cases r with
      | nil => exact ⟨x, y, rfl, h⟩
      | cons z r => exact h.elim
/-- len -/
def lenD (x : Dt) (k : Res → Prop) : Prop := match x with
  | .lst l => k (.dat (.int l.length))
  | .tup l => k (.dat (.int l.length))
  | .frz l => k (.dat (.int l.length))
  | .str s => s.length ≤ 10000000 ∧ k (.dat (.int s.length))
  | _ => False
def fLen : CallF := arg1 lenD
def rLenA (K : PySem.W.Frag) : List V → Hp → VK → Prop := fun xs H Q => (∃ p ys, xs = [.ref p] ∧ (SqL K H p ys ∨ SqT K H p ys) ∧ Q (.int ys.length) H) ∨ (∃ z, xs = [.str z] ∧ z.length ≤ sizeLine ∧ Q (.int z.length) H)
theorem cr_lenA : CallR X (.builtin "len") (rLenA X.K) := CallR.or call_len_seq call_len_str
theorem cd_len {K : PySem.W.Frag} : CallD K PL (rLenA K) fLen := by
  intro G B c σ H xs vs k Q hc rx hf hq
  obtain ⟨x, rfl, hf⟩ := arg1_ok hf
  cases x with
  | lst l =>
    obtain ⟨v, rfl, a, ys, rfl, h1, h2⟩ := repHs1 rx
    exact .inl ⟨a, ys, rfl, .inl (.of h1), hq _ _ B H hf (Same.refl B) ⟨hc, by unfold Rep; rw [h2.length]⟩⟩
  | tup l =>
    obtain ⟨v, rfl, a, ys, rfl, h1, h2⟩ := repHs1 rx
    exact .inl ⟨a, ys, rfl, .inr (sameT hc.same h1), hq _ _ B H hf (Same.refl B) ⟨hc, by unfold Rep; rw [h2.length]⟩⟩
  | frz l =>
    obtain ⟨v, rfl, a, ys, rfl, h1, h2⟩ := repHs1 rx
    exact .inl ⟨a, ys, rfl, .inl (hc.same.seq h1), hq _ _ B H hf (Same.refl B) ⟨hc, by unfold Rep; rw [h2.length]⟩⟩
  | str s =>
    obtain ⟨v, rfl, h1⟩ := repHs1 rx
    have e : v = .str (S s) := h1
    subst e
    exact .inr ⟨S s, rfl, by rw [S_len]; exact sz7 hf.1, hq _ _ B H hf.2 (Same.refl B) ⟨hc, by unfold Rep; rw [S_len]⟩⟩
  | _ => exact hf.elim
/-- int(..), abs, min, max -/
def int1D (x : Dt) (k : Res → Prop) : Prop := match x with
  | .int i => k (.dat (.int i))
  | .bl b => k (.dat (.int (if b then 1 else 0)))
  | _ => False
def fInt1 : CallF := arg1 int1D
theorem cd_int1 {K : PySem.W.Frag} : CallD K PL (fun xs H Q => (∃ i, xs = [.int i] ∧ Q (.int i) H) ∨ ∃ k, xs = [.bl k] ∧ Q (.int (if k then 1 else 0)) H) fInt1 := by
  intro G B c σ H xs vs k Q hc rx hf hq
  obtain ⟨x, rfl, hf⟩ := arg1_ok hf
  cases x with
  | int i =>
    obtain ⟨v, rfl, h1⟩ := repHs1 rx
    have e : v = .int i := h1
    subst e
    exact .inl ⟨i, rfl, hq _ _ B H hf (Same.refl B) ⟨hc, by unfold Rep; rfl⟩⟩
  | bl b =>
    obtain ⟨v, rfl, h1⟩ := repHs1 rx
    have e : v = .bl b := h1
    subst e
    exact .inr ⟨b, rfl, hq _ _ B H hf (Same.refl B) ⟨hc, by unfold Rep; rfl⟩⟩
  | _ => exact hf.elim
def absD (x : Dt) (k : Res → Prop) : Prop := match x with
  | .int i => k (.dat (.int (if i < 0 then -i else i)))
  | _ => False
def fAbs : CallF := arg1 absD
theorem cd_abs {K : PySem.W.Frag} : CallD K PL (fun xs H Q => ∃ i, xs = [.int i] ∧ Q (.int (if i < 0 then -i else i)) H) fAbs := by
  intro G B c σ H xs vs k Q hc rx hf hq
  obtain ⟨x, rfl, hf⟩ := arg1_ok hf
  cases x with
  | int i =>
    obtain ⟨v, rfl, h1⟩ := repHs1 rx
    have e : v = .int i := h1
    subst e
    exact ⟨i, rfl, hq _ _ B H hf (Same.refl B) ⟨hc, by unfold Rep; rfl⟩⟩
  | _ => exact hf.elim
def fMin2 : CallF := arg2 (fI (fun _ _ => True) fun i j => .int (min i j))
theorem fI_ok {C : Int → Int → Prop} {g : Int → Int → Dt} {x y : Dt} {k : Res → Prop} (h : fI C g x y k) : ∃ i j, x = .int i ∧ y = .int j ∧ C i j ∧ k (.dat (g i j)) := by
  cases x with
  | int i =>
    cases y with
    | int j => exact ⟨i, j, rfl, rfl, h.1, h.2⟩
    | _ => exact h.elim
  | _ => exact h.elim
theorem cd_min2 {K : PySem.W.Frag} : CallD K PL (fun xs H Q => ∃ i j, xs = [.int i, .int j] ∧ Q (.int (if j < i then j else i)) H) fMin2 := by
  intro G B c σ H xs vs k Q hc rx hf hq
  obtain ⟨x, y, rfl, hf⟩ := arg2_ok hf
  obtain ⟨i, j, rfl, rfl, _, hf⟩ := fI_ok hf
  obtain ⟨v, u, rfl, h1, h2⟩ := repHs2 rx
  have e : v = .int i := h1
  have e2 : u = .int j := h2
  subst e e2
  refine ⟨i, j, rfl, hq _ _ B H hf (Same.refl B) ⟨hc, ?_⟩⟩
  unfold Rep
  have : (if j < i then j else i) = min i j := by split <;> omega
  rw [this]
def fMax2 : CallF := arg2 (fI (fun _ _ => True) fun i j => .int (max i j))
theorem cd_max2 {K : PySem.W.Frag} : CallD K PL (fun xs H Q => ∃ i j, xs = [.int i, .int j] ∧ Q (.int (if j > i then j else i)) H) fMax2 := by
  intro G B c σ H xs vs k Q hc rx hf hq
  obtain ⟨x, y, rfl, hf⟩ := arg2_ok hf
  obtain ⟨i, j, rfl, rfl, _, hf⟩ := fI_ok hf
  obtain ⟨v, u, rfl, h1, h2⟩ := repHs2 rx
  have e : v = .int i := h1
  have e2 : u = .int j := h2
  subst e e2
  refine ⟨i, j, rfl, hq _ _ B H hf (Same.refl B) ⟨hc, ?_⟩⟩
  unfold Rep
  have : (if j > i then j else i) = max i j := by split <;> omega
  rw [this]
/-- tuple(..), list(..) of a list or a tuple -/
def tupleD (x : Dt) (k : Res → Prop) : Prop := match x with
  | .lst l => k (.dat (.tup l))
  | .tup l => k (.dat (.tup l))
  | _ => False
def fTuple : CallF := arg1 tupleD
theorem cd_tuple {K : PySem.W.Frag} : CallD K PL (fun xs H Q => ∃ p ys, xs = [.ref p] ∧ ((SqL K H p ys ∧ ∀ l, H l = none → Q (.ref l) (upd H l (.tup ys))) ∨ (SqT K H p ys ∧ Q (.ref p) H))) fTuple := by
  intro G B c σ H xs vs k Q hc rx hf hq
  obtain ⟨x, rfl, hf⟩ := arg1_ok hf
  cases x with
  | lst l =>
    obtain ⟨v, rfl, a, ys, rfl, h1, h2⟩ := repHs1 rx
    refine ⟨a, ys, rfl, .inl ⟨.of h1, fun p hp => ?_⟩⟩
    obtain ⟨e2, cr⟩ := conc_tup hc hp h2
    exact hq _ _ _ _ hf e2 cr
  | tup l =>
    obtain ⟨v, rfl, a, ys, rfl, h1, h2⟩ := repHs1 rx
    exact ⟨a, ys, rfl, .inr ⟨sameT hc.same h1, hq _ _ B H hf (Same.refl B) ⟨hc, by unfold Rep; exact ⟨a, ys, rfl, h1, h2⟩⟩⟩⟩
  | _ => exact hf.elim
def listD (x : Dt) (k : Res → Prop) : Prop := match x with
  | .lst l => k (.new (.lst l))
  | .tup l => k (.new (.lst l))
  | _ => False
def fList : CallF := arg1 listD
theorem cd_list {K : PySem.W.Frag} : CallD K PL (fun xs H Q => ∃ p ys, xs = [.ref p] ∧ (SqL K H p ys ∨ SqT K H p ys) ∧ ∀ l, H l = none → Q (.ref l) (upd H l (.lst ys))) fList := by
  intro G B c σ H xs vs k Q hc rx hf hq
  obtain ⟨x, rfl, hf⟩ := arg1_ok hf
  cases x with
  | lst l =>
    obtain ⟨v, rfl, a, ys, rfl, h1, h2⟩ := repHs1 rx
    exact ⟨a, ys, rfl, .inl (.of h1), fun p hp => hq _ _ _ _ hf (Same.refl B) (conc_lst hc hp h2)⟩
  | tup l =>
    obtain ⟨v, rfl, a, ys, rfl, h1, h2⟩ := repHs1 rx
    exact ⟨a, ys, rfl, .inr (sameT hc.same h1), fun p hp => hq _ _ _ _ hf (Same.refl B) (conc_lst hc hp h2)⟩
  | _ => exact hf.elim

/-! ### slices -/
def dNoPart : CEnv → (Option Int → CEnv → Prop) → Prop := fun c Q => Q none c
def dPart (de : DE) : CEnv → (Option Int → CEnv → Prop) → Prop := fun c Q => de c fun r c1 => match r with
  | .dat (.int i) => Q (some i) c1
  | _ => False
def lO (K : PySem.W.Frag) (PL : PoolP) (dp : CEnv → (Option Int → CEnv → Prop) → Prop) : TO := fun σ H Q => ∃ G B c Qd, Conc K PL G B c σ H ∧ dp c Qd ∧ ∀ o c' B' H', Qd o c' → Same B B' → Conc K PL G B' c' σ H' → Q o H'
structure QO (X : Cx) (PL : PoolP) (e : Option Expr) (dp : CEnv → (Option Int → CEnv → Prop) → Prop) : Prop where
  po : PO X e (lO X.K PL dp)
theorem PO.weak {e : Option Expr} {t t' : TO} (h : PO X e t) (hw : ∀ σ H Q, t' σ H Q → t σ H Q) : PO X e t' := ⟨fun pins s σ H Q I q => h.run pins s σ H Q I (hw _ _ _ q)⟩
theorem qo_none : QO X PL none dNoPart := ⟨PO.weak po_none fun σ H Q ⟨G, B, c, Qd, h1, h2, h3⟩ => h3 _ _ _ _ h2 (Same.refl B) h1⟩
theorem qo_some {e : Expr} {de : DE} (h : QE X PL e de) : QO X PL (some e) (dPart de) := ⟨PO.weak (po_some h.pe) fun σ H Q ⟨G, B, c, Qd, h1, h2, h3⟩ => by
  refine ⟨G, B, c, _, h1, h2, fun r c1 B1 H1 v hr e1 cr => ?_⟩
  cases r with
  | dat d =>
    cases d with
    | int i =>
      obtain ⟨c2, r2⟩ := cr
      unfold Rep at r2
      exact ⟨i, r2, h3 _ _ _ _ hr e1 c2⟩
    | _ => exact hr.elim
  | _ => exact hr.elim⟩
/-- the piece of a row from lo to hi -/
def cut {α : Type} (l : List α) (lo hi : Option Int) : List α := (l.drop (HT.sIx l.length 0 lo)).take (HT.sIx l.length l.length hi - HT.sIx l.length 0 lo)
theorem cut_rep {K : PySem.W.Frag} {B : Hp} {l : List Dt} {xs : List V} (h : RepL K B l xs) (lo hi : Option Int) : RepL K B (cut l lo hi) (cutV xs lo hi) := by
  unfold cut cutV
  rw [h.length]
  exact (h.drop _).take _
def fSl (x : Dt) (lo hi : Option Int) (k : Res → Prop) : Prop := match x with
  | .lst l => k (.new (.lst (cut l lo hi)))
  | .tup l => ¬ (HT.sIx l.length 0 lo = 0 ∧ HT.sIx l.length l.length hi = l.length) ∧ k (.dat (.tup (cut l lo hi)))
  | .str s => s.length ≤ 10000000 ∧ k (.dat (.str (cut s lo hi)))
  | _ => False
def dSl (da : DE) (dl dh : CEnv → (Option Int → CEnv → Prop) → Prop) : DE := fun c Q => da c fun r c1 => dl c1 fun lo c2 => dh c2 fun hi c3 => on1 (hd r) c3 fun x => fSl x lo hi fun z => Q z c3
theorem qe_sl {e : Expr} {lo hi : Option Expr} {p2 pos : Pos} {da : DE} {dl dh : CEnv → (Option Int → CEnv → Prop) → Prop} (h : QE X PL e da) (h1 : QO X PL lo dl) (h2 : QO X PL hi dh) : QE X PL (.Subscript e (.Slice lo hi none p2) pos) (dSl da dl dh) := by
  refine q_of (pe_slice (SlR.or sl_list (SlR.or sl_tup sl_str)) h.pe h1.po h2.po) fun G B c σ H Qd Q hc hd2 hq => ?_
  refine ⟨G, B, c, _, hc, hd2, fun r c1 B1 H1 v g1 e1 cr => ?_⟩
  obtain ⟨B2, e2, hc2, hh⟩ := cr.hold
  refine ⟨G, B2, c1, _, hc2, g1, fun o1 c2 B3 H2 g2 e3 hc3 => ?_⟩
  refine ⟨G, B3, c2, _, hc3, g2, fun o2 c3 B4 H3 g3 e4 hc4 => ?_⟩
  obtain ⟨x, rx, hf⟩ := on1_ok hc4 (hh.mono (e3.trans e4)) g3
  have ee : Same B B4 := ((e1.trans e2).trans e3).trans e4
  cases x with
  | lst l =>
    obtain ⟨a, xs, rfl, q1, q2⟩ := rx
    exact .inl ⟨a, xs, rfl, .of q1, fun p hp => hq _ _ B4 _ _ hf ee (conc_lst hc4 hp (cut_rep q2 _ _))⟩
  | tup l =>
    obtain ⟨a, xs, rfl, q1, q2⟩ := rx
    obtain ⟨f1, f2⟩ := hf
    refine .inr (.inl ⟨a, xs, rfl, sameT hc4.same q1, by rw [q2.length]; exact f1, fun p hp => ?_⟩)
    obtain ⟨e5, cr5⟩ := conc_tup hc4 hp (cut_rep q2 o1 o2)
    exact hq _ _ _ _ _ f2 (ee.trans e5) cr5
  | str s =>
    have q : v = .str (S s) := rx
    subst q
    obtain ⟨f1, f2⟩ := hf
    refine .inr (.inr ⟨S s, rfl, by rw [S_len]; exact sz7 f1, hq _ _ B4 _ _ f2 ee ⟨hc4, ?_⟩⟩)
    unfold Rep cutS cut
    rw [S_len]
    rfl
  | _ => exact hf.elim

/-! ### statements -/
theorem qs_of {st : Stmt} {t : TS} {ds : DS} (h : PS X st t) (hw : ∀ G B c σ H E D, Conc X.K PL G B c σ H → ds E c → (∀ c' B' σ' H', E.nx c' → Same B B' → Conc X.K PL G B' c' σ' H' → D.nx σ' H') →
  (∀ r c' B' σ' H' v, E.rt r c' → CR X.K PL G B' c' σ' H' r v → D.rt v H') → (∀ c' B' σ' H', E.bk c' → Same B B' → Conc X.K PL G B' c' σ' H' → D.bk σ' H') → (∀ c' B' σ' H', E.ct c' → Same B B' → Conc X.K PL G B' c' σ' H' → D.ct σ' H') → t D σ H) : QS X PL st ds :=
  ⟨PS.weak h fun D σ H ⟨G, B, c, E, h1, h2, h3, h4, h5, h6⟩ => hw G B c σ H E D h1 h2 h3 h4 h5 h6⟩
def dNext : DS := fun E c => E.nx c
def dSeq (s t : DS) : DS := fun E c => s { E with nx := t E } c
theorem qss_nil : QSs X PL [] dNext := ⟨PSs.weak pss_nil fun D σ H ⟨G, B, c, E, h1, h2, h3, h4, h5, h6⟩ => h3 _ _ _ _ h2 (Same.refl B) h1⟩
theorem qss_cons {st : Stmt} {rest : List Stmt} {s t : DS} (h : QS X PL st s) (h' : QSs X PL rest t) : QSs X PL (st :: rest) (dSeq s t) :=
  ⟨PSs.weak (pss_cons h.ps h'.pss) fun D σ H ⟨G, B, c, E, h1, h2, h3, h4, h5, h6⟩ => ⟨G, B, c, { E with nx := t E }, h1, h2, fun c' B' σ' H' q e hc' => ⟨G, B', c', E, hc', q, fun c2 B2 σ2 H2 q2 e2 => h3 c2 B2 σ2 H2 q2 (e.trans e2), h4, fun c2 B2 σ2 H2 q2 e2 => h5 c2 B2 σ2 H2 q2 (e.trans e2), fun c2 B2 σ2 H2 q2 e2 => h6 c2 B2 σ2 H2 q2 (e.trans e2)⟩, h4, h5, h6⟩⟩
theorem qss_one {st : Stmt} {s : DS} (h : QS X PL st s) : QSs X PL [st] s := ⟨pss_one h.ps⟩
def dBreak : DS := fun E c => E.bk c
def dCont : DS := fun E c => E.ct c
theorem qs_pass {pos : Pos} : QS X PL (.Pass pos) dNext := qs_of ps_pass fun G B c σ H E D h1 h2 h3 h4 h5 h6 => h3 _ _ _ _ h2 (Same.refl B) h1
theorem qs_break {pos : Pos} : QS X PL (.Break pos) dBreak := qs_of ps_break fun G B c σ H E D h1 h2 h3 h4 h5 h6 => h5 _ _ _ _ h2 (Same.refl B) h1
theorem qs_cont {pos : Pos} : QS X PL (.Continue pos) dCont := qs_of ps_continue fun G B c σ H E D h1 h2 h3 h4 h5 h6 => h6 _ _ _ _ h2 (Same.refl B) h1
def dDrop (de : DE) : DS := fun E c => de c fun _ c1 => E.nx c1
theorem qs_expr {e : Expr} {pos : Pos} {de : DE} (h : QE X PL e de) (hs : swapsWith e none pos.line X.env = pure false := by rfl) : QS X PL (.Expr e pos) (dDrop de) := by
  refine qs_of (ps_expr h.pe hs) fun G B c σ H E D h1 h2 h3 h4 h5 h6 => ?_
  exact ⟨G, B, c, _, h1, h2, fun r c1 B1 H1 v q e1 cr => h3 _ _ _ _ q e1 cr.conc⟩
/-- what a def hands back: an own object goes out of its hands -/
def toRet (r : Res) (c : CEnv) (k : Res → CEnv → Prop) : Prop := match r with
  | .dat d => k (.dat d) c
  | .new o => k (.new o) c
  | .sl i => match gt c i with
    | .dat d => k (.dat d) c
    | .own o => k (.sl i) c
    | _ => False
def dRet (de : DE) : DS := fun E c => de c fun r c1 => toRet r c1 E.rt
theorem qs_ret {e : Expr} {pos : Pos} {de : DE} (h : QE X PL e de) : QS X PL (.Return (some e) pos) (dRet de) := by
  refine qs_of (ps_ret h.pe) fun G B c σ H E D h1 h2 h3 h4 h5 h6 => ?_
  refine ⟨G, B, c, _, h1, h2, fun r c1 B1 H1 v q e1 cr => ?_⟩
  cases r with
  | dat d => exact h4 _ _ _ _ _ _ q cr
  | new o => exact h4 _ _ _ _ _ _ q cr
  | sl i =>
    unfold toRet at q
    cases g : gt c1 i with
    | dat d =>
      simp only [g] at q
      obtain ⟨v', q1, q2⟩ := cr.1.getDat g
      have e := cr.2
      rw [q1] at e
      cases e
      exact h4 _ _ _ _ _ _ q ⟨cr.1, q2⟩
    | own o =>
      simp only [g] at q
      exact h4 _ _ _ _ _ _ q cr
    | no => simp only [g] at q
    | arg o => simp only [g] at q
def dRetN : DS := fun E c => E.rt (.dat .non) c
theorem qs_retN {pos : Pos} : QS X PL (.Return none pos) dRetN := by
  refine qs_of ps_retN fun G B c σ H E D h1 h2 h3 h4 h5 h6 => ?_
  exact h4 _ _ _ _ _ _ h2 ⟨h1, by unfold Rep; rfl⟩
def dIf (t : DT) (a b : DS) : DS := fun E c => t c fun k c1 => br k (a E c1) (b E c1)
theorem qs_if {t : Expr} {a b : List Stmt} {pos : Pos} {dt : DT} {da db : DS} (ht : QT X PL t dt) (ha : QSs X PL a da) (hb : QSs X PL b db) : QS X PL (.If t a b pos) (dIf dt da db) := by
  refine qs_of (ps_if ht.pt ha.pss hb.pss) fun G B c σ H E D h1 h2 h3 h4 h5 h6 => ?_
  refine ⟨G, B, c, _, h1, h2, fun k c1 B1 H1 q e1 hc1 => ?_⟩
  cases k with
  | true =>
    rw [if_pos rfl]
    exact ⟨G, B1, c1, E, hc1, q, fun c2 B2 σ2 H2 q2 e2 => h3 c2 B2 σ2 H2 q2 (e1.trans e2), h4, fun c2 B2 σ2 H2 q2 e2 => h5 c2 B2 σ2 H2 q2 (e1.trans e2), fun c2 B2 σ2 H2 q2 e2 => h6 c2 B2 σ2 H2 q2 (e1.trans e2)⟩
  | false =>
    rw [if_neg Bool.false_ne_true]
    exact ⟨G, B1, c1, E, hc1, q, fun c2 B2 σ2 H2 q2 e2 => h3 c2 B2 σ2 H2 q2 (e1.trans e2), h4, fun c2 B2 σ2 H2 q2 e2 => h5 c2 B2 σ2 H2 q2 (e1.trans e2), fun c2 B2 σ2 H2 q2 e2 => h6 c2 B2 σ2 H2 q2 (e1.trans e2)⟩
/-- a name is given what an expression gave -/
def put (i : Nat) (r : Res) (c : CEnv) (k : CEnv → Prop) : Prop := match r with
  | .dat d => k (c.set i (.dat d))
  | .new o => i < c.length ∧ k (c.set i (.own o))
  | .sl j => match gt c j with
    | .dat d => k (c.set i (.dat d))
    | .own (.lst l) => k ((c.set j (.dat (.lst l))).set i (.dat (.lst l)))
    | _ => False
theorem put_ok {K : PySem.W.Frag} {G : Ent} {B : Hp} {c : CEnv} {σ : L2.St} {H : Hp} {i : Nat} {r : Res} {v : V} {k : CEnv → Prop} (cr : CR K PL G B c σ H r v) (h : put i r c k) : ∃ B' c', k c' ∧ Same B B' ∧ Conc K PL G B' c' (σ.set i (some v)) H := by
  cases r with
  | dat d => exact ⟨B, _, h, Same.refl B, cr.1.setDat cr.2⟩
  | new o => exact ⟨B, _, h.2, Same.refl B, Conc.setNew h.1 cr⟩
  | sl j =>
    unfold put at h
    cases g : gt c j with
    | dat d =>
      simp only [g] at h
      obtain ⟨v', q1, q2⟩ := cr.1.getDat g
      have e := cr.2
      rw [q1] at e
      cases e
      exact ⟨B, _, h, Same.refl B, cr.1.setDat q2⟩
    | own o =>
      cases o with
      | lst l =>
        simp only [g] at h
        obtain ⟨B', e1, e2, e3⟩ := cr.1.freezeAt (gt_get g (by simp)) cr.2
        exact ⟨B', _, h, e1, e2.setDat e3⟩
      | pool => simp only [g] at h
    | no => simp only [g] at h
    | arg o => simp only [g] at h
def dAsg (i : Nat) (de : DE) : DS := fun E c => de c fun r c1 => put i r c1 E.nx
theorem qs_set {i : Nat} {x : Str} {e : Expr} {de : DE} {pos pos' : Pos} (h : QE X PL e de) (hN : X.N.Nodup) (hi : X.N[i]? = some x) (hx : Loc X.env.scope x) (hs : swapsWith e (some (.Name x pos')) pos.line X.env = pure false := by rfl)
    (hf : X.fn x = true ∨ X.env.scope.names.lookup x = some .local := by first | exact .inl rfl | exact .inr rfl | assumption) : QS X PL (.Assign [.Name x pos'] e pos) (dAsg i de) := by
  refine qs_of (ps_set hN hi hx h.pe hs hf) fun G B c σ H E D h1 h2 h3 h4 h5 h6 => ?_
  refine ⟨G, B, c, _, h1, h2, fun r c1 B1 H1 v q e1 cr => ?_⟩
  obtain ⟨B', c', q1, q0, q2⟩ := put_ok cr q
  exact h3 _ _ _ _ q1 (e1.trans q0) q2
/-- x op= e on data -/
def dAug (i : Nat) (f : OpF) (de : DE) : DS := fun E c => match gt c i with
  | .dat x => de c fun r c1 => on1 (hd r) c1 fun y => f x y fun z => put i z c1 E.nx
  | _ => False
theorem qs_aug {i : Nat} {x : Str} {e : Expr} {de : DE} {op : Operator} {ti : TIp} {f : OpF} {pos pos' : Pos} (h : QE X PL e de) (hN : X.N.Nodup) (hi : X.N[i]? = some x) (hx : Loc X.env.scope x) (ho : PIp X op ti) (hf' : OpD X.K PL ti f)
    (hf : X.fn x = true ∨ X.env.scope.names.lookup x = some .local := by first | exact .inl rfl | exact .inr rfl | assumption) : QS X PL (.AugAssign (.Name x pos') op e pos) (dAug i f de) := by
  refine qs_of (ps_aug hN hi hx h.pe ho hf) fun G B c σ H E D h1 h2 h3 h4 h5 h6 => ?_
  unfold dAug at h2
  cases g : gt c i with
  | dat d =>
    simp only [g] at h2
    obtain ⟨v, q1, q2⟩ := h1.getDat g
    refine ⟨v, q1, G, B, c, _, h1, h2, fun r c1 B1 H1 u q e1 cr => ?_⟩
    obtain ⟨B2, e2, hc2, hh⟩ := cr.hold
    obtain ⟨y, ry, hf2⟩ := on1_ok hc2 hh q
    refine hf' G B2 c1 σ H1 d y v u _ _ hc2 ((q2.mono (e1.trans e2)).toH hc2.same) ry hf2 fun z w B' H' hk e' cr' => ?_
    obtain ⟨B'', c', p1, p0, p2⟩ := put_ok cr' hk
    exact h3 _ _ _ _ p1 (((e1.trans e2).trans e').trans p0) p2
  | no => simp only [g] at h2
  | own o => simp only [g] at h2
  | arg o => simp only [g] at h2
end
end Cl

namespace Cl
open PySem PySem.Spec PyProof.Rows L2

section
variable {X : Cx} {PL : PoolP}
/-! ### targets -/
abbrev DG := Dt → CEnv → (CEnv → Prop) → Prop
abbrev DGs := List Dt → CEnv → (CEnv → Prop) → Prop
def lG (K : PySem.W.Frag) (PL : PoolP) (g : DG) : TG := fun v σ H Q => ∃ G B c d Qd, Conc K PL G B c σ H ∧ Rep K B d v ∧ g d c Qd ∧ ∀ c' B' σ' H', Qd c' → Same B B' → Conc K PL G B' c' σ' H' → σ'.length = σ.length → Q σ' H'
def lGs (K : PySem.W.Frag) (PL : PoolP) (g : DGs) : TGs := fun vs σ H Q => ∃ G B c ds Qd, Conc K PL G B c σ H ∧ RepL K B ds vs ∧ g ds c Qd ∧ ∀ c' B' σ' H', Qd c' → Same B B' → Conc K PL G B' c' σ' H' → σ'.length = σ.length → Q σ' H'
structure QG (X : Cx) (PL : PoolP) (e : Expr) (g : DG) : Prop where
  pg : PG X e (lG X.K PL g)
structure QGs (X : Cx) (PL : PoolP) (es : List Expr) (g : DGs) : Prop where
  pgs : PGs X es (lGs X.K PL g)
theorem PG.weak {e : Expr} {t t' : TG} (h : PG X e t) (hw : ∀ v σ H Q, t' v σ H Q → t v σ H Q) : PG X e t' := ⟨fun pins s σ H v u Q I r q => h.run pins s σ H v u Q I r (hw _ _ _ _ q)⟩
theorem PGs.weak {e : List Expr} {t t' : TGs} (h : PGs X e t) (hw : ∀ v σ H Q, t' v σ H Q → t v σ H Q) : PGs X e t' := ⟨fun pins s σ H v u Q I r q => h.run pins s σ H v u Q I r (hw _ _ _ _ q)⟩
def gN (i : Nat) : DG := fun d c Q => Q (c.set i (.dat d))
theorem qg_name {i : Nat} {x : Str} {pos : Pos} (hN : X.N.Nodup) (hi : X.N[i]? = some x) (hx : Loc X.env.scope x) (hf : X.fn x = true ∨ X.env.scope.names.lookup x = some .local := by first | exact .inl rfl | exact .inr rfl | assumption) : QG X PL (.Name x pos) (gN i) :=
  ⟨PG.weak (pg_name hN hi hx hf) fun v σ H Q ⟨G, B, c, d, Qd, h1, h2, h3, h4⟩ => h4 _ B _ H h3 (Same.refl B) (h1.setDat h2) (by rw [List.length_set])⟩
def gsNil : DGs := fun ds c Q => ds = [] ∧ Q c
def gsCons (g : DG) (gs : DGs) : DGs := fun ds c Q => match ds with
  | d :: r => g d c fun c1 => gs r c1 Q
  | [] => False
theorem qgs_nil : QGs X PL [] gsNil := ⟨PGs.weak pgs_nil fun vs σ H Q ⟨G, B, c, ds, Qd, h1, h2, h3, h4⟩ => by
  obtain ⟨rfl, h5⟩ := h3
  unfold RepL at h2
  exact ⟨h2, h4 _ _ _ _ h5 (Same.refl B) h1 rfl⟩⟩
theorem qgs_cons {e : Expr} {es : List Expr} {g : DG} {gs : DGs} (h : QG X PL e g) (h' : QGs X PL es gs) (hs : (assignEach (e :: es) X.env).map (·.2) = assign e X.env :: (assignEach es X.env).map (·.2) := by rfl) : QGs X PL (e :: es) (gsCons g gs) :=
  ⟨PGs.weak (pgs_cons h.pg h'.pgs hs) fun vs σ H Q ⟨G, B, c, ds, Qd, h1, h2, h3, h4⟩ => by
    cases ds with
    | nil => exact h3.elim
    | cons d r =>
      unfold RepL at h2
      obtain ⟨x, xs, e1, r1, r2⟩ := h2
      refine ⟨x, xs, e1, G, B, c, d, _, h1, r1, h3, fun c1 B1 σ1 H1 q1 s1 hc1 l1 => ?_⟩
      exact ⟨G, B1, c1, r, _, hc1, r2.mono s1, q1, fun c2 B2 σ2 H2 q2 s2 hc2 l2 => h4 _ _ _ _ q2 (s1.trans s2) hc2 (l2.trans l1)⟩⟩
/-- (a, b, ..) = a tuple -/
def gT (n : Nat) (gs : DGs) : DG := fun d c Q => match d with
  | .tup l => l.length = n ∧ gs l c Q
  | _ => False
theorem qg_tup {es : List Expr} {k : Nat} {gs : DGs} {n : Nat} {pos : Pos} (hc : X.calm = true) (h : QGs X PL es gs) (hn : (assignEach es X.env).length = n := by rfl) (hst : (assignEach es X.env).findIdx? (·.1) = none := by rfl) : QG X PL (.Tuple es k pos) (gT n gs) :=
  ⟨PG.weak (pg_tup hc h.pgs hn hst) fun v σ H Q ⟨G, B, c, d, Qd, h1, h2, h3, h4⟩ => by
    cases d with
    | tup l =>
      unfold Rep at h2
      obtain ⟨a, xs, e1, r1, r2⟩ := h2
      obtain ⟨h5, h6⟩ := h3
      exact ⟨a, xs, e1, sameT h1.same r1, by rw [r2.length]; exact h5, G, B, c, l, _, h1, r2, h6, h4⟩
    | _ => exact h3.elim⟩
/-- target = e, the target a tuple -/
def dAsgG (g : DG) (de : DE) : DS := fun E c => de c fun r c1 => asD r c1 fun d c2 => g d c2 E.nx
theorem qs_asg {tg e : Expr} {de : DE} {g : DG} {pos : Pos} (he : QE X PL e de) (hg : QG X PL tg g) (hs : swapsWithSole [tg] e pos.line X.env = pure false := by rfl) (hw : swappedStores [tg] e X.env = pure none := by rfl)
    (h1 : (assignEach [tg] X.env).map (·.2) = [assign tg X.env] := by rfl) : QS X PL (.Assign [tg] e pos) (dAsgG g de) := by
  refine qs_of (ps_asg he.pe hg.pg hs hw h1) fun G B c σ H E D h1 h2 h3 h4 h5 h6 => ?_
  refine ⟨G, B, c, _, h1, h2, fun r c1 B1 H1 v q e1 cr => ?_⟩
  obtain ⟨B2, c2, d, e2, hc2, rd, q2⟩ := asD_ok cr q
  exact ⟨G, B2, c2, d, _, hc2, rd, q2, fun c3 B3 σ3 H3 q3 e3 hc3 _ => h3 _ _ _ _ q3 ((e1.trans e2).trans e3) hc3⟩
/-- a, b = e1, e2 with names -/
def dPar (i j : Nat) (da : DL) : DS := fun E c => da c fun ds c1 => match ds with
  | [d, e] => E.nx ((c1.set i (.dat d)).set j (.dat e))
  | _ => False
theorem qs_par {i j : Nat} {x y : Str} {a b : Expr} {da : DL} {px py pt pos : Pos} {kt k2 : Nat} {pt2 : Pos} (ha : QL X PL [a, b] da) (hc : X.calm = true) (hN : X.N.Nodup) (hi : X.N[i]? = some x) (hj : X.N[j]? = some y) (hij : i ≠ j)
    (hx : X.env.scope.names.lookup x = some .local) (hy : X.env.scope.names.lookup y = some .local)
    (hw : swappedStores [.Tuple [.Name x px, .Name y py] kt pt] (.Tuple [a, b] k2 pt2) X.env = pure (some [x, y]))
    (hs : swapsWithSole [.Tuple [.Name x px, .Name y py] kt pt] (.Tuple [a, b] k2 pt2) pos.line X.env = pure false := by rfl) :
    QS X PL (.Assign [.Tuple [.Name x px, .Name y py] kt pt] (.Tuple [a, b] k2 pt2) pos) (dPar i j da) := by
  refine qs_of (ps_par hc hN hi hj hij hx hy ha.pa hw hs) fun G B c σ H E D h1 h2 h3 h4 h5 h6 => ?_
  refine ⟨G, B, c, _, h1, h2, fun ds c1 B1 H1 vs q e1 hc1 rl => ?_⟩
  match ds, q, rl with
  | [d, e], q, rl =>
    unfold RepL at rl
    obtain ⟨v, r, rfl, r1, r2⟩ := rl
    unfold RepL at r2
    obtain ⟨w, r, rfl, r2, r3⟩ := r2
    unfold RepL at r3
    subst r3
    exact ⟨v, w, rfl, h3 _ _ _ _ q e1 ((hc1.setDat r1).setDat r2)⟩
  | [], q, _ => exact q.elim
  | [_], q, _ => exact q.elim
  | _ :: _ :: _ :: _, q, _ => exact q.elim

/-! ### what is walked -/
abbrev DI := CEnv → (List Dt → CEnv → Prop) → Prop
structure ItemsOf (K : PySem.W.Frag) (PL : PoolP) (B : Hp) (J : It) (ds : List Dt) : Prop where
  go : ∀ i H, Same B H → i < ds.length → J.go i H
  stop : ∀ H, Same B H → J.stop ds.length H
  yld : ∀ i H x H', i < ds.length → J.yld i H x H' → ∀ G B1 c σ, Same B B1 → Conc K PL G B1 c σ H → ∃ B2 d, ds[i]? = some d ∧ Same B1 B2 ∧ Conc K PL G B2 c σ H' ∧ Rep K B2 d x
def lI (K : PySem.W.Frag) (PL : PoolP) (di : DI) : TI := fun σ H R => ∃ G B c Qd, Conc K PL G B c σ H ∧ di c Qd ∧ ∀ ds c' B' H' J, Qd ds c' → Same B B' → Conc K PL G B' c' σ H' → ItemsOf K PL B' J ds → R J H'
structure QI (X : Cx) (PL : PoolP) (tg iter : Expr) (di : DI) : Prop where
  pi : PI X tg iter (lI X.K PL di)
theorem PI.weak {tg e : Expr} {t t' : TI} (h : PI X tg e t) (hw : ∀ σ H R, t' σ H R → t σ H R) : PI X tg e t' := ⟨fun pins s σ H R I q => h.run pins s σ H R I (hw _ _ _ q)⟩
theorem items_list {K : PySem.W.Frag} {B : Hp} {a : Addr} {xs : List V} {ds : List Dt} (h : SqL K B a xs) (r : RepL K B ds xs) : ItemsOf K PL B (Itl K a) ds where
  go := fun i H e hi => ⟨xs, xs[i]'(by rw [r.length]; exact hi), e.seq h, by simp⟩
  stop := fun H e => ⟨xs, e.seq h, by rw [r.length]; exact Nat.le_refl _⟩
  yld := fun i H x H' hi y G B1 c σ e1 hc => by
    obtain ⟨rfl, y⟩ := y
    obtain ⟨d, e2, e3⟩ := r.getV (y xs ((e1.trans hc.same).seq h))
    exact ⟨B1, d, e2, Same.refl _, hc, e3.mono e1⟩
theorem items_tup {K : PySem.W.Frag} {B : Hp} {a : Addr} {xs : List V} {ds : List Dt} (h : SqT K B a xs) (r : RepL K B ds xs) : ItemsOf K PL B (Itt K a) ds where
  go := fun i H e hi => ⟨xs, xs[i]'(by rw [r.length]; exact hi), sameT e h, by simp⟩
  stop := fun H e => ⟨xs, sameT e h, by rw [r.length]; exact Nat.le_refl _⟩
  yld := fun i H x H' hi y G B1 c σ e1 hc => by
    obtain ⟨rfl, y⟩ := y
    obtain ⟨d, e2, e3⟩ := r.getV (y xs (sameT (e1.trans hc.same) h))
    exact ⟨B1, d, e2, Same.refl _, hc, e3.mono e1⟩
def chs (s : List Nat) : List Dt := s.map fun ch => .str [ch]
theorem items_str {K : PySem.W.Frag} {B : Hp} {s : List Nat} : ItemsOf K PL B (Its (S s)) (chs s) where
  go := fun i H e hi => by
    unfold chs at hi
    rw [List.length_map] at hi
    show i < (S s).cps.size
    simpa [S] using hi
  stop := fun H e => by
    show (S s).cps.size ≤ (chs s).length
    simp [S, chs]
  yld := fun i H x H' hi y G B1 c σ e1 hc => by
    obtain ⟨rfl, ch, h1, h2⟩ := y
    have h3 : s[i]? = some ch := by simpa [S] using h1
    refine ⟨B1, .str [ch], ?_, Same.refl _, hc, ?_⟩
    · unfold chs
      rw [List.getElem?_map, h3]
      rfl
    · rw [h2]
      unfold Rep
      rfl
def rngD (lo : Int) (n : Nat) : List Dt := (List.range n).map fun (k : Nat) => .int (lo + (k : Int))
theorem items_rng {K : PySem.W.Frag} {B : Hp} {lo : Int} {n : Nat} : ItemsOf K PL B (Itr lo n) (rngD lo n) where
  go := fun i H e hi => by
    unfold rngD at hi
    rw [List.length_map, List.length_range] at hi
    exact hi
  stop := fun H e => by
    show n ≤ (rngD lo n).length
    simp [rngD]
  yld := fun i H x H' hi y G B1 c σ e1 hc => by
    obtain ⟨rfl, h2⟩ := y
    unfold rngD at hi
    rw [List.length_map, List.length_range] at hi
    refine ⟨B1, .int (lo + (i : Int)), ?_, Same.refl _, hc, ?_⟩
    · unfold rngD
      rw [List.getElem?_map, List.getElem?_range hi]
      rfl
    · rw [h2]
      unfold Rep
      rfl
def rngC (lo st : Int) (n : Nat) : List Dt := (List.range n).map fun (k : Nat) => .int (lo + (k : Int) * st)
theorem items_rngC {K : PySem.W.Frag} {B : Hp} {lo st : Int} {n : Nat} : ItemsOf K PL B (Itc lo st n) (rngC lo st n) where
  go := fun i H e hi => by
    unfold rngC at hi
    rw [List.length_map, List.length_range] at hi
    exact hi
  stop := fun H e => by
    show n ≤ (rngC lo st n).length
    simp [rngC]
  yld := fun i H x H' hi y G B1 c σ e1 hc => by
    obtain ⟨rfl, h2⟩ := y
    unfold rngC at hi
    rw [List.length_map, List.length_range] at hi
    refine ⟨B1, .int (lo + (i : Int) * st), ?_, Same.refl _, hc, ?_⟩
    · unfold rngC
      rw [List.getElem?_map, List.getElem?_range hi]
      rfl
    · rw [h2]
      unfold Rep
      rfl
/-- anything with items: a list, a tuple, a text -/
theorem pi_any {tg l : Expr} {tl : TE} (hl : PE X l tl) : PI X tg l (fun σ H R => tl σ H fun x H1 => (∃ a xs, x = .ref a ∧ SqL X.K H1 a xs ∧ R (Itl X.K a) H1) ∨ (∃ a xs, x = .ref a ∧ SqT X.K H1 a xs ∧ R (Itt X.K a) H1) ∨ ∃ z, x = .str z ∧ R (Its z) H1) := by
  refine ⟨fun pins s σ H R I hw => thn (hl.run pins s σ H _ I hw) fun v s1 ⟨x, H1, I1, rv, q⟩ => ?_⟩
  rcases q with ⟨a, xs, rfl, hs, q⟩ | ⟨a, xs, rfl, hs, q⟩ | ⟨z, rfl, q⟩
  · obtain ⟨its, _, p, _⟩ := I1.list hs
    cases rv
    exact wpAny_pyIter_list p.isList (pi_one (tk := s1.toks) I1 _ (turn_list a _) ⟨_, Heap.get?_push_size _ rfl, rfl, rfl⟩ q)
  · obtain ⟨its, _, p, _⟩ := I1.tuple hs
    cases rv
    exact wpAny_pyIter_tuple (show s1.heap.IsTuple a its.toArray from p) (pi_one (tk := s1.toks) I1 _ (turn_tuple a _) ⟨_, Heap.get?_push_size _ rfl, rfl, rfl⟩ q)
  · obtain ⟨t, rfl⟩ := rv
    cases g : z.cps.all (· < 128)
    · exact wpAny_pyIter_wide g (pi_one (tk := s1.toks) I1 _ (turn_str _ z t _ (.inr rfl)) ⟨_, Heap.get?_push_size _ rfl, rfl, rfl⟩ q)
    · exact wpAny_pyIter_ascii g (pi_one (tk := s1.toks) I1 _ (turn_str _ z t _ (.inl rfl)) ⟨_, Heap.get?_push_size _ rfl, rfl, rfl⟩ q)
def itemsD (d : Dt) (k : List Dt → Prop) : Prop := match d with
  | .lst l => k l
  | .tup l => k l
  | .frz l => k l
  | .str s => k (chs s)
  | _ => False
def dItems (de : DE) : DI := fun c Q => de c fun r c1 => asD r c1 fun d c2 => itemsD d fun l => Q l c2
theorem qi_of {tg e : Expr} {t : TI} {di : DI} (h : PI X tg e t) (hw : ∀ G B c σ H Qd R, Conc X.K PL G B c σ H → di c Qd → (∀ ds c' B' H' J, Qd ds c' → Same B B' → Conc X.K PL G B' c' σ H' → ItemsOf X.K PL B' J ds → R J H') → t σ H R) : QI X PL tg e di :=
  ⟨PI.weak h fun σ H R ⟨G, B, c, Qd, h1, h2, h3⟩ => hw G B c σ H Qd R h1 h2 h3⟩
theorem qi_any {tg e : Expr} {de : DE} (h : QE X PL e de) : QI X PL tg e (dItems de) := by
  refine qi_of (pi_any h.pe) fun G B c σ H Qd R hc hd2 hq => ?_
  refine ⟨G, B, c, _, hc, hd2, fun r c1 B1 H1 v g1 e1 cr => ?_⟩
  obtain ⟨B2, c2, d, e2, hc2, rd, g2⟩ := asD_ok cr g1
  cases d with
  | lst l =>
    unfold Rep at rd
    obtain ⟨a, xs, rfl, q1, q2⟩ := rd
    exact .inl ⟨a, xs, rfl, .of (hc2.same _ _ q1), hq _ _ B2 _ _ g2 (e1.trans e2) hc2 (items_list (.of q1) q2)⟩
  | tup l =>
    unfold Rep at rd
    obtain ⟨a, xs, rfl, q1, q2⟩ := rd
    exact .inr (.inl ⟨a, xs, rfl, sameT hc2.same q1, hq _ _ B2 _ _ g2 (e1.trans e2) hc2 (items_tup q1 q2)⟩)
  | frz l =>
    unfold Rep at rd
    obtain ⟨a, xs, rfl, q1, q2⟩ := rd
    exact .inl ⟨a, xs, rfl, hc2.same.seq q1, hq _ _ B2 _ _ g2 (e1.trans e2) hc2 (items_list q1 q2)⟩
  | str s =>
    unfold Rep at rd
    subst rd
    exact .inr (.inr ⟨S s, rfl, hq _ _ B2 _ _ g2 (e1.trans e2) hc2 items_str⟩)
  | _ => exact g2.elim
/-- range(n), range(a, b), range(a, b, s) -/
def dRng1 (da : DL) : DI := fun c Q => da c fun ds c1 => match ds with
  | [.int n] => (n ≤ 1000000000 ∧ -1000000000 ≤ n) ∧ Q (rngD 0 n.toNat) c1
  | _ => False
theorem int_of {ds : List Dt} {k : Int → Prop} (h : match ds with
  | [.int n] => k n
  | _ => False) : ∃ n, ds = [.int n] ∧ k n := by
  cases ds with
  | nil => exact h.elim
  | cons d r =>
    cases d with
    | int n =>
      cases r with
      | nil => exact ⟨n, rfl, h⟩
      | cons e r => exact h.elim
    | _ => exact h.elim
theorem qi_rng1 {tg a : Expr} {da : DL} {p pos : Pos} (h : QL X PL [a] da) (hg : Gl X "range") (hm : X.mg "range" = none) (hs : starEach [a] X.env = [(false, eval a X.env)] := by rfl) : QI X PL tg (.Call (.Name "range" p) [a] [] pos) (dRng1 da) := by
  refine qi_of (pi_range1 hg hm h.pa hs) fun G B c σ H Qd R hc hd2 hq => ?_
  refine ⟨G, B, c, _, hc, hd2, fun ds c1 B1 H1 vs g1 e1 hc1 rl => ?_⟩
  obtain ⟨n, rfl, ⟨h1, h2⟩, h3⟩ := int_of (k := fun n => (n ≤ 1000000000 ∧ -1000000000 ≤ n) ∧ Qd (rngD 0 n.toNat) c1) g1
  unfold RepL at rl
  obtain ⟨v, r, rfl, r1, r2⟩ := rl
  unfold RepL at r2
  subst r2
  unfold Rep at r1
  subst r1
  exact ⟨n, rfl, by omega, by omega, hq _ _ B1 _ _ h3 e1 hc1 items_rng⟩
def cints2 (ds : List Dt) (k : Int → Int → Prop) : Prop := match ds with
  | [.int a, .int b] => k a b
  | _ => False
theorem cints2_ok {ds : List Dt} {k : Int → Int → Prop} (h : cints2 ds k) : ∃ a b, ds = [.int a, .int b] ∧ k a b := by
  cases ds with
  | nil => exact h.elim
  | cons d r =>
    cases d with
    | int n =>
      cases r with
      | nil => exact h.elim
      | cons e r =>
        cases e with
        | int m =>
          cases r with
          | nil => exact ⟨n, m, rfl, h⟩
          | cons f r => exact h.elim
        | _ => exact h.elim
    | _ => exact h.elim
def dRng2 (da : DL) : DI := fun c Q => da c fun ds c1 => cints2 ds fun a b => (a ≤ 1000000000 ∧ -1000000000 ≤ a ∧ b ≤ 1000000000 ∧ -1000000000 ≤ b) ∧ Q (rngD a (b - a).toNat) c1
theorem qi_rng2 {tg a b : Expr} {da : DL} {p pos : Pos} (h : QL X PL [a, b] da) (hg : Gl X "range") (hm : X.mg "range" = none) (hs : starEach [a, b] X.env = [(false, eval a X.env), (false, eval b X.env)] := by rfl) (hs2 : starEach [b] X.env = [(false, eval b X.env)] := by rfl) :
    QI X PL tg (.Call (.Name "range" p) [a, b] [] pos) (dRng2 da) := by
  refine qi_of (pi_range2 hg hm h.pa hs hs2) fun G B c σ H Qd R hc hd2 hq => ?_
  refine ⟨G, B, c, _, hc, hd2, fun ds c1 B1 H1 vs g1 e1 hc1 rl => ?_⟩
  obtain ⟨i, j, rfl, h1, h3⟩ := cints2_ok g1
  unfold RepL at rl
  obtain ⟨v, r, rfl, r1, r2⟩ := rl
  unfold RepL at r2
  obtain ⟨w, r, rfl, r2, r3⟩ := r2
  unfold RepL at r3
  subst r3
  unfold Rep at r1 r2
  subst r1 r2
  exact ⟨i, j, rfl, by omega, hq _ _ B1 _ _ h3 e1 hc1 items_rng⟩
def cints3 (ds : List Dt) (k : Int → Int → Int → Prop) : Prop := match ds with
  | .int a :: r => cints2 r (k a)
  | _ => False
theorem cints3_ok {ds : List Dt} {k : Int → Int → Int → Prop} (h : cints3 ds k) : ∃ a b d, ds = [.int a, .int b, .int d] ∧ k a b d := by
  cases ds with
  | nil => exact h.elim
  | cons d r =>
    cases d with
    | int n =>
      obtain ⟨b, e, rfl, h2⟩ := cints2_ok (show cints2 r (k n) from h)
      exact ⟨n, b, e, rfl, h2⟩
    | _ => exact h.elim
def dRng3 (da : DL) : DI := fun c Q => da c fun ds c1 => cints3 ds fun a b s => ∃ n, RgC a b s n ∧ Q (rngC a s n) c1
theorem qi_rng3 {tg a b d : Expr} {da : DL} {p pos : Pos} (h : QL X PL [a, b, d] da) (hg : Gl X "range") (hm : X.mg "range" = none) (hs : starEach [a, b, d] X.env = (false, eval a X.env) :: starEach [b, d] X.env := by rfl) (hpl : (backTo pos (starEach [b, d] X.env)).any (·.1) = false := by rfl) :
    QI X PL tg (.Call (.Name "range" p) [a, b, d] [] pos) (dRng3 da) := by
  refine qi_of (pi_range3 hg hm h.pa hs hpl) fun G B c σ H Qd R hc hd2 hq => ?_
  refine ⟨G, B, c, _, hc, hd2, fun ds c1 B1 H1 vs g1 e1 hc1 rl => ?_⟩
  obtain ⟨i, j, k, rfl, n, h1, h3⟩ := cints3_ok g1
  unfold RepL at rl
  obtain ⟨v, r, rfl, r1, r2⟩ := rl
  unfold RepL at r2
  obtain ⟨w, r, rfl, r2, r3⟩ := r2
  unfold RepL at r3
  obtain ⟨u, r, rfl, r3, r4⟩ := r3
  unfold RepL at r4
  subst r4
  unfold Rep at r1 r2 r3
  subst r1 r2 r3
  exact ⟨i, j, k, n, rfl, h1, hq _ _ B1 _ _ h3 e1 hc1 items_rngC⟩

/-! ### for, while -/
def dFor (di : DI) (g : DG) (body : DS) : DS := fun E c => di c fun ds c1 => ∃ I : Nat → CEnv → Prop, I 0 c1 ∧
  (∀ k d c', ds[k]? = some d → I k c' → g d c' fun c2 => body { nx := I (k + 1), rt := E.rt, bk := E.nx, ct := I (k + 1) } c2) ∧ ∀ c', I ds.length c' → E.nx c'
theorem qs_for {tg iter : Expr} {body : List Stmt} {di : DI} {g : DG} {db : DS} {pos : Pos} (hi : QI X PL tg iter di) (hg : QG X PL tg g) (hb : QSs X PL body db) (hp : PassesOwn (model X.prog X.w) X.A X.env X.xe) (hc : X.calm = true)
    (hs : ∀ x, foldedSetIterable iter X.env x = pure x := by intro _; rfl) : QS X PL (.For tg iter body [] pos) (dFor di g db) := by
  refine qs_of (ps_for hp hc hi.pi hg.pg hb.pss hs) fun G B c σ H E D h1 h2 h3 h4 h5 h6 => ?_
  refine ⟨G, B, c, _, h1, h2, fun ds c1 B1 H1 J ⟨I, i0, it, ie⟩ e1 hc1 HJ => ?_⟩
  refine ⟨fun i m σ' H' => m = ds.length - i ∧ i ≤ ds.length ∧ ∃ B2 c2, Same B1 B2 ∧ Conc X.K PL G B2 c2 σ' H' ∧ I i c2, ⟨_, rfl, Nat.zero_le _, B1, c1, Same.refl _, hc1, i0⟩, ?_⟩
  rintro i m σ' H' ⟨rfl, hil, B2, c2, e2, hc2, hI⟩
  by_cases hlt : i < ds.length
  · refine .inr ⟨HJ.go i H' (e2.trans hc2.same) hlt, fun σ2 H2 => ∃ B3 c3, Same B1 B3 ∧ Conc X.K PL G B3 c3 σ2 H2 ∧ I (i + 1) c3, fun σ2 H2 ⟨B3, c3, e3, hc3, hI3⟩ => ⟨ds.length - (i + 1), by omega, rfl, hlt, B3, c3, e3, hc3, hI3⟩, fun x H3 hy => ?_⟩
    obtain ⟨B3, d, hd3, e3, hc3, rd⟩ := HJ.yld i H' x H3 hlt hy G B2 c2 σ' e2 hc2
    refine ⟨G, B3, c2, d, _, hc3, rd, it i d c2 hd3 hI, fun c4 B4 σ4 H4 q4 e4 hc4 _ => ?_⟩
    have ee : Same B1 B4 := (e2.trans e3).trans e4
    exact ⟨G, B4, c4, _, hc4, q4, fun c5 B5 σ5 H5 q5 e5 hc5 => ⟨B5, c5, ee.trans e5, hc5, q5⟩, h4, fun c5 B5 σ5 H5 q5 e5 hc5 => h3 _ _ _ _ q5 ((e1.trans ee).trans e5) hc5, fun c5 B5 σ5 H5 q5 e5 hc5 => ⟨B5, c5, ee.trans e5, hc5, q5⟩⟩
  · have hie : i = ds.length := by omega
    subst hie
    exact .inl ⟨HJ.stop H' (e2.trans hc2.same), h3 _ _ _ _ (ie c2 hI) (e1.trans e2) hc2⟩
def dWhile (t : DT) (body : DS) : DS := fun E c => ∃ I : Nat → CEnv → Prop, (∃ m, I m c) ∧ ∀ m c', I m c' → t c' fun b c2 => br b (body { nx := fun c3 => ∃ m', m' < m ∧ I m' c3, rt := E.rt, bk := E.nx, ct := fun c3 => ∃ m', m' < m ∧ I m' c3 } c2) (E.nx c2)
theorem qs_while {t : Expr} {body : List Stmt} {dt : DT} {db : DS} {pos : Pos} (ht : QT X PL t dt) (hb : QSs X PL body db) (hp : PassesOwn (model X.prog X.w) X.A X.env X.xe) : QS X PL (.While t body [] pos) (dWhile dt db) := by
  refine qs_of (ps_while hp ht.pt hb.pss) fun G B c σ H E D h1 h2 h3 h4 h5 h6 => ?_
  obtain ⟨I, ⟨m0, i0⟩, it⟩ := h2
  refine ⟨fun m σ' H' => ∃ B2 c2, Same B B2 ∧ Conc X.K PL G B2 c2 σ' H' ∧ I m c2, ⟨m0, B, c, Same.refl _, h1, i0⟩, ?_⟩
  rintro m σ' H' ⟨B2, c2, e2, hc2, hI⟩
  refine ⟨G, B2, c2, _, hc2, it m c2 hI, fun b c3 B3 H3 q3 e3 hc3 => ?_⟩
  cases b with
  | true =>
    rw [if_pos rfl]
    refine ⟨fun σ4 H4 => ∃ m', m' < m ∧ ∃ B4 c4, Same B B4 ∧ Conc X.K PL G B4 c4 σ4 H4 ∧ I m' c4, fun σ4 H4 ⟨m', hm, r⟩ => ⟨m', hm, r⟩, ?_⟩
    exact ⟨G, B3, c3, _, hc3, q3, fun c5 B5 σ5 H5 ⟨m', hm, q5⟩ e5 hc5 => ⟨m', hm, B5, c5, (e2.trans e3).trans e5, hc5, q5⟩, h4, fun c5 B5 σ5 H5 q5 e5 hc5 => h3 _ _ _ _ q5 ((e2.trans e3).trans e5) hc5, fun c5 B5 σ5 H5 ⟨m', hm, q5⟩ e5 hc5 => ⟨m', hm, B5, c5, (e2.trans e3).trans e5, hc5, q5⟩⟩
  | false =>
    rw [if_neg Bool.false_ne_true]
    exact h3 _ _ _ _ q3 (e2.trans e3) hc3
end
end Cl

namespace Cl
open PySem PySem.Spec PyProof.Rows L2

section
variable {X : Cx} {PL : PoolP}
/-! ### a list of one's own is changed -/
def obL (c : CEnv) (i : Nat) (k : List Dt → Prop) : Prop := match gt c i with
  | .own (.lst l) => k l
  | .arg (.lst l) => k l
  | _ => False
def setL (c : CEnv) (i : Nat) (m : List Dt) : CEnv := c.set i (match gt c i with
  | .arg _ => .arg (.lst m)
  | _ => .own (.lst m))
theorem obL_ok {c : CEnv} {i : Nat} {k : List Dt → Prop} (h : obL c i k) : ∃ l, (c[i]? = some (.own (.lst l)) ∨ c[i]? = some (.arg (.lst l))) ∧ k l := by
  unfold obL at h
  cases g : gt c i with
  | no => simp only [g] at h
  | dat d => simp only [g] at h
  | own o =>
    cases o with
    | lst l =>
      simp only [g] at h
      exact ⟨l, .inl (gt_get g (by simp)), h⟩
    | pool => simp only [g] at h
  | arg o =>
    cases o with
    | lst l =>
      simp only [g] at h
      exact ⟨l, .inr (gt_get g (by simp)), h⟩
    | pool => simp only [g] at h
abbrev MutF := List Dt → List Dt → (Dt → List Dt → Prop) → Prop
def MutD (K : PySem.W.Frag) (r : V → List V → Hp → VK → Prop) (f : MutF) : Prop := ∀ B H a l xs ds vs k (Q : VK), H a = some (.lst xs) → RepL K B l xs → RepL K B ds vs → f l ds k → Same B H →
  (∀ d m v ys, k d m → RepL K B m ys → Rep K B d v → Q v (upd H a (.lst ys))) → r (.ref a) vs H Q
def dMeth (i : Nat) (f : MutF) (dl : DL) : DE := fun c Q => obL c i fun _ => dl c fun ds c1 => obL c1 i fun l => f l ds fun d m => Q (.dat d) (setL c1 i m)
theorem meth_ok {r : V → List V → Hp → VK → Prop} {f : MutF} (hf : MutD X.K r f) {i : Nat} {G : Ent} {B : Hp} {c1 : CEnv} {σ : L2.St} {H1 : Hp} {a : Addr} {ds : List Dt} {vs : List V} {Qd : Res → CEnv → Prop} {Q : VK} (hc1 : Conc X.K PL G B c1 σ H1) (hv : σ[i]? = some (some (.ref a))) (rl : RepL X.K B ds vs)
    (q : obL c1 i fun l => f l ds fun d m => Qd (.dat d) (setL c1 i m)) (hq : ∀ r c' B' H' v, Qd r c' → Same B B' → CR X.K PL G B' c' σ H' r v → Q v H') : r (.ref a) vs H1 Q := by
  obtain ⟨l, hs, q2⟩ := obL_ok q
  obtain ⟨a', fp, e1, e2⟩ := hc1.getOb hs
  rw [hv] at e1
  cases e1
  obtain ⟨_, xs, e3, e4⟩ := e2
  refine hf B H1 a l xs ds vs _ Q e3 e4 rl q2 hc1.same fun d m v ys hk rm rd => ?_
  obtain ⟨hc2, _⟩ := hc1.write hs hv rm
  exact hq _ _ B _ v hk (Same.refl B) ⟨hc2, rd⟩
theorem qe_meth {i : Nat} {e : Expr} {es : List Expr} {apos cpos : Pos} {x : Str} {xpos : Pos} {T id : String} {name : Str} {r : V → List V → Hp → VK → Prop} {f : MutF} {dl : DL} (pa : PlainAttrs "list") (slot : PySem.Slot "list" name id) (hty : typeOf (.builtin id) = pure (.type "method_descriptor")) (hm : MtR X id r) (hf : MutD X.K r f)
    (ho : PE X (.Name x xpos) (tVar i)) (ha : QL X PL (e :: es) dl) (hbase : attributeBase (.Name x xpos) name X.env (eval (.Name x xpos) X.env) = eval (.Name x xpos) X.env := by rfl)
    (hfew : ((backTo cpos (starEach (e :: es) X.env)).all (fun x => !x.1) && (backToKw cpos (keywordEach [] X.env)).all (fun x => x.1.isSome) && decide ((e :: es).length + ([] : List Keyword).length + (if ([] : List Keyword).isEmpty then 0 else 1) < 30)) = true := by rfl)
    (hline : (apos.endLine == cpos.line) = true := by rfl) (hs : starEach (e :: es) X.env = (false, eval e X.env) :: starEach es X.env := by rfl) (hplain : (backTo cpos (starEach es X.env)).any (·.1) = false := by rfl) :
    QE X PL (.Call (.Attribute (.Name x xpos) name apos) (e :: es) [] cpos) (dMeth i f dl) := by
  refine q_of (pe_bm pa slot hty hm ho ha.pa hbase hfew hline hs hplain) fun G B c σ H Qd Q hc hd2 hq => ?_
  obtain ⟨l, hs', hd3⟩ := obL_ok hd2
  obtain ⟨a, fp, e1, _, xs, e2, e3⟩ := hc.getOb hs'
  refine ⟨.ref a, e1, .inl ⟨rfl, xs, .of e2⟩, G, B, c, _, hc, hd3, fun ds c1 B1 H1 vs q ee hc1 rl => ?_⟩
  exact meth_ok hf hc1 e1 rl q fun r c' B' H' v h1 h2 h3 => hq r c' B' H' v h1 (ee.trans h2) h3
theorem qe_meth0 {i : Nat} {apos cpos : Pos} {x : Str} {xpos : Pos} {T id : String} {name : Str} {r : V → List V → Hp → VK → Prop} {f : MutF} (pa : PlainAttrs "list") (slot : PySem.Slot "list" name id) (hty : typeOf (.builtin id) = pure (.type "method_descriptor")) (hm : MtR X id r) (hf : MutD X.K r f)
    (ho : PE X (.Name x xpos) (tVar i)) (hbase : attributeBase (.Name x xpos) name X.env (eval (.Name x xpos) X.env) = eval (.Name x xpos) X.env := by rfl) (hline : (apos.endLine == cpos.line) = true := by rfl) :
    QE X PL (.Call (.Attribute (.Name x xpos) name apos) [] [] cpos) (dMeth i f lNil) := by
  refine q_of (pe_bm0 pa slot hty hm ho hbase hline) fun G B c σ H Qd Q hc hd2 hq => ?_
  obtain ⟨l, hs', hd3⟩ := obL_ok hd2
  obtain ⟨a, fp, e1, _, xs, e2, e3⟩ := hc.getOb hs'
  exact ⟨.ref a, e1, .inl ⟨rfl, xs, .of e2⟩, meth_ok hf hc e1 .nil hd3 hq⟩
def oneD {α : Type} (ds : List α) (P : α → Prop) : Prop := match ds with
  | [d] => P d
  | _ => False
theorem oneD_ok {α : Type} {ds : List α} {P : α → Prop} (h : oneD ds P) : ∃ d, ds = [d] ∧ P d := by
  cases ds with
  | nil => exact h.elim
  | cons d r =>
    cases r with
    | nil => exact ⟨d, rfl, h⟩
    | cons e r => exact h.elim
def mAppend : MutF := fun l ds k => oneD ds fun d => l.length < 10000000 ∧ k .non (l ++ [d])
theorem repL1 {K : PySem.W.Frag} {B : Hp} {d : Dt} {vs : List V} (h : RepL K B [d] vs) : ∃ v, vs = [v] ∧ Rep K B d v := by
  unfold RepL at h
  obtain ⟨v, r, h1, h2, h3⟩ := h
  unfold RepL at h3
  subst h3
  exact ⟨v, h1, h2⟩
theorem mut_append {K : PySem.W.Frag} : MutD K rAppend mAppend := by
  intro B H a l xs ds vs k Q h1 h2 h3 h4 h5 hq
  obtain ⟨d, rfl, h6, h7⟩ := oneD_ok h4
  obtain ⟨v, rfl, h8⟩ := repL1 h3
  exact ⟨a, xs, v, rfl, rfl, h1, by rw [h2.length]; exact sz7l h6, hq _ _ _ _ h7 (h2.app (.one h8)) (by unfold Rep; rfl)⟩
def mPop : MutF := fun l ds k => match ds with
  | [] => (match l.getLast? with
    | some d => k d l.dropLast
    | none => False)
  | _ => False
theorem RepL.dropLast {K : PySem.W.Frag} {B : Hp} {l : List Dt} {xs : List V} (h : RepL K B l xs) : RepL K B l.dropLast xs.dropLast := by
  rw [List.dropLast_eq_take, List.dropLast_eq_take, h.length]
  exact h.take _
theorem mut_pop {K : PySem.W.Frag} : MutD K rPop mPop := by
  intro B H a l xs ds vs k Q h1 h2 h3 h4 h5 hq
  cases ds with
  | cons d r => exact h4.elim
  | nil =>
    unfold RepL at h3
    subst h3
    have h6 : (match l.getLast? with
      | some d => k d l.dropLast
      | none => False) := h4
    cases g : l.getLast? with
    | none => simp only [g] at h6
    | some d =>
      simp only [g] at h6
      rw [List.getLast?_eq_getElem?] at g
      obtain ⟨v, e1, e2⟩ := h2.get g
      exact ⟨a, xs, v, rfl, rfl, h1, by rw [h2.length]; exact e1, hq _ _ _ _ h6 h2.dropLast e2⟩
/-- xs[i] = e -/
def dSetIx (i : Nat) (dx de : DE) : DS := fun E c => de c fun r c1 => asD r c1 fun d c2 => obL c2 i fun _ => dx c2 fun rx c3 => match rx with
  | .dat (.int j) => obL c3 i fun l => match ixN l.length j with
    | some n => E.nx (setL c3 i (l.set n d))
    | none => False
  | _ => False
theorem qs_setIx {i : Nat} {x : Str} {xpos pos spos : Pos} {ix e : Expr} {dx de : DE} (he : QE X PL e de) (ho : PE X (.Name x xpos) (tVar i)) (hi : QE X PL ix dx)
    (ha : ∀ v, assign (.Subscript (.Name x xpos) ix spos) X.env v = (do
      let ov ← holding [v] (eval (.Name x xpos) X.env)
      let iv ← holding [v, ov] (eval ix X.env)
      standAt spos
      holding [v, ov, iv] (setItem ov iv v)
      release [v, ov, iv] []) := by intro _; rfl)
    (hs : swapsWithSole [.Subscript (.Name x xpos) ix spos] e pos.line X.env = pure false := by rfl) (hw : swappedStores [.Subscript (.Name x xpos) ix spos] e X.env = pure none := by rfl)
    (h1 : (assignEach [.Subscript (.Name x xpos) ix spos] X.env).map (·.2) = [assign (.Subscript (.Name x xpos) ix spos) X.env] := by rfl) : QS X PL (.Assign [.Subscript (.Name x xpos) ix spos] e pos) (dSetIx i dx de) := by
  refine qs_of (ps_asg he.pe (pg_sub ho hi.pe set_list ha) hs hw h1) fun G B c σ H E D h1 h2 h3 h4 h5 h6 => ?_
  refine ⟨G, B, c, _, h1, h2, fun r c1 B1 H1 v q e1 cr => ?_⟩
  obtain ⟨B2, c2, d, e2, hc2, rd, q2⟩ := asD_ok cr q
  obtain ⟨l, hs', q3⟩ := obL_ok q2
  obtain ⟨a, fp, g1, _⟩ := hc2.getOb hs'
  refine ⟨.ref a, g1, G, B2, c2, _, hc2, q3, fun rx c3 B3 H3 w q4 e3 cr3 => ?_⟩
  cases rx with
  | dat dd =>
    cases dd with
    | int j =>
      obtain ⟨hc3, r3⟩ := cr3
      unfold Rep at r3
      subst r3
      obtain ⟨m, hs3, q5⟩ := obL_ok q4
      obtain ⟨a', fp', e5, _, xs, e6, e7⟩ := hc3.getOb hs3
      rw [g1] at e5
      cases e5
      cases g : ixN m.length j with
      | none => simp only [g] at q5
      | some n =>
        simp only [g] at q5
        refine ⟨a, xs, j, n, rfl, rfl, e6, by rw [e7.length]; exact g, ?_⟩
        obtain ⟨hc4, _⟩ := hc3.write hs3 g1 (e7.set (rd.mono e3) n)
        exact h3 _ _ _ _ q5 ((e1.trans e2).trans e3) hc4
    | _ => exact q4.elim
  | _ => exact q4.elim

/-! ### methods of texts -/
abbrev MtF := Dt → List Dt → (Res → Prop) → Prop
def MtD (K : PySem.W.Frag) (PL : PoolP) (r : V → List V → Hp → VK → Prop) (f : MtF) : Prop := ∀ G B c σ H s xs vs k (Q : VK), Conc K PL G B c σ H → RepHs K B H xs vs → f (.str s) xs k →
  (∀ z w B' H', k z → Same B B' → CR K PL G B' c σ H' z w → Q w H') → r (.str (S s)) vs H Q
def dMt (f : MtF) (de : DE) (da : DA) : DE := fun c Q => de c fun r c1 => match r with
  | .dat (.str s) => da c1 fun rs c2 => vws rs c2 fun xs => f (.str s) xs fun z => Q z c2
  | _ => False
theorem qe_mt {o e : Expr} {es : List Expr} {apos cpos : Pos} {id : String} {name : Str} {r : V → List V → Hp → VK → Prop} {f : MtF} {de : DE} {da : DA} (pa : PlainAttrs "str") (slot : PySem.Slot "str" name id) (hty : typeOf (.builtin id) = pure (.type "method_descriptor")) (hm : MtR X id r) (hf : MtD X.K PL r f)
    (ho : QE X PL o de) (ha : QA X PL (e :: es) da) (hbase : attributeBase o name X.env (eval o X.env) = eval o X.env := by rfl)
    (hfew : ((backTo cpos (starEach (e :: es) X.env)).all (fun x => !x.1) && (backToKw cpos (keywordEach [] X.env)).all (fun x => x.1.isSome) && decide ((e :: es).length + ([] : List Keyword).length + (if ([] : List Keyword).isEmpty then 0 else 1) < 30)) = true := by rfl)
    (hline : (apos.endLine == cpos.line) = true := by rfl) (hs : starEach (e :: es) X.env = (false, eval e X.env) :: starEach es X.env := by rfl) (hplain : (backTo cpos (starEach es X.env)).any (·.1) = false := by rfl) :
    QE X PL (.Call (.Attribute o name apos) (e :: es) [] cpos) (dMt f de da) := by
  refine q_of (pe_bm pa slot hty hm ho.pe ha.pa hbase hfew hline hs hplain) fun G B c σ H Qd Q hc hd2 hq => ?_
  refine ⟨G, B, c, _, hc, hd2, fun r1 c1 B1 H1 v q e1 cr => ?_⟩
  cases r1 with
  | dat d =>
    cases d with
    | str s =>
      obtain ⟨hc1, rv⟩ := cr
      unfold Rep at rv
      subst rv
      refine ⟨rfl, G, B1, c1, _, hc1, q, fun rs c2 B2 H2 vs q2 e2 hc2 hl => ?_⟩
      obtain ⟨xs, rx, q3⟩ := vws_ok hc2 hl q2
      exact hf G B2 c2 σ H2 s xs vs _ Q hc2 rx q3 fun z w B' H' hk e' cr' => hq z c2 B' H' w hk ((e1.trans e2).trans e') cr'
    | _ => exact q.elim
  | _ => exact q.elim
end

/-! ### calls of the text's own defs -/
inductive AV where
  | dat (d : Dt)
  | own (i : Nat)
inductive AArg where
  | dat (d : Dt)
  | ob (o : Ob)
/-- what a def does, said of plain data: its arguments, what is wanted of the result and of the own objects behind it -/
abbrev FS := List AArg → (Res → List AArg → Prop) → Prop
def lookA (c : CEnv) : AV → Option AArg
  | .dat d => some (.dat d)
  | .own i => match gt c i with
    | .own o => some (.ob o)
    | .arg o => some (.ob o)
    | _ => none
def looks (c : CEnv) : List AV → Option (List AArg)
  | [] => some []
  | a :: r => match lookA c a with
    | none => none
    | some x => match looks c r with
      | none => none
      | some xs => some (x :: xs)
def ownAt : List AV → List AArg → Nat → Option Ob
  | .own i :: avs, .ob o :: as, j => if i = j then some o else ownAt avs as j
  | _ :: avs, _ :: as, j => ownAt avs as j
  | _, _, _ => none
def newSlot (s : Slot) (o : Option Ob) : Slot := match o with
  | none => s
  | some o => match s with
    | .arg _ => .arg o
    | _ => .own o
def putA (avs : List AV) (as : List AArg) : Nat → CEnv → CEnv
  | _, [] => []
  | j, s :: r => newSlot s (ownAt avs as j) :: putA avs as (j + 1) r
theorem putA_length (avs : List AV) (as : List AArg) : ∀ (j : Nat) (c : CEnv), (putA avs as j c).length = c.length
  | _, [] => rfl
  | j, s :: r => by
    unfold putA
    rw [List.length_cons, List.length_cons, putA_length avs as (j + 1) r]
theorem putA_get (avs : List AV) (as : List AArg) : ∀ (j : Nat) (c : CEnv) (i : Nat) (s : Slot), (putA avs as j c)[i]? = some s → ∃ t, c[i]? = some t ∧ s = newSlot t (ownAt avs as (j + i))
  | _, [], i, s, h => by simp [putA] at h
  | j, t :: r, 0, s, h => by
    unfold putA at h
    exact ⟨t, rfl, by simpa using h.symm⟩
  | j, t :: r, i + 1, s, h => by
    unfold putA at h
    obtain ⟨u, h1, h2⟩ := putA_get avs as (j + 1) r i s (by simpa using h)
    exact ⟨u, by simpa using h1, by rw [h2]; congr 2; omega⟩
/-- each own object is handed in once -/
def nodupO : List AV → Bool
  | [] => true
  | .own i :: r => (r.all fun a => match a with
    | .own j => i != j
    | _ => true) && nodupO r
  | _ :: r => nodupO r
theorem ownAt_some : ∀ {avs : List AV} {as : List AArg} {j : Nat} {o : Ob}, ownAt avs as j = some o → ∃ k : Nat, avs[k]? = some (.own j) ∧ as[k]? = some (.ob o)
  | [], as, j, o, h => by cases as <;> simp [ownAt] at h
  | .own i :: avs, [], j, o, h => by simp [ownAt] at h
  | .dat d :: avs, [], j, o, h => by simp [ownAt] at h
  | .own i :: avs, .ob u :: as, j, o, h => by
    unfold ownAt at h
    by_cases e : i = j
    · rw [if_pos e] at h
      cases h
      exact ⟨0, by rw [e]; rfl, rfl⟩
    · rw [if_neg e] at h
      obtain ⟨k, h1, h2⟩ := ownAt_some h
      exact ⟨k + 1, by simpa using h1, by simpa using h2⟩
  | .own i :: avs, .dat u :: as, j, o, h => by
    obtain ⟨k, h1, h2⟩ := ownAt_some (show ownAt avs as j = some o from h)
    exact ⟨k + 1, by simpa using h1, by simpa using h2⟩
  | .dat d :: avs, a :: as, j, o, h => by
    obtain ⟨k, h1, h2⟩ := ownAt_some (show ownAt avs as j = some o from h)
    exact ⟨k + 1, by simpa using h1, by simpa using h2⟩
theorem ownAt_none : ∀ {avs : List AV} {as : List AArg} {j : Nat}, ownAt avs as j = none → ∀ (k : Nat) (o : Ob), avs[k]? = some (.own j) → as[k]? ≠ some (.ob o)
  | [], as, j, h, k, o, e => by simp at e
  | .own i :: avs, [], j, h, k, o, e => by simp
  | .dat d :: avs, [], j, h, k, o, e => by simp
  | .own i :: avs, .ob u :: as, j, h, 0, o, e => by
    have e' : i = j := by simpa using e
    unfold ownAt at h
    rw [if_pos e'] at h
    cases h
  | .own i :: avs, .ob u :: as, j, h, k + 1, o, e => by
    unfold ownAt at h
    by_cases e' : i = j
    · rw [if_pos e'] at h
      cases h
    · rw [if_neg e'] at h
      simpa using ownAt_none h k o (by simpa using e)
  | .own i :: avs, .dat u :: as, j, h, 0, o, e => by simp
  | .own i :: avs, .dat u :: as, j, h, k + 1, o, e => by
    simpa using ownAt_none (show ownAt avs as j = none from h) k o (by simpa using e)
  | .dat d :: avs, a :: as, j, h, 0, o, e => by simp at e
  | .dat d :: avs, a :: as, j, h, k + 1, o, e => by
    simpa using ownAt_none (show ownAt avs as j = none from h) k o (by simpa using e)
theorem nodupO_inj : ∀ {avs : List AV}, nodupO avs = true → ∀ (k l i : Nat), avs[k]? = some (.own i) → avs[l]? = some (.own i) → k = l
  | [], _, k, l, i, h, _ => by simp at h
  | .dat d :: r, h, 0, l, i, e, _ => by simp at e
  | .dat d :: r, h, k + 1, 0, i, _, e => by simp at e
  | .dat d :: r, h, k + 1, l + 1, i, e, f => by
    rw [nodupO_inj (show nodupO r = true from h) k l i (by simpa using e) (by simpa using f)]
  | .own m :: r, h, 0, 0, i, e, f => rfl
  | .own m :: r, h, 0, l + 1, i, e, f => by
    unfold nodupO at h
    rw [Bool.and_eq_true, List.all_eq_true] at h
    have e1 : m = i := by simpa using e
    have := h.1 _ (List.mem_of_getElem? (show r[l]? = some (.own i) by simpa using f))
    simp [e1] at this
  | .own m :: r, h, k + 1, 0, i, f, e => by
    unfold nodupO at h
    rw [Bool.and_eq_true, List.all_eq_true] at h
    have e1 : m = i := by simpa using e
    have := h.1 _ (List.mem_of_getElem? (show r[k]? = some (.own i) by simpa using f))
    simp [e1] at this
  | .own m :: r, h, k + 1, l + 1, i, e, f => by
    unfold nodupO at h
    rw [Bool.and_eq_true] at h
    rw [nodupO_inj h.2 k l i (by simpa using e) (by simpa using f)]
section
variable {K : PySem.W.Frag} {PL : PoolP}
def ArgOk (K : PySem.W.Frag) (PL : PoolP) (B H : Hp) (a : AArg) (v : V) (f : List Addr) : Prop := match a with
  | .dat d => f = [] ∧ Rep K B d v
  | .ob o => ∃ p, v = .ref p ∧ RepO K PL B H o p f
/-- the arguments stand for what is said of them; fs: the own objects' footprints -/
def ArgsOk (K : PySem.W.Frag) (PL : PoolP) (B H : Hp) (as : List AArg) (vs : List V) (fs : Nat → List Addr) : Prop :=
  as.length = vs.length ∧ ∀ k a, as[k]? = some a → ∃ v, vs[k]? = some v ∧ ArgOk K PL B H a v (fs k)
structure Apart (B H : Hp) (n : Nat) (fs : Nat → List Addr) : Prop where
  out : ∀ k, n ≤ k → fs k = []
  disj : ∀ k l, k ≠ l → ∀ b ∈ fs k, b ∉ fs l
  off : ∀ k, ∀ b ∈ fs k, B b = none
def RetOk (K : PySem.W.Frag) (PL : PoolP) (B H H' : Hp) (fs : Nat → List Addr) : Res → V → Prop
  | .dat d, v => Rep K B d v
  | .new o, v => ∃ p fp, v = .ref p ∧ RepO K PL B H' o p fp ∧ ∀ b ∈ fp, B b = none ∧ H b = none ∧ ∀ k, b ∉ fs k
  | .sl _, _ => False
def spC (K : PySem.W.Frag) (PL : PoolP) (n : Nat) (F : FS) : Sp := fun vs H Q _ => ∃ B as fs R, as.length = n ∧ Same B H ∧ ArgsOk K PL B H as vs fs ∧ Apart B H n fs ∧ F as R ∧
  ∀ r as' B' H' v fs', R r as' → Same B B' → (∀ a o, B' a = some o → B a = some o ∨ H a = none) → Same B' H' → (∀ a o, H a = some o → (∀ k, a ∉ fs k) → H' a = some o) → (∀ a, H a ≠ none → H' a ≠ none) →
    ArgsOk K PL B' H' as' vs fs' → Apart B' H' n fs' → (∀ k, ∀ b ∈ fs' k, H b = none ∨ b ∈ fs k) → (∀ (k : Nat) (o : Ob), as[k]? = some (AArg.ob o) → ∃ o' : Ob, as'[k]? = some (AArg.ob o')) → RetOk K PL B' H H' fs' r v → Q v H'
end
end Cl

namespace Cl
open PySem PySem.Spec PyProof.Rows L2

section
variable {X : Cx} {PL : PoolP}
/-! ### a call's arguments -/
abbrev DV := CEnv → (List AV → CEnv → Prop) → Prop
def AVOk (K : PySem.W.Frag) (B : Hp) (σ : L2.St) : List AV → List V → Prop
  | [], vs => vs = []
  | .dat d :: r, vs => ∃ v ws, vs = v :: ws ∧ Rep K B d v ∧ AVOk K B σ r ws
  | .own i :: r, vs => ∃ v ws, vs = v :: ws ∧ σ[i]? = some (some v) ∧ AVOk K B σ r ws
theorem AVOk.mono {K : PySem.W.Frag} {B B' : Hp} {σ : L2.St} (e : Same B B') : ∀ {avs : List AV} {vs : List V}, AVOk K B σ avs vs → AVOk K B' σ avs vs
  | [], _, h => h
  | .dat d :: r, vs, h => by
    obtain ⟨v, ws, h1, h2, h3⟩ := h
    exact ⟨v, ws, h1, h2.mono e, h3.mono e⟩
  | .own i :: r, vs, h => by
    obtain ⟨v, ws, h1, h2, h3⟩ := h
    exact ⟨v, ws, h1, h2, h3.mono e⟩
theorem AVOk.length {K : PySem.W.Frag} {B : Hp} {σ : L2.St} : ∀ {avs : List AV} {vs : List V}, AVOk K B σ avs vs → vs.length = avs.length
  | [], _, h => by
    have e : _ = [] := h
    rw [e]
    rfl
  | .dat d :: r, vs, h => by
    obtain ⟨v, ws, h1, h2, h3⟩ := h
    rw [h1, List.length_cons, List.length_cons, h3.length]
  | .own i :: r, vs, h => by
    obtain ⟨v, ws, h1, h2, h3⟩ := h
    rw [h1, List.length_cons, List.length_cons, h3.length]
theorem AVOk.get {K : PySem.W.Frag} {B : Hp} {σ : L2.St} : ∀ {avs : List AV} {vs : List V} {k : Nat} {a : AV}, AVOk K B σ avs vs → avs[k]? = some a → ∃ v, vs[k]? = some v ∧ match a with
    | .dat d => Rep K B d v
    | .own i => σ[i]? = some (some v)
  | [], _, k, a, _, e => by simp at e
  | .dat d :: r, vs, 0, a, h, e => by
    obtain ⟨v, ws, h1, h2, h3⟩ := h
    have e' : AV.dat d = a := by simpa using e
    subst e'
    exact ⟨v, by rw [h1]; rfl, h2⟩
  | .own i :: r, vs, 0, a, h, e => by
    obtain ⟨v, ws, h1, h2, h3⟩ := h
    have e' : AV.own i = a := by simpa using e
    subst e'
    exact ⟨v, by rw [h1]; rfl, h2⟩
  | .dat d :: r, vs, k + 1, a, h, e => by
    obtain ⟨v, ws, h1, h2, h3⟩ := h
    obtain ⟨u, q1, q2⟩ := h3.get (k := k) (by simpa using e)
    exact ⟨u, by rw [h1]; simpa using q1, q2⟩
  | .own i :: r, vs, k + 1, a, h, e => by
    obtain ⟨v, ws, h1, h2, h3⟩ := h
    obtain ⟨u, q1, q2⟩ := h3.get (k := k) (by simpa using e)
    exact ⟨u, by rw [h1]; simpa using q1, q2⟩
def lV (K : PySem.W.Frag) (PL : PoolP) (dv : DV) : TA := fun σ H Q => ∃ G B c Qd, Conc K PL G B c σ H ∧ dv c Qd ∧ ∀ avs c' B' H' vs, Qd avs c' → Same B B' → Conc K PL G B' c' σ H' → AVOk K B' σ avs vs → Q vs H'
structure QV (X : Cx) (PL : PoolP) (es : List Expr) (dv : DV) : Prop where
  pa : PA X es (lV X.K PL dv)
theorem qv_of {es : List Expr} {t : TA} {da : DV} (h : PA X es t) (hw : ∀ G B c σ H Qd Q, Conc X.K PL G B c σ H → da c Qd → (∀ rs c' B' H' vs, Qd rs c' → Same B B' → Conc X.K PL G B' c' σ H' → AVOk X.K B' σ rs vs → Q vs H') → t σ H Q) : QV X PL es da :=
  ⟨PA.weak h fun σ H Q ⟨G, B, c, Qd, h1, h2, h3⟩ => hw G B c σ H Qd Q h1 h2 h3⟩
def vNil : DV := fun c Q => Q [] c
def vCons (de : DE) (dv : DV) : DV := fun c Q => de c fun r c1 => asD r c1 fun d c2 => dv c2 fun avs c3 => Q (.dat d :: avs) c3
def vOwn (i : Nat) (dv : DV) : DV := fun c Q => (gt c i matches .own _ | .arg _) ∧ dv c fun avs c3 => Q (.own i :: avs) c3
theorem qv_nil : QV X PL [] vNil := by
  refine qv_of pa_nil fun G B c σ H Qd Q hc hd2 hq => ?_
  exact hq [] c B H [] hd2 (Same.refl B) hc rfl
theorem qv_cons {e : Expr} {es : List Expr} {de : DE} {da : DV} (h : QE X PL e de) (h' : QV X PL es da) (hs : starEach (e :: es) X.env = (false, eval e X.env) :: starEach es X.env := by rfl) : QV X PL (e :: es) (vCons de da) := by
  refine qv_of (pa_cons h.pe h'.pa hs) fun G B c σ H Qd Q hc hd2 hq => ?_
  refine ⟨G, B, c, _, hc, hd2, fun r c1 B1 H1 v h1 e1 cr => ?_⟩
  obtain ⟨B2, c2, d, e2, hc2, rd, h2⟩ := asD_ok cr h1
  refine ⟨G, B2, c2, _, hc2, h2, fun rs c3 B3 H2 vs h3 e3 hc3 hl => ?_⟩
  exact hq _ c3 B3 H2 _ h3 ((e1.trans e2).trans e3) hc3 ⟨v, vs, rfl, rd.mono e3, hl⟩
theorem qv_own {i : Nat} {x : Str} {pos : Pos} {es : List Expr} {da : DV} (h : PE X (.Name x pos) (tVar i)) (h' : QV X PL es da) (hs : starEach (.Name x pos :: es) X.env = (false, eval (.Name x pos) X.env) :: starEach es X.env := by rfl) : QV X PL (.Name x pos :: es) (vOwn i da) := by
  refine qv_of (pa_cons h h'.pa hs) fun G B c σ H Qd Q hc hd2 hq => ?_
  obtain ⟨h0, h1⟩ := hd2
  have : ∃ a, σ[i]? = some (some (.ref a)) := by
    cases g : gt c i with
    | own o =>
      obtain ⟨a, fp, q, _⟩ := hc.getOb (.inl (gt_get g (by simp)))
      exact ⟨a, q⟩
    | arg o =>
      obtain ⟨a, fp, q, _⟩ := hc.getOb (.inr (gt_get g (by simp)))
      exact ⟨a, q⟩
    | no => rw [g] at h0; cases h0
    | dat d => rw [g] at h0; cases h0
  obtain ⟨a, ha⟩ := this
  refine ⟨.ref a, ha, G, B, c, _, hc, h1, fun rs c3 B3 H2 vs h3 e3 hc3 hl => ?_⟩
  exact hq _ c3 B3 H2 _ h3 e3 hc3 ⟨.ref a, vs, rfl, ha, hl⟩

/-! ### the call -/
theorem looks_get {c : CEnv} : ∀ {avs : List AV} {as : List AArg}, looks c avs = some as → as.length = avs.length ∧ ∀ (k : Nat) (a : AV), avs[k]? = some a → ∃ x, as[k]? = some x ∧ lookA c a = some x
  | [], as, h => by
    have e : [] = as := by simpa [looks] using h
    subst e
    exact ⟨rfl, fun k a e => by simp at e⟩
  | a :: r, as, h => by
    unfold looks at h
    cases g : lookA c a with
    | none => rw [g] at h; cases h
    | some x =>
      simp only [g] at h
      cases g2 : looks c r with
      | none => rw [g2] at h; cases h
      | some xs =>
        simp only [g2] at h
        have e : x :: xs = as := by simpa using h
        subst e
        obtain ⟨h1, h2⟩ := looks_get g2
        refine ⟨by simp [h1], fun k b e => ?_⟩
        cases k with
        | zero =>
          have e' : a = b := by simpa using e
          subst e'
          exact ⟨x, rfl, g⟩
        | succ k =>
          obtain ⟨y, q1, q2⟩ := h2 k b (by simpa using e)
          exact ⟨y, by simpa using q1, q2⟩
theorem lookA_own {c : CEnv} {i : Nat} {x : AArg} (h : lookA c (.own i) = some x) : ∃ o, x = .ob o ∧ (c[i]? = some (.own o) ∨ c[i]? = some (.arg o)) := by
  unfold lookA at h
  cases g : gt c i with
  | own o =>
    simp only [g] at h
    exact ⟨o, (Option.some.inj h).symm, .inl (gt_get g (by simp))⟩
  | arg o =>
    simp only [g] at h
    exact ⟨o, (Option.some.inj h).symm, .inr (gt_get g (by simp))⟩
  | no => simp only [g] at h; cases h
  | dat d => simp only [g] at h; cases h
/-- the position at which slot j is handed in -/
def posO : List AV → Nat → Option Nat
  | [], _ => none
  | .own i :: r, j => if i = j then some 0 else (posO r j).map (· + 1)
  | .dat _ :: r, j => (posO r j).map (· + 1)
theorem posO_some : ∀ {avs : List AV} {j k : Nat}, posO avs j = some k → avs[k]? = some (.own j)
  | [], j, k, h => by cases h
  | .own i :: r, j, k, h => by
    unfold posO at h
    by_cases e : i = j
    · rw [if_pos e] at h
      cases h
      rw [e]
      rfl
    · rw [if_neg e] at h
      cases g : posO r j with
      | none => rw [g] at h; cases h
      | some m =>
        rw [g] at h
        have e2 : m + 1 = k := by simpa using h
        subst e2
        simpa using posO_some g
  | .dat d :: r, j, k, h => by
    unfold posO at h
    cases g : posO r j with
    | none => rw [g] at h; cases h
    | some m =>
      rw [g] at h
      have e2 : m + 1 = k := by simpa using h
      subst e2
      simpa using posO_some g
theorem posO_none : ∀ {avs : List AV} {j : Nat}, posO avs j = none → ∀ k : Nat, avs[k]? ≠ some (.own j)
  | [], j, h, k => by simp
  | .own i :: r, j, h, k => by
    unfold posO at h
    by_cases e : i = j
    · rw [if_pos e] at h
      cases h
    · rw [if_neg e] at h
      cases g : posO r j with
      | some m => rw [g] at h; cases h
      | none =>
        cases k with
        | zero => simpa using e
        | succ k => simpa using posO_none g k
  | .dat d :: r, j, h, k => by
    unfold posO at h
    cases g : posO r j with
    | some m => rw [g] at h; cases h
    | none =>
      cases k with
      | zero => simp
      | succ k => simpa using posO_none g k
def retC (r : Res) (c : CEnv) (Q : Res → CEnv → Prop) : Prop := match r with
  | .dat d => Q (.dat d) c
  | .new o => Q (.new o) c
  | .sl _ => False
def callQ (F : FS) (avs : List AV) (c : CEnv) (Q : Res → CEnv → Prop) : Prop := nodupO avs = true ∧ match looks c avs with
  | none => False
  | some as => F as fun r as' => retC r (putA avs as' 0 c) Q
theorem call_ok {K : PySem.W.Frag} {n : Nat} {F : FS} {G : Ent} {B : Hp} {c : CEnv} {σ : L2.St} {H : Hp} {avs : List AV} {vs : List V} {Qd : Res → CEnv → Prop} {Q : VK} {E : XK} (hc : Conc K PL G B c σ H) (hv : AVOk K B σ avs vs) (hn : avs.length = n) (h : callQ F avs c Qd)
    (hq : ∀ r c' B' H' v, Qd r c' → Same B B' → CR K PL G B' c' σ H' r v → Q v H') : spC K PL n F vs H Q E := by
  obtain ⟨nd, h⟩ := h
  cases g : looks c avs with
  | none => simp only [g] at h
  | some as =>
  simp only [g] at h
  obtain ⟨Fc, C⟩ := hc
  obtain ⟨hl, hg⟩ := looks_get g
  have own_pos : ∀ (k i : Nat), avs[k]? = some (.own i) → i < c.length := fun k i e => by
    obtain ⟨x, _, q⟩ := hg k _ e
    obtain ⟨o, _, q | q⟩ := lookA_own q <;> exact (List.getElem?_eq_some_iff.mp q).1
  let fs : Nat → List Addr := fun k => match avs[k]? with
    | some (.own i) => Fc i
    | _ => []
  have fs_own : ∀ (k i : Nat), avs[k]? = some (.own i) → fs k = Fc i := fun k i e => by
    show (match avs[k]? with
      | some (.own i) => Fc i
      | _ => []) = _
    rw [e]
  have fs_mem : ∀ (k : Nat) (b : Addr), b ∈ fs k → ∃ i, avs[k]? = some (.own i) ∧ b ∈ Fc i := fun k b hb => by
    have hb' : b ∈ (match avs[k]? with
      | some (.own i) => Fc i
      | _ => []) := hb
    cases q : avs[k]? with
    | none => rw [q] at hb'; simp at hb'
    | some a =>
      rw [q] at hb'
      cases a with
      | own i => exact ⟨i, rfl, hb'⟩
      | dat d => simp at hb'
  refine ⟨B, as, fs, _, hl.trans hn, C.ex, ⟨hl.trans hv.length.symm, fun k a e => ?_⟩, ⟨fun k hk => ?_, fun k l hkl b hb hb' => ?_, fun k b hb => ?_⟩, h, ?_⟩
  · have hk : k < avs.length := by
      rw [← hl]
      exact (List.getElem?_eq_some_iff.mp e).1
    have ea := List.getElem?_eq_getElem hk
    obtain ⟨x, q1, q2⟩ := hg k _ ea
    rw [e] at q1
    cases q1
    obtain ⟨v, p1, p2⟩ := hv.get ea
    refine ⟨v, p1, ?_⟩
    generalize hav : avs[k] = av at *
    cases av with
    | dat d =>
      have e2 : AArg.dat d = a := Option.some.inj q2
      subst e2
      refine ⟨?_, p2⟩
      show (match avs[k]? with
        | some (.own i) => Fc i
        | _ => []) = _
      rw [ea]
    | own i =>
      obtain ⟨o, rfl, q3⟩ := lookA_own q2
      rw [show fs k = Fc i from fs_own k i ea]
      rcases q3 with q3 | q3
      · obtain ⟨y, s1, p, s2, s3, _⟩ := C.slots i _ q3
        have p2' : σ[i]? = some (some v) := p2
        rw [p2'] at s1
        cases s1
        cases s2
        exact ⟨p, rfl, s3⟩
      · obtain ⟨y, s1, p, s2, _, s3, _⟩ := C.slots i _ q3
        have p2' : σ[i]? = some (some v) := p2
        rw [p2'] at s1
        cases s1
        cases s2
        exact ⟨p, rfl, s3⟩
  · show (match avs[k]? with
      | some (.own i) => Fc i
      | _ => []) = _
    rw [List.getElem?_eq_none (by omega)]
  · obtain ⟨i, e1, m1⟩ := fs_mem k b hb
    obtain ⟨j, e2, m2⟩ := fs_mem l b hb'
    by_cases e : i = j
    · subst e
      exact hkl (nodupO_inj nd k l i e1 e2)
    · exact C.disj i j e b m1 m2
  · obtain ⟨i, e1, m1⟩ := fs_mem k b hb
    exact C.off i b m1
  · intro r as' B' H' v fs' hr sB nB sH fr kp ao ap mig kinds ro
    -- the own objects behind the call
    let F2 : Nat → List Addr := fun j => match posO avs j with
      | some k => fs' k
      | none => Fc j
    have F2s : ∀ {j k : Nat}, posO avs j = some k → F2 j = fs' k := fun {j k} e => by
      show (match posO avs j with
        | some k => fs' k
        | none => Fc j) = _
      rw [e]
    have F2n : ∀ {j : Nat}, posO avs j = none → F2 j = Fc j := fun {j} e => by
      show (match posO avs j with
        | some k => fs' k
        | none => Fc j) = _
      rw [e]
    have stays : ∀ {j : Nat}, posO avs j = none → ∀ b ∈ Fc j, H' b = H b := fun {j} e b hb => by
      cases q : H b with
      | none => exact absurd q (C.alive j b hb)
      | some o =>
        refine fr b o q fun k hk => ?_
        obtain ⟨i, e1, m1⟩ := fs_mem k b hk
        by_cases hij : i = j
        · subst hij
          exact posO_none e k e1
        · exact C.disj i j hij b m1 hb
    have mig2 : ∀ {j k : Nat}, posO avs j = some k → ∀ b ∈ fs' k, H b = none ∨ b ∈ Fc j := fun {j k} e b hb => by
      rcases mig k b hb with q | q
      · exact .inl q
      · rw [fs_own k j (posO_some e)] at q
        exact .inr q
    have C2 : ConcF K PL G B' (putA avs as' 0 c) σ H' F2 := by
      refine ⟨sH, C.bb.trans sB, fun a o q => ?_, fun a o q nf => ?_, fun a q => kp a (C.keep a q), by rw [putA_length]; exact C.len, fun j s hs => ?_, fun j hj => ?_, fun i j hij b hbi hbj => ?_, fun j b hb => ?_, fun a o q => ?_⟩
      · rcases nB a o q with z | z
        · exact C.new a o z
        · refine .inr ?_
          cases w : G.H a with
          | none => rfl
          | some u => exact absurd z (C.keep a (by rw [w]; simp))
      · refine fr a o (C.frame a o q nf) fun k hk => ?_
        obtain ⟨i, e1, m1⟩ := fs_mem k a hk
        obtain ⟨x, _, q2⟩ := hg k _ e1
        obtain ⟨u, _, q3 | q3⟩ := lookA_own q2
        · obtain ⟨y, s1, p, s2, s3, s4⟩ := C.slots i _ q3
          have := s4 a m1
          rw [q] at this
          cases this
        · obtain ⟨y, s1, p, s2, _, s3, s4⟩ := C.slots i _ q3
          rcases s4 a m1 with w | w
          · rw [q] at w
            cases w
          · exact nf i w
      · obtain ⟨t, h1, h2⟩ := putA_get avs as' 0 c j s hs
        rw [Nat.zero_add] at h2
        obtain ⟨o, h3, h4⟩ := C.slots j t h1
        refine ⟨o, h3, ?_⟩
        cases w : posO avs j with
        | none =>
          have on : ownAt avs as' j = none := by
            cases z : ownAt avs as' j with
            | none => rfl
            | some u =>
              obtain ⟨k, z1, _⟩ := ownAt_some z
              exact absurd z1 (posO_none w k)
          rw [on] at h2
          rw [F2n w, show s = t from h2]
          exact h4.mono sB (stays w)
        | some k =>
          have e1 := posO_some w
          obtain ⟨x, q1, q2⟩ := hg k _ e1
          obtain ⟨u, rfl, q3⟩ := lookA_own q2
          obtain ⟨u', q4⟩ := kinds k u q1
          obtain ⟨v', p1, p2⟩ := ao.2 k _ q4
          obtain ⟨p, rfl, p3⟩ := p2
          obtain ⟨v2, p4, p5⟩ := hv.get e1
          rw [p1] at p4
          cases p4
          have p5' : σ[j]? = some (some (.ref p)) := p5
          rw [h3] at p5'
          cases p5'
          have on : ownAt avs as' j = some u' := by
            cases z : ownAt avs as' j with
            | none => exact absurd q4 (ownAt_none z k u' e1)
            | some u2 =>
              obtain ⟨k2, z1, z2⟩ := ownAt_some z
              rw [nodupO_inj nd k2 k j z1 e1, q4] at z2
              cases z2
              rfl
          rw [on] at h2
          rw [F2s w]
          rcases q3 with q3 | q3
          · rw [h1] at q3
            cases q3
            have hs2 : s = .own u' := h2
            subst hs2
            obtain ⟨a2, s1, s2, s3⟩ := h4
            refine ⟨p, rfl, p3, fun b hb => ?_⟩
            rcases mig2 w b hb with z | z
            · cases y : G.H b with
              | none => rfl
              | some o' => exact absurd z (C.keep b (by rw [y]; simp))
            · exact s3 b z
          · rw [h1] at q3
            cases q3
            have hs2 : s = .arg u' := h2
            subst hs2
            obtain ⟨a2, s1, s1', s2, s3⟩ := h4
            cases s1
            refine ⟨p, rfl, s1', p3, fun b hb => ?_⟩
            rcases mig2 w b hb with z | z
            · refine .inl ?_
              cases y : G.H b with
              | none => rfl
              | some o' => exact absurd z (C.keep b (by rw [y]; simp))
            · exact s3 b z
      · rw [putA_length] at hj
        cases w : posO avs j with
        | none =>
          rw [F2n w]
          exact C.out j hj
        | some k => exact absurd (own_pos k j (posO_some w)) (by omega)
      · cases w : posO avs i with
        | none =>
          rw [F2n w] at hbi
          cases w2 : posO avs j with
          | none =>
            rw [F2n w2] at hbj
            exact C.disj i j hij b hbi hbj
          | some l =>
            rw [F2s w2] at hbj
            rcases mig2 w2 b hbj with z | z
            · exact C.alive i b hbi z
            · exact C.disj i j hij b hbi z
        | some k =>
          rw [F2s w] at hbi
          cases w2 : posO avs j with
          | none =>
            rw [F2n w2] at hbj
            rcases mig2 w b hbi with z | z
            · exact C.alive j b hbj z
            · exact C.disj i j hij b z hbj
          | some l =>
            rw [F2s w2] at hbj
            have hkl : k ≠ l := fun e => by
              subst e
              have e1 := posO_some w
              rw [posO_some w2] at e1
              cases e1
              exact hij rfl
            exact ap.disj k l hkl b hbi hbj
      · cases w : posO avs j with
        | none =>
          rw [F2n w] at hb
          cases q : B' b with
          | none => rfl
          | some o =>
            rcases nB b o q with z | z
            · rw [C.off j b hb] at z
              cases z
            · exact absurd z (C.alive j b hb)
        | some k =>
          rw [F2s w] at hb
          exact ap.off k b hb
      · obtain ⟨z1, z2, z3⟩ := C.pin a o q
        refine ⟨fr a o z1 fun k hk => ?_, ?_, fun j hj => ?_⟩
        · obtain ⟨i, e1, m1⟩ := fs_mem k a hk
          exact z3 i m1
        · cases w : B' a with
          | none => rfl
          | some u =>
            rcases nB a u w with y | y
            · rw [z2] at y
              cases y
            · rw [z1] at y
              cases y
        · cases w : posO avs j with
          | none =>
            rw [F2n w] at hj
            exact z3 j hj
          | some k =>
            rw [F2s w] at hj
            rcases mig2 w a hj with y | y
            · rw [z1] at y
              cases y
            · exact z3 j y
    cases r with
    | dat d => exact hq _ _ B' H' v hr sB ⟨⟨_, C2⟩, ro⟩
    | sl i => exact ro.elim
    | new o =>
      obtain ⟨p, fp, rfl, p2, p3⟩ := ro
      refine hq _ _ B' H' _ hr sB ⟨_, C2.push rfl p2 (fun b hb => ?_) (fun b hb => (p3 b hb).1) (fun j b hj hb => ?_) (fun b hb => ?_)⟩
      · cases y : G.H b with
        | none => rfl
        | some o' => exact absurd (p3 b hb).2.1 (C.keep b (by rw [y]; simp))
      · cases w : posO avs j with
        | none =>
          rw [F2n w] at hj
          exact C.alive j b hj (p3 b hb).2.1
        | some k =>
          rw [F2s w] at hj
          exact (p3 b hb).2.2 k hj
      · cases y : G.pin b with
        | none => rfl
        | some o' =>
          have := (C.pin b o' y).1
          rw [(p3 b hb).2.1] at this
          cases this
end
end Cl

namespace Cl
open PySem PySem.Spec PyProof.Rows L2

section
variable {X : Cx} {PL : PoolP}
/-! ### a call as an expression -/
def dCall (n : Nat) (F : FS) (dvs : List Dt) (dv : DV) : DE := fun c Q => dv c fun avs c1 => (avs ++ dvs.map AV.dat).length = n ∧ callQ F (avs ++ dvs.map AV.dat) c1 Q
theorem AVOk.app {K : PySem.W.Frag} {B : Hp} {σ : L2.St} : ∀ {avs bvs : List AV} {vs ws : List V}, AVOk K B σ avs vs → AVOk K B σ bvs ws → AVOk K B σ (avs ++ bvs) (vs ++ ws)
  | [], _, vs, ws, h, h' => by
    have e : vs = [] := h
    rw [e]
    exact h'
  | .dat d :: r, _, vs, ws, h, h' => by
    obtain ⟨v, us, h1, h2, h3⟩ := h
    exact ⟨v, us ++ ws, by rw [h1]; rfl, h2, h3.app h'⟩
  | .own i :: r, _, vs, ws, h, h' => by
    obtain ⟨v, us, h1, h2, h3⟩ := h
    exact ⟨v, us ++ ws, by rw [h1]; rfl, h2, h3.app h'⟩
theorem AVOk.dats {K : PySem.W.Frag} {B : Hp} {σ : L2.St} : ∀ {ds : List Dt} {vs : List V}, RepL K B ds vs → AVOk K B σ (ds.map AV.dat) vs
  | [], vs, h => by unfold RepL at h; exact h
  | d :: r, vs, h => by
    unfold RepL at h
    obtain ⟨x, q, h1, h2, h3⟩ := h
    exact ⟨x, q, h1, h2, AVOk.dats h3⟩
/-- what a caller knows of a def -/
structure Def (P : Program) (w : World) (K : PySem.W.Frag) (mg : Str → Option Value) (base : Heap) (PL : PoolP) (CX : CXT) (k : Nat) (x : Str) (st : Stmt) (dvs : List V) (kws : List (Str × V)) (ps : List Str) (F : FS) : Prop where
  ex : ∃ f fd, FnOk P w K mg base CX k f fd ps (spC K PL ps.length F) ∧ mg x = some (.ref f) ∧ PySem.W.keepIn K (.ref f) = true ∧ FunD K x x (defArgs st) (defBody st) (defScope st) dvs kws f fd
theorem Def.imp {P : Program} {w : World} {K : PySem.W.Frag} {mg : Str → Option Value} {base : Heap} {PL : PoolP} {CX : CXT} {k : Nat} {x : Str} {st : Stmt} {dvs : List V} {kws : List (Str × V)} {ps : List Str} {F F' : FS} (D : Def P w K mg base PL CX k x st dvs kws ps F) (h : ∀ as R, F' as R → F as R) : Def P w K mg base PL CX k x st dvs kws ps F' := by
  obtain ⟨f, fd, h1, h2, h3, h4⟩ := D.ex
  refine ⟨f, fd, h1.imp fun vs H Q E ⟨B, as, fs, R, g1, g2, g3, g4, g5, g6⟩ => ⟨B, as, fs, R, g1, g2, g3, g4, h _ _ g5, g6⟩, h2, h3, h4⟩
theorem Def.mono {P : Program} {w : World} {K : PySem.W.Frag} {mg : Str → Option Value} {base : Heap} {PL : PoolP} {CX : CXT} {j k : Nat} {x : Str} {st : Stmt} {dvs : List V} {kws : List (Str × V)} {ps : List Str} {F : FS} (D : Def P w K mg base PL CX j x st dvs kws ps F) (h : j ≤ k) : Def P w K mg base PL CX k x st dvs kws ps F := by
  obtain ⟨f, fd, h1, h2, h3, h4⟩ := D.ex
  exact ⟨f, fd, h1.mono h, h2, h3, h4⟩
/-- the last arguments by their defaults: dds what they are -/
theorem qe_call {P : Program} {w : World} {K : PySem.W.Frag} {mg : Str → Option Value} {base : Heap} {CX : CXT} {k : Nat} {x : Str} {st : Stmt} {dvs : List V} {kws : List (Str × V)} {ps : List Str} {F : FS} {p pos : Pos} {e : Expr} {es : List Expr} {dv : DV} {dds : List Dt} {E : XK} (D : Def P w K mg base PL CX k x st dvs kws ps F) (hP : X.prog = P) (hw : X.w = w) (hK : X.K = K) (hmg : X.mg = mg) (hb : X.base = base)
    (hbi : ∀ {f : Addr} {fd : FuncData}, FunD K x x (defArgs st) (defBody st) (defScope st) dvs kws f fd → ∃ ws ds, Vals ws ds ∧ (∀ B, RepL K B dds ws) ∧ Binds K fd ps ds)
    (ha : QV X PL (e :: es) dv) (hr : Room k X.A) (hg : Gl X x) (hx : Passes CX X E) (hdb : (x == ("__debug__" : Str)) = false := by decide) (he : starEach (e :: es) X.env = (false, eval e X.env) :: starEach es X.env := by rfl) (hpl : (backTo pos (starEach es X.env)).any (·.1) = false := by rfl) :
    QE X PL (.Call (.Name x p) (e :: es) [] pos) (dCall ps.length F dds dv) := by
  subst hP hw hK hmg hb
  obtain ⟨f, fd, hf, hm, hk, hfd⟩ := D.ex
  obtain ⟨ws, ds, hv, hrep, hbd⟩ := hbi hfd
  refine q_of (pe_call hf hr hg hm hk hbd hv hx ha.pa hdb he hpl) fun G B c σ H Qd Q hc hd2 hq => ?_
  refine ⟨G, B, c, _, hc, hd2, fun avs c1 B1 H1 vs ⟨hn, h1⟩ e1 hc1 hv => ?_⟩
  exact call_ok hc1 (hv.app (AVOk.dats (hrep B1))) hn h1 fun r c' B' H' v q e2 cr => hq r c' B' H' v q (e1.trans e2) cr
theorem qe_call0 {P : Program} {w : World} {K : PySem.W.Frag} {mg : Str → Option Value} {base : Heap} {CX : CXT} {k : Nat} {x : Str} {st : Stmt} {dvs : List V} {kws : List (Str × V)} {ps : List Str} {F : FS} {p pos : Pos} {dds : List Dt} {E : XK} (D : Def P w K mg base PL CX k x st dvs kws ps F) (hP : X.prog = P) (hw : X.w = w) (hK : X.K = K) (hmg : X.mg = mg) (hb : X.base = base)
    (hbi : ∀ {f : Addr} {fd : FuncData}, FunD K x x (defArgs st) (defBody st) (defScope st) dvs kws f fd → ∃ ws ds, Vals ws ds ∧ (∀ B, RepL K B dds ws) ∧ Binds K fd ps ds)
    (hr : Room k X.A) (hg : Gl X x) (hx : Passes CX X E) (hdb : (x == ("__debug__" : Str)) = false := by decide) : QE X PL (.Call (.Name x p) [] [] pos) (dCall ps.length F dds vNil) := by
  subst hP hw hK hmg hb
  obtain ⟨f, fd, hf, hm, hk, hfd⟩ := D.ex
  obtain ⟨ws, ds, hv, hrep, hbd⟩ := hbi hfd
  refine q_of (pe_call0 hf hr hg hm hk hbd hv hx hdb) fun G B c σ H Qd Q hc hd2 hq => ?_
  obtain ⟨hn, h1⟩ := hd2
  exact call_ok (E := E) hc (show AVOk X.K B σ (dds.map AV.dat) ws from AVOk.dats (hrep B)) hn h1 hq
/-! ### keywords -/
structure QK (X : Cx) (PL : PoolP) (kws : List Keyword) (dv : DV) : Prop where
  pk : PK X kws (lV X.K PL dv)
theorem PK.weak {kws : List Keyword} {t t' : TA} (h : PK X kws t) (hw : ∀ σ H Q, t' σ H Q → t σ H Q) : PK X kws t' := ⟨fun pos pins s σ H Q I q => h.run pos pins s σ H Q I (hw _ _ _ q)⟩
theorem qk_nil : QK X PL [] vNil := ⟨PK.weak pk_nil fun σ H Q ⟨G, B, c, Qd, h1, h2, h3⟩ => h3 [] c B H [] h2 (Same.refl B) h1 rfl⟩
theorem qk_cons {nm : Option Str} {e : Expr} {kpos : Pos} {kws : List Keyword} {de : DE} {dv : DV} (h : QE X PL e de) (h' : QK X PL kws dv) : QK X PL (⟨nm, e, kpos⟩ :: kws) (vCons de dv) :=
  ⟨PK.weak (pk_cons h.pe h'.pk) fun σ H Q ⟨G, B, c, Qd, hc, hd2, hq⟩ => by
    refine ⟨G, B, c, _, hc, hd2, fun r c1 B1 H1 v h1 e1 cr => ?_⟩
    obtain ⟨B2, c2, d, e2, hc2, rd, h2⟩ := asD_ok cr h1
    refine ⟨G, B2, c2, _, hc2, h2, fun rs c3 B3 H2 vs h3 e3 hc3 hl => ?_⟩
    exact hq _ c3 B3 H2 _ h3 ((e1.trans e2).trans e3) hc3 ⟨v, vs, rfl, rd.mono e3, hl⟩⟩
/-- gA: the positional arguments and the keywords' in the parameters' order, defaults among them -/
def dCallK (n np nk : Nat) (F : FS) (gA : List AV → List AV → List AV) (dv dk : DV) : DE := fun c Q => dv c fun avs c1 => dk c1 fun kvs c2 => (avs.length = np ∧ kvs.length = nk ∧ (gA avs kvs).length = n) ∧ callQ F (gA avs kvs) c2 Q
theorem qe_callN {P : Program} {w : World} {K : PySem.W.Frag} {mg : Str → Option Value} {base : Heap} {CX : CXT} {k n : Nat} {x : Str} {st : Stmt} {dvs : List V} {kws : List (Str × V)} {ps ks : List Str} {F : FS} {p pos : Pos} {e : Expr} {es : List Expr} {kwl : List Keyword} {dv dk : DV} {gA : List AV → List AV → List AV} {E : XK}
    (D : Def P w K mg base PL CX k x st dvs kws ps F) (hP : X.prog = P) (hw : X.w = w) (hK : X.K = K) (hmg : X.mg = mg) (hb : X.base = base)
    (hbi : ∀ {f : Addr} {fd : FuncData}, FunD K x x (defArgs st) (defBody st) (defScope st) dvs kws f fd → ∃ g gV, KBn K fd ps n ks g gV ∧ ∀ B σ avs kvs vs zs, avs.length = n → kvs.length = ks.length → AVOk K B σ avs vs → AVOk K B σ kvs zs → AVOk K B σ (gA avs kvs) (gV vs zs))
    (ha : QV X PL (e :: es) dv) (hkw : QK X PL kwl dk) (hr : Room k X.A) (hg : Gl X x) (hx : Passes CX X E) (hall : (backToKw pos (keywordEach kwl X.env)).all (·.1.isSome) = true := by rfl) (hks : (backToKw pos (keywordEach kwl X.env)).filterMap (·.1) = ks := by rfl)
    (hdb : (x == ("__debug__" : Str)) = false := by decide) (he : starEach (e :: es) X.env = (false, eval e X.env) :: starEach es X.env := by rfl)
    (hpl : ((backTo pos (starEach (e :: es) X.env)).any (·.1) || (backToKw pos (keywordEach kwl X.env)).any (·.1.isNone)) = false := by rfl) :
    QE X PL (.Call (.Name x p) (e :: es) kwl pos) (dCallK ps.length n ks.length F gA dv dk) := by
  subst hP hw hK hmg hb
  obtain ⟨f, fd, hf, hm, hk, hfd⟩ := D.ex
  obtain ⟨g, gV, hkb, hrel⟩ := hbi hfd
  refine q_of (pe_callN hf hr hg hm hk hkb hx ha.pa hkw.pk hall hks hdb he hpl) fun G B c σ H Qd Q hc hd2 hq => ?_
  refine ⟨G, B, c, _, hc, hd2, fun avs c1 B1 H1 vs q1 e1 hc1 hv => ?_⟩
  refine ⟨G, B1, c1, _, hc1, q1, fun kvs c2 B2 H2 zs q2 e2 hc2 hz => ?_⟩
  obtain ⟨⟨l1, l2, l3⟩, q3⟩ := q2
  have hv2 := hv.mono e2
  exact ⟨hv2.length.trans l1, hz.length.trans l2, call_ok (E := E) hc2 (hrel B2 σ avs kvs vs zs l1 l2 hv2 hz) l3 q3 fun r c' B' H' v q e3 cr => hq r c' B' H' v q ((e1.trans e2).trans e3) cr⟩
/-- keywords alone -/
theorem qe_callN0 {P : Program} {w : World} {K : PySem.W.Frag} {mg : Str → Option Value} {base : Heap} {CX : CXT} {k : Nat} {x : Str} {st : Stmt} {dvs : List V} {kws : List (Str × V)} {ps ks : List Str} {F : FS} {p pos : Pos} {kwl : List Keyword} {dk : DV} {gA : List AV → List AV → List AV} {E : XK}
    (D : Def P w K mg base PL CX k x st dvs kws ps F) (hP : X.prog = P) (hw : X.w = w) (hK : X.K = K) (hmg : X.mg = mg) (hb : X.base = base)
    (hbi : ∀ {f : Addr} {fd : FuncData}, FunD K x x (defArgs st) (defBody st) (defScope st) dvs kws f fd → ∃ g gV, KBn K fd ps 0 ks g gV ∧ ∀ B σ avs kvs vs zs, avs.length = 0 → kvs.length = ks.length → AVOk K B σ avs vs → AVOk K B σ kvs zs → AVOk K B σ (gA avs kvs) (gV vs zs))
    (hkw : QK X PL kwl dk) (hr : Room k X.A) (hg : Gl X x) (hx : Passes CX X E) (hall : (backToKw pos (keywordEach kwl X.env)).all (·.1.isSome) = true := by rfl) (hks : (backToKw pos (keywordEach kwl X.env)).filterMap (·.1) = ks := by rfl)
    (hdb : (x == ("__debug__" : Str)) = false := by decide) (hpl : ((backTo pos (starEach [] X.env)).any (·.1) || (backToKw pos (keywordEach kwl X.env)).any (·.1.isNone)) = false := by rfl) :
    QE X PL (.Call (.Name x p) [] kwl pos) (dCallK ps.length 0 ks.length F gA vNil dk) := by
  subst hP hw hK hmg hb
  obtain ⟨f, fd, hf, hm, hk, hfd⟩ := D.ex
  obtain ⟨g, gV, hkb, hrel⟩ := hbi hfd
  have key : PE X (.Call (.Name x p) [] kwl pos) (fun σ H Q => lV X.K PL dk σ H fun zs H2 => zs.length = ks.length ∧ spC X.K PL ps.length F (gV [] zs) H2 Q E) := by
    refine ⟨fun pins s σ H Q I hw => wpAny_Call_Name_kw (ld_glob I hg hm ?_ hdb)⟩
    refine PySem.W.callWith_KW0 (h₀ := X.base) I.ok.mod.kin hk hall (thn (hkw.pk.run pos pins s σ H _ I hw) fun ws s2 ⟨zs, H2, I2, rz, l2, q2⟩ => ⟨I2.kIn, ?_⟩) hpl
    rw [hks]
    exact run_fnN (us := []) (vs := []) hf hr hkb hx I2 .nil rz rfl l2 q2
  refine q_of key fun G B c σ H Qd Q hc hd2 hq => ?_
  refine ⟨G, B, c, _, hc, hd2, fun kvs c2 B2 H2 zs q2 e2 hc2 hz => ?_⟩
  obtain ⟨⟨l1, l2, l3⟩, q3⟩ := q2
  exact ⟨hz.length.trans l2, call_ok (E := E) hc2 (hrel B2 σ [] kvs [] zs rfl l2 rfl hz) l3 q3 fun r c' B' H' v q e3 cr => hq r c' B' H' v q (e2.trans e3) cr⟩

/-! ### a def, by its body -/
def toSlot : AArg → Slot
  | .dat d => .dat d
  | .ob o => .arg o
def c0 (as : List AArg) (m : Nat) : CEnv := as.map toSlot ++ List.replicate (m - as.length) .no
def backA : List AArg → CEnv → Option (List AArg)
  | [], _ => some []
  | .dat d :: as, _ :: c => (backA as c).map (.dat d :: ·)
  | .ob _ :: as, .arg o :: c => (backA as c).map (.ob o :: ·)
  | _, _ => none
def bk (as : List AArg) (c : CEnv) (k : List AArg → Prop) : Prop := match backA as c with
  | some as' => k as'
  | none => False
def retB (as : List AArg) (R : Res → List AArg → Prop) (r : Res) (c : CEnv) : Prop := match r with
  | .dat d => bk as c (R (.dat d))
  | .new o => bk as c (R (.new o))
  | .sl i => match gt c i with
    | .own o => bk as c (R (.new o))
    | _ => False
def fnEnds (as : List AArg) (R : Res → List AArg → Prop) : CEnds := { nx := fun c => bk as c (R (.dat .non)), rt := retB as R }
theorem backA_ok : ∀ {as : List AArg} {c : CEnv} {as' : List AArg}, backA as c = some as' → as'.length = as.length ∧ ∀ (k : Nat) (a : AArg), as'[k]? = some a → (∃ d, a = .dat d ∧ as[k]? = some (.dat d)) ∨ (∃ o o', a = .ob o ∧ as[k]? = some (.ob o') ∧ c[k]? = some (.arg o))
  | [], c, as', h => by
    have e : [] = as' := by simpa [backA] using h
    subst e
    exact ⟨rfl, fun k a e => by simp at e⟩
  | .dat d :: as, [], as', h => by cases h
  | .ob o :: as, [], as', h => by cases h
  | .dat d :: as, s :: c, as', h => by
    unfold backA at h
    cases g : backA as c with
    | none => rw [g] at h; cases h
    | some r =>
      rw [g] at h
      have e : .dat d :: r = as' := by simpa using h
      subst e
      obtain ⟨h1, h2⟩ := backA_ok g
      refine ⟨by simp [h1], fun k a e => ?_⟩
      cases k with
      | zero =>
        have e' : AArg.dat d = a := by simpa using e
        subst e'
        exact .inl ⟨d, rfl, rfl⟩
      | succ k =>
        rcases h2 k a (by simpa using e) with ⟨d', q1, q2⟩ | ⟨o, o', q1, q2, q3⟩
        · exact .inl ⟨d', q1, by simpa using q2⟩
        · exact .inr ⟨o, o', q1, by simpa using q2, by simpa using q3⟩
  | .ob u :: as, .arg o :: c, as', h => by
    unfold backA at h
    cases g : backA as c with
    | none => rw [g] at h; cases h
    | some r =>
      rw [g] at h
      have e : .ob o :: r = as' := by simpa using h
      subst e
      obtain ⟨h1, h2⟩ := backA_ok g
      refine ⟨by simp [h1], fun k a e => ?_⟩
      cases k with
      | zero =>
        have e' : AArg.ob o = a := by simpa using e
        subst e'
        exact .inr ⟨o, u, rfl, rfl, rfl⟩
      | succ k =>
        rcases h2 k a (by simpa using e) with ⟨d', q1, q2⟩ | ⟨o, o', q1, q2, q3⟩
        · exact .inl ⟨d', q1, by simpa using q2⟩
        · exact .inr ⟨o, o', q1, by simpa using q2, by simpa using q3⟩
  | .ob u :: as, .no :: c, as', h => by cases h
  | .ob u :: as, .dat _ :: c, as', h => by cases h
  | .ob u :: as, .own _ :: c, as', h => by cases h
theorem backA_kinds : ∀ {as : List AArg} {c : CEnv} {as' : List AArg}, backA as c = some as' → ∀ (k : Nat) (o : Ob), as[k]? = some (.ob o) → ∃ o', as'[k]? = some (.ob o')
  | as, c, as', h, k, o, e => by
    obtain ⟨h1, h2⟩ := backA_ok h
    have hk : k < as'.length := by
      rw [h1]
      exact (List.getElem?_eq_some_iff.mp e).1
    rcases h2 k _ (List.getElem?_eq_getElem hk) with ⟨d, _, q⟩ | ⟨o', _, q1, _, _⟩
    · rw [e] at q
      cases q
    · exact ⟨o', by rw [List.getElem?_eq_getElem hk, q1]⟩
theorem start_get {N : List Str} {vs : List V} {i : Nat} {v : V} (h : vs[i]? = some v) : (L2.start N vs)[i]? = some (some v) := by
  unfold L2.start
  have hi := (List.getElem?_eq_some_iff.mp h).1
  rw [List.getElem?_append_left (by simpa using hi), List.getElem?_map, h]
  rfl
/-- the state at a def's entry -/
theorem conc_start {K : PySem.W.Frag} {B H : Hp} {n : Nat} {as : List AArg} {vs : List V} {fs : Nat → List Addr} {N : List Str} (hn : as.length = n) (hN : n ≤ N.length) (sB : Same B H) (ao : ArgsOk K PL B H as vs fs) (ap : Apart B H n fs) :
    ConcF K PL ⟨B, H, fun i => match as[i]?, vs[i]? with
      | some (.ob _), some (.ref p) => some p
      | _, _ => none, fs, fun _ => none⟩ B (c0 as N.length) (L2.start N vs) H fs := by
  obtain ⟨al, ag⟩ := ao
  refine ⟨sB, Same.refl B, fun a o q => .inl q, fun a o q _ => q, fun a q => q, ?_, fun i s hs => ?_, fun i hi => ?_, ap.disj, ap.off, fun a o q => by cases q⟩
  · unfold c0 L2.start
    rw [List.length_append, List.length_map, List.length_replicate, List.length_append, List.length_map, List.length_replicate, al]
  · unfold c0 at hs
    by_cases hi : i < as.length
    · rw [List.getElem?_append_left (by simpa using hi), List.getElem?_map, List.getElem?_eq_getElem hi] at hs
      have es : toSlot as[i] = s := by simpa using hs
      subst es
      obtain ⟨v, h1, h2⟩ := ag i _ (List.getElem?_eq_getElem hi)
      refine ⟨some v, start_get h1, ?_⟩
      generalize hav : as[i] = a at *
      have ea : as[i]? = some a := by rw [List.getElem?_eq_getElem hi, hav]
      cases a with
      | dat d => exact ⟨h2.1, v, rfl, h2.2⟩
      | ob o =>
        obtain ⟨p, rfl, h3⟩ := h2
        refine ⟨p, rfl, ?_, h3, fun b hb => .inr hb⟩
        show (match as[i]?, vs[i]? with
          | some (.ob _), some (.ref p) => some p
          | _, _ => none) = _
        rw [ea, h1]
    · rw [List.getElem?_append_right (by simpa using hi)] at hs
      rw [List.getElem?_replicate] at hs
      split at hs
      · rename_i hlt
        cases hs
        have hi2 : i < (L2.start N vs).length := by
          unfold L2.start
          rw [List.length_append, List.length_map, List.length_replicate, ← al]
          rw [List.length_map] at hlt
          omega
        exact ⟨_, List.getElem?_eq_getElem hi2, ap.out i (by omega)⟩
      · cases hs
  · unfold c0 at hi
    rw [List.length_append, List.length_map, List.length_replicate] at hi
    exact ap.out i (by omega)
/-- handing back -/
theorem conc_back {K : PySem.W.Frag} {B H : Hp} {n : Nat} {as as' : List AArg} {vs : List V} {fs : Nat → List Addr} {G : Ent} {B' : Hp} {c' : CEnv} {σ' : L2.St} {H' : Hp} {F' : Nat → List Addr} (hn : as.length = n) (hGB : G.B = B) (hGH : G.H = H) (hGf : G.fp = fs)
    (hGo : ∀ i o, as[i]? = some (.ob o) → ∀ p, G.ow i = some p → vs[i]? = some (.ref p)) (ao : ArgsOk K PL B H as vs fs) (C : ConcF K PL G B' c' σ' H' F') (hb : backA as c' = some as') :
    ∃ fs' : Nat → List Addr, (∀ k b, b ∈ fs' k → b ∈ F' k ∧ ∃ o, c'[k]? = some (.arg o)) ∧ Same B B' ∧ (∀ a o, B' a = some o → B a = some o ∨ H a = none) ∧ Same B' H' ∧ (∀ a o, H a = some o → (∀ k, a ∉ fs k) → H' a = some o) ∧ (∀ a, H a ≠ none → H' a ≠ none) ∧
      ArgsOk K PL B' H' as' vs fs' ∧ Apart B' H' n fs' ∧ (∀ k, ∀ b ∈ fs' k, H b = none ∨ b ∈ fs k) ∧ (∀ (k : Nat) (o : Ob), as[k]? = some (AArg.ob o) → ∃ o' : Ob, as'[k]? = some (AArg.ob o')) := by
  subst hGB hGH hGf
  obtain ⟨h1, h2⟩ := backA_ok hb
  let fs' : Nat → List Addr := fun k => match as'[k]? with
    | some (.ob _) => F' k
    | _ => []
  have mem : ∀ k b, b ∈ fs' k → b ∈ F' k ∧ ∃ o, as'[k]? = some (.ob o) := fun k b hb' => by
    have hb2 : b ∈ (match as'[k]? with
      | some (.ob _) => F' k
      | _ => []) := hb'
    cases q : as'[k]? with
    | none => rw [q] at hb2; simp at hb2
    | some a =>
      rw [q] at hb2
      cases a with
      | dat d => simp at hb2
      | ob o => exact ⟨hb2, o, rfl⟩
  have argK : ∀ (k : Nat) (o : Ob), as'[k]? = some (AArg.ob o) → c'[k]? = some (Slot.arg o) ∧ ∃ o' : Ob, as[k]? = some (AArg.ob o') := fun k o e => by
    rcases h2 k _ e with ⟨d, q, _⟩ | ⟨u, u', q1, q2, q3⟩
    · cases q
    · cases q1
      exact ⟨q3, u', q2⟩
  refine ⟨fs', fun k b hb' => ?_, C.bb, C.new, C.ex, C.frame, C.keep, ⟨by rw [h1, ao.1], fun k a e => ?_⟩, ⟨fun k hk => ?_, fun k l hkl b hk hl => ?_, fun k b hb' => C.off k b (mem k b hb').1⟩, fun k b hb' => ?_, backA_kinds hb⟩
  · obtain ⟨m1, o, m2⟩ := mem k b hb'
    exact ⟨m1, o, (argK k o m2).1⟩
  · rcases h2 k a e with ⟨d, rfl, q⟩ | ⟨o, o', rfl, q2, q3⟩
    · obtain ⟨v, p1, p2, p3⟩ := ao.2 k _ q
      refine ⟨v, p1, ?_, p3.mono C.bb⟩
      show (match as'[k]? with
        | some (.ob _) => F' k
        | _ => []) = _
      rw [e]
    · obtain ⟨x, s1, p, s2, s3, s4, _⟩ := C.slots k _ q3
      refine ⟨.ref p, hGo k o' q2 p s3, p, rfl, ?_⟩
      have : fs' k = F' k := by
        show (match as'[k]? with
          | some (.ob _) => F' k
          | _ => []) = _
        rw [e]
      rw [this]
      exact s4
  · show (match as'[k]? with
      | some (.ob _) => F' k
      | _ => []) = _
    rw [List.getElem?_eq_none (by omega)]
  · exact C.disj k l hkl b (mem k b hk).1 (mem l b hl).1
  · obtain ⟨m1, o, m2⟩ := mem k b hb'
    obtain ⟨x, s1, p, s2, s3, s4, s5⟩ := C.slots k _ (argK k o m2).1
    exact s5 b m1
theorem bk_ok {as : List AArg} {c : CEnv} {k : List AArg → Prop} (h : bk as c k) : ∃ as', backA as c = some as' ∧ k as' := by
  unfold bk at h
  cases g : backA as c with
  | none => simp only [g] at h
  | some as' =>
    simp only [g] at h
    exact ⟨as', rfl, h⟩
theorem fnC {P : Program} {w : World} {K : PySem.W.Frag} {mg : Str → Option Value} {base : Heap} {x qual : Str} {st : Stmt} {dvs : List V} {kws : List (Str × V)} {f : Addr} {fd : FuncData} {N ps : List Str} {k : Nat} {F : FS} {ds : DS} (Fn : FunD K x qual (defArgs st) (defBody st) (defScope st) dvs kws f fd) (Sc : FnScope N ps (defScope st))
    (body : ∀ (cdv : Value) (A : Around) (outer : List Env) (s : Shared) (H : Hp) (E : XK), Room k (A.deeper (envOfC qual (defScope st) s.heap.objs.size f cdv)) → QSs (cxOf CX0 P w K mg base N qual (defScope st) f cdv A outer s H E).nox PL (defBody st) ds)
    (red : ∀ as R, as.length = ps.length → F as R → ds (fnEnds as R) (c0 as N.length)) : FnOk P w K mg base CX0 (k + 1) f fd ps (spC K PL ps.length F) := by
  have hN : ps.length ≤ N.length := by
    have := congrArg List.length Sc.pre
    rw [List.length_take] at this
    omega
  refine Fn.ok Sc (fun vs H Q E h => ?_) fun cdv A outer s H vs Q E hr h => ?_
  · obtain ⟨B, as, fs, R, h1, _, h3, _⟩ := h
    rw [← h3.1, h1]
  · obtain ⟨B, as, fs, R, hn, sB, ao, ap, hF, q⟩ := h
    have fin : ∀ (G : Ent), G.B = B → G.H = H → G.fp = fs → (∀ i o, as[i]? = some (.ob o) → ∀ p, G.ow i = some p → vs[i]? = some (.ref p)) → ∀ (r : Res) (c' : CEnv) (B' : Hp) (σ' : L2.St) (H' : Hp) (v : V), retB as R r c' → CR K PL G B' c' σ' H' r v → Q v H' := by
      intro G g1 g2 g3 g4 r c' B' σ' H' v hr' cr
      cases r with
      | dat d =>
        obtain ⟨as', b1, b2⟩ := bk_ok (show bk as c' (R (.dat d)) from hr')
        obtain ⟨⟨F', C⟩, rd⟩ := cr
        obtain ⟨fs', m0, m1, m2, m3, m4, m5, m6, m7, m8, m9⟩ := conc_back hn g1 g2 g3 g4 ao C b1
        exact q _ as' B' H' v fs' b2 m1 m2 m3 m4 m5 m6 m7 m8 m9 rd
      | new o =>
        obtain ⟨as', b1, b2⟩ := bk_ok (show bk as c' (R (.new o)) from hr')
        obtain ⟨F2, C2⟩ := (show Conc K PL G B' (c' ++ [.own o]) (σ' ++ [some v]) H' from cr)
        have C := C2.pop
        obtain ⟨fs', m0, m1, m2, m3, m4, m5, m6, m7, m8, m9⟩ := conc_back hn g1 g2 g3 g4 ao C b1
        have hl : c'.length = σ'.length := by simpa using C2.len
        obtain ⟨y, s1, p, s2, s3, s4⟩ := C2.slots c'.length (.own o) (by rw [List.getElem?_append_right (Nat.le_refl _)]; simp)
        rw [hl, List.getElem?_append_right (Nat.le_refl _)] at s1
        have ey : y = some v := by simpa using s1.symm
        subst ey
        have ev : v = .ref p := Option.some.inj s2
        refine q _ as' B' H' v fs' b2 m1 m2 m3 m4 m5 m6 m7 m8 m9 ⟨p, F2 c'.length, ev, s3, fun b hb => ⟨C2.off _ b hb, by rw [← g2]; exact s4 b hb, fun k hk => ?_⟩⟩
        obtain ⟨z1, o2, z2⟩ := m0 k b hk
        have hk2 : k < c'.length := (List.getElem?_eq_some_iff.mp z2).1
        simp only [hk2, if_true] at z1
        exact C2.disj k c'.length (by omega) b z1 hb
      | sl i =>
        have hr2 : (match gt c' i with
          | .own o => bk as c' (R (.new o))
          | _ => False) := hr'
        cases g : gt c' i with
        | no => simp only [g] at hr2
        | dat d => simp only [g] at hr2
        | arg o => simp only [g] at hr2
        | own o =>
          simp only [g] at hr2
          obtain ⟨as', b1, b2⟩ := bk_ok hr2
          obtain ⟨⟨F', C⟩, rv⟩ := cr
          obtain ⟨fs', m0, m1, m2, m3, m4, m5, m6, m7, m8, m9⟩ := conc_back hn g1 g2 g3 g4 ao C b1
          have gi := gt_get g (by simp)
          obtain ⟨y, s1, p, s2, s3, s4⟩ := C.slots i _ gi
          rw [rv] at s1
          cases s1
          cases s2
          refine q _ as' B' H' _ fs' b2 m1 m2 m3 m4 m5 m6 m7 m8 m9 ⟨p, F' i, rfl, s3, fun b hb => ⟨C.off _ b hb, by rw [← g2]; exact s4 b hb, fun k hk => ?_⟩⟩
          obtain ⟨z1, o2, z2⟩ := m0 k b hk
          have hki : k ≠ i := fun e => by
            rw [e, gi] at z2
            cases z2
          exact C.disj k i hki b z1 hb
    refine ⟨_, (body cdv A outer s H E hr).pss.nox, _, B, _, _, ⟨_, conc_start hn (by omega) sB ao ap⟩, red as R hn hF, ?_, ?_, ?_, ?_⟩
    · intro c' B' σ' H' hx e hc
      exact fin _ rfl rfl rfl (fun i o e1 p e2 => by
        have e3 : (match as[i]?, vs[i]? with
          | some (.ob _), some (.ref p) => some p
          | _, _ => none) = some p := e2
        rw [e1] at e3
        cases g : vs[i]? with
        | none => rw [g] at e3; cases e3
        | some u =>
          rw [g] at e3
          cases u with
          | ref a => rw [show a = p from Option.some.inj e3]
          | _ => cases e3) (.dat .non) c' B' σ' H' .non hx ⟨hc, by unfold Rep; rfl⟩
    · intro r c' B' σ' H' v hx cr
      exact fin _ rfl rfl rfl (fun i o e1 p e2 => by
        have e3 : (match as[i]?, vs[i]? with
          | some (.ob _), some (.ref p) => some p
          | _, _ => none) = some p := e2
        rw [e1] at e3
        cases g : vs[i]? with
        | none => rw [g] at e3; cases e3
        | some u =>
          rw [g] at e3
          cases u with
          | ref a => rw [show a = p from Option.some.inj e3]
          | _ => cases e3) r c' B' σ' H' v hx cr
    · intro c' B' σ' H' hx e hc
      exact hx.elim
    · intro c' B' σ' H' hx e hc
      exact hx.elim
end
end Cl

namespace Cl
open PySem PySem.Spec PyProof.Rows L2

/-! ### list comprehensions -/
section
variable {K : PySem.W.Frag} {PL : PoolP} {G : Ent} {B : Hp} {c c' : CEnv} {σ σ' : L2.St} {H : Hp}
open Classical in
/-- other slots, of which each is as before, forgotten, or plain data -/
theorem Conc.swap (h : Conc K PL G B c σ H) (hl : c'.length = σ'.length) (hl2 : c'.length = c.length) (hs : ∀ i, i < c'.length → (c'[i]? = c[i]? ∧ σ'[i]? = σ[i]?) ∨ c'[i]? = some .no ∨ ∃ d v, c'[i]? = some (.dat d) ∧ σ'[i]? = some (some v) ∧ Rep K B d v) : Conc K PL G B c' σ' H := by
  obtain ⟨F, C⟩ := h
  refine ⟨fun i => if c'[i]? = c[i]? ∧ σ'[i]? = σ[i]? then F i else [], C.ex, C.bb, C.new, C.frame, C.keep, hl, fun i s e => ?_, fun i hi => ?_, fun i j hij b hi hj => ?_, fun i b hb => ?_, fun a o q => ⟨(C.pin a o q).1, (C.pin a o q).2.1, fun i hi => ?_⟩⟩
  · by_cases w : c'[i]? = c[i]? ∧ σ'[i]? = σ[i]?
    · rw [if_pos w]
      obtain ⟨o, h1, h2⟩ := C.slots i s (w.1.symm.trans e)
      exact ⟨o, w.2.trans h1, h2⟩
    · rw [if_neg w]
      have hi := (List.getElem?_eq_some_iff.mp e).1
      rcases hs i hi with z | z | ⟨d, v, z1, z2, z3⟩
      · exact absurd z w
      · rw [e] at z
        cases z
        exact ⟨_, List.getElem?_eq_getElem (by omega), rfl⟩
      · rw [e] at z1
        cases z1
        exact ⟨_, z2, rfl, v, rfl, z3⟩
  · show (if c'[i]? = c[i]? ∧ σ'[i]? = σ[i]? then F i else []) = []
    split
    · exact C.out i (by omega)
    · rfl
  · split at hi
    · split at hj
      · exact C.disj i j hij b hi hj
      · simp at hj
    · simp at hi
  · split at hb
    · exact C.off i b hb
    · simp at hb
  · split at hi
    · exact (C.pin a o q).2.2 i hi
    · simp at hi
end
def wipeC : List Nat → CEnv → CEnv
  | [], c => c
  | v :: vs, c => (wipeC vs c).set v .no
def unw : List Nat → CEnv → CEnv → CEnv
  | [], _, c => c
  | v :: vs, c1, c => (unw vs c1 c).set v (match gt c1 v with
    | .dat d => .dat d
    | _ => .no)
theorem wipeC_length (c : CEnv) : ∀ vs, (wipeC vs c).length = c.length
  | [] => rfl
  | v :: vs => by
    unfold wipeC
    rw [List.length_set, wipeC_length c vs]
theorem wipeC_in {c : CEnv} {i : Nat} (hi : i < c.length) : ∀ {vs : List Nat}, i ∈ vs → (wipeC vs c)[i]? = some .no
  | [], h => by simp at h
  | v :: vs, h => by
    unfold wipeC
    by_cases e : v = i
    · subst e
      exact List.getElem?_set_self (by rw [wipeC_length]; exact hi)
    · rw [List.getElem?_set_ne e]
      exact wipeC_in hi (by simpa [Ne.symm e] using h)
theorem wipeC_out {c : CEnv} {i : Nat} : ∀ {vs : List Nat}, i ∉ vs → (wipeC vs c)[i]? = c[i]?
  | [], h => rfl
  | v :: vs, h => by
    unfold wipeC
    simp only [List.mem_cons, not_or] at h
    rw [List.getElem?_set_ne (Ne.symm h.1)]
    exact wipeC_out h.2
theorem unw_length (c1 c : CEnv) : ∀ vs, (unw vs c1 c).length = c.length
  | [] => rfl
  | v :: vs => by
    unfold unw
    rw [List.length_set, unw_length c1 c vs]
theorem unw_in {c1 c : CEnv} {i : Nat} (hi : i < c.length) : ∀ {vs : List Nat}, i ∈ vs → (unw vs c1 c)[i]? = some (match gt c1 i with
    | .dat d => .dat d
    | _ => .no)
  | [], h => by simp at h
  | v :: vs, h => by
    unfold unw
    by_cases e : v = i
    · subst e
      exact List.getElem?_set_self (by rw [unw_length]; exact hi)
    · rw [List.getElem?_set_ne e]
      exact unw_in hi (by simpa [Ne.symm e] using h)
theorem unw_out {c1 c : CEnv} {i : Nat} : ∀ {vs : List Nat}, i ∉ vs → (unw vs c1 c)[i]? = c[i]?
  | [], h => rfl
  | v :: vs, h => by
    unfold unw
    simp only [List.mem_cons, not_or] at h
    rw [List.getElem?_set_ne (Ne.symm h.1)]
    exact unw_out h.2
section
variable {K : PySem.W.Frag} {PL : PoolP} {G : Ent} {B : Hp} {c c1 : CEnv} {σ : L2.St} {H : Hp} {vs : List Nat}
theorem Conc.wipe (h : Conc K PL G B c σ H) : Conc K PL G B (wipeC vs c) (L2.wipe σ vs) H := by
  refine h.swap (by rw [wipeC_length, L2.wipe_length]; exact h.len) (wipeC_length _ _) fun i hi => ?_
  rw [wipeC_length] at hi
  by_cases e : i ∈ vs
  · exact .inr (.inl (wipeC_in hi e))
  · exact .inl ⟨wipeC_out e, L2.wipe_out e⟩
theorem Conc.unwipe {B1 : Hp} {H1 : Hp} {G1 : Ent} (h : Conc K PL G B c (L2.wipe σ vs) H) (h1 : Conc K PL G1 B1 c1 σ H1) (e : Same B1 B) : Conc K PL G B (unw vs c1 c) σ H := by
  have hl : c.length = σ.length := by rw [h.len, L2.wipe_length]
  refine h.swap (by rw [unw_length]; exact hl) (unw_length _ _ _) fun i hi => ?_
  rw [unw_length] at hi
  by_cases m : i ∈ vs
  · have q := unw_in (c1 := c1) hi m
    cases g : gt c1 i with
    | dat d =>
      rw [g] at q
      obtain ⟨v, z1, z2⟩ := h1.getDat g
      exact .inr (.inr ⟨d, v, q, z1, z2.mono e⟩)
    | no => rw [g] at q; exact .inr (.inl q)
    | own o => rw [g] at q; exact .inr (.inl q)
    | arg o => rw [g] at q; exact .inr (.inl q)
  · exact .inl ⟨unw_out m, (L2.wipe_out m).symm⟩
def pinned (G : Ent) (D : Addr) (xs : List V) : Ent := { G with pin := fun a => if a = D then some (.lst xs) else G.pin a }
theorem Conc.pinNew {D : Addr} (h : Conc K PL G B c σ H) (hD : H D = none) : Conc K PL (pinned G D []) B c σ (upd H D (.lst [])) := by
  obtain ⟨F, C⟩ := h
  have C2 := C.grow (Same.new (o := .lst []) hD)
  refine ⟨F, C2.ex, C2.bb, C2.new, C2.frame, C2.keep, C2.len, C2.slots, C2.out, C2.disj, C2.off, fun a o q => ?_⟩
  have q' : (if a = D then some (HO.lst []) else G.pin a) = some o := q
  by_cases e : a = D
  · rw [if_pos e] at q'
    cases q'
    subst e
    exact ⟨upd_same, C.ex.free hD, fun i hi => C.alive i a hi hD⟩
  · rw [if_neg e] at q'
    exact C2.pin a o q'
theorem Conc.pinAt {D : Addr} {xs : List V} (h : Conc K PL (pinned G D xs) B c σ H) : H D = some (.lst xs) ∧ B D = none := by
  obtain ⟨F, C⟩ := h
  obtain ⟨h1, h2, _⟩ := C.pin D (.lst xs) (by show (if D = D then _ else _) = _; rw [if_pos rfl])
  exact ⟨h1, h2⟩
theorem Conc.pinSet {D : Addr} {xs ys : List V} (h : Conc K PL (pinned G D xs) B c σ H) (hG : G.H D = none) : Conc K PL (pinned G D ys) B c σ (upd H D (.lst ys)) := by
  obtain ⟨F, C⟩ := h
  obtain ⟨p1, p2, p3⟩ := C.pin D (.lst xs) (by show (if D = D then _ else _) = _; rw [if_pos rfl])
  refine ⟨F, fun a o q => ?_, C.bb, C.new, fun a o q nf => ?_, fun a q => ?_, C.len, fun i s hs => ?_, C.out, C.disj, C.off, fun a o q => ?_⟩
  · have : a ≠ D := fun z => by rw [z, p2] at q; cases q
    rw [upd_ne this]
    exact C.ex a o q
  · have : a ≠ D := fun z => by
      rw [z] at q
      rw [show (pinned G D ys).H D = none from hG] at q
      cases q
    rw [upd_ne this]
    exact C.frame a o q nf
  · by_cases e : a = D
    · rw [e, upd_same]
      simp
    · rw [upd_ne e]
      exact C.keep a q
  · obtain ⟨o, h1, h2⟩ := C.slots i s hs
    refine ⟨o, h1, SlotOk.mono (Same.refl B) (fun b hb => ?_) h2⟩
    have : b ≠ D := fun z => p3 i (by rw [← z]; exact hb)
    rw [upd_ne this]
  · have q' : (if a = D then some (HO.lst ys) else G.pin a) = some o := q
    by_cases e : a = D
    · rw [if_pos e] at q'
      cases q'
      subst e
      exact ⟨upd_same, p2, p3⟩
    · rw [if_neg e] at q'
      have q2 := C.pin a o (by show (if a = D then _ else _) = _; rw [if_neg e]; exact q')
      rw [upd_ne e]
      exact q2
theorem Conc.pinOut {D : Addr} {xs : List V} {acc : List Dt} (h : Conc K PL (pinned G D xs) B c σ H) (hG : G.H D = none) (hp : G.pin D = none) (r : RepL K B acc xs) : Conc K PL G B (c ++ [.own (.lst acc)]) (σ ++ [some (.ref D)]) H := by
  obtain ⟨F, C⟩ := h
  obtain ⟨p1, p2, p3⟩ := C.pin D (.lst xs) (by show (if D = D then _ else _) = _; rw [if_pos rfl])
  have C2 : ConcF K PL G B c σ H F := ⟨C.ex, C.bb, C.new, C.frame, C.keep, C.len, C.slots, C.out, C.disj, C.off, fun a o q => C.pin a o (by
    show (if a = D then _ else _) = _
    have : a ≠ D := fun z => by rw [z, hp] at q; cases q
    rw [if_neg this]
    exact q)⟩
  refine ⟨_, C2.push (a := D) (fp := [D]) rfl ⟨rfl, xs, p1, r⟩ (fun b hb => ?_) (fun b hb => ?_) (fun i b hb hb' => ?_) (fun b hb => ?_)⟩
  · have e : b = D := by simpa using hb
    rw [e]
    exact hG
  · have e : b = D := by simpa using hb
    rw [e]
    exact p2
  · have e : b = D := by simpa using hb'
    rw [e] at hb
    exact p3 i hb
  · have e : b = D := by simpa using hb
    rw [e]
    exact hp
end
/-- a target of names alone, all of them the block's own -/
def NG (K : PySem.W.Frag) (PL : PoolP) (vs : List Nat) (g : TG) (dg : DG) : Prop := ∀ G B c d v σ H (Qd : CEnv → Prop) (Q : L2.St → Hp → Prop), Conc K PL G B c σ H → Rep K B d v → dg d c Qd →
  (∀ c' σ', Qd c' → Conc K PL G B c' σ' H → L2.wipe σ' vs = L2.wipe σ vs → Q σ' H) → g v σ H Q
theorem wipe_set {σ : L2.St} {i : Nat} {x : Option V} {vs : List Nat} (h : i ∈ vs) : L2.wipe (σ.set i x) vs = L2.wipe σ vs := by
  apply List.ext_getElem?
  intro j
  by_cases hj : j ∈ vs
  · by_cases hlt : j < σ.length
    · have key : ∀ (τ : L2.St), j < τ.length → (L2.wipe τ vs)[j]? = some none := fun τ hτ => by
        have hl : j < (L2.wipe τ vs).length := by rw [L2.wipe_length]; exact hτ
        cases q : (L2.wipe τ vs)[j]? with
        | none => rw [List.getElem?_eq_none_iff] at q; omega
        | some o =>
          cases o with
          | none => rfl
          | some y => exact absurd hj (L2.wipe_some q).2
      rw [key _ (by rw [List.length_set]; exact hlt), key _ hlt]
    · rw [List.getElem?_eq_none (by rw [L2.wipe_length, List.length_set]; omega), List.getElem?_eq_none (by rw [L2.wipe_length]; omega)]
  · have hij : i ≠ j := fun e => hj (e ▸ h)
    rw [L2.wipe_out hj, L2.wipe_out hj, List.getElem?_set_ne hij]
theorem wipe_wipe {σ : L2.St} {vs : List Nat} : L2.wipe (L2.wipe σ vs) vs = L2.wipe σ vs := by
  apply List.ext_getElem?
  intro j
  by_cases hj : j ∈ vs
  · by_cases hlt : j < σ.length
    · have key : ∀ (τ : L2.St), j < τ.length → (L2.wipe τ vs)[j]? = some none := fun τ hτ => by
        have hl : j < (L2.wipe τ vs).length := by rw [L2.wipe_length]; exact hτ
        cases q : (L2.wipe τ vs)[j]? with
        | none => rw [List.getElem?_eq_none_iff] at q; omega
        | some o =>
          cases o with
          | none => rfl
          | some y => exact absurd hj (L2.wipe_some q).2
      rw [key _ (by rw [L2.wipe_length]; exact hlt), key _ hlt]
    · rw [List.getElem?_eq_none (by rw [L2.wipe_length, L2.wipe_length]; omega), List.getElem?_eq_none (by rw [L2.wipe_length]; omega)]
  · rw [L2.wipe_out hj]
theorem ng_name {K : PySem.W.Frag} {PL : PoolP} {vs : List Nat} {i : Nat} (h : i ∈ vs) : NG K PL vs (L2.gName i) (gN i) := by
  intro G B c d v σ H Qd Q hc rd hd hq
  exact hq _ _ hd (hc.setDat rd) (wipe_set h)
def NGs (K : PySem.W.Frag) (PL : PoolP) (vs : List Nat) (g : TGs) (dg : DGs) : Prop := ∀ G B c ds ws σ H (Qd : CEnv → Prop) (Q : L2.St → Hp → Prop), Conc K PL G B c σ H → RepL K B ds ws → dg ds c Qd →
  (∀ c' σ', Qd c' → Conc K PL G B c' σ' H → L2.wipe σ' vs = L2.wipe σ vs → Q σ' H) → g ws σ H Q
theorem ngs_nil {K : PySem.W.Frag} {PL : PoolP} {vs : List Nat} : NGs K PL vs L2.gNil gsNil := by
  intro G B c ds ws σ H Qd Q hc rd hd hq
  obtain ⟨rfl, h⟩ := hd
  unfold RepL at rd
  exact ⟨rd, hq _ _ h hc rfl⟩
theorem ngs_cons {K : PySem.W.Frag} {PL : PoolP} {vs : List Nat} {g : TG} {dg : DG} {gs : TGs} {dgs : DGs} (h : NG K PL vs g dg) (h' : NGs K PL vs gs dgs) : NGs K PL vs (L2.gCons g gs) (gsCons dg dgs) := by
  intro G B c ds ws σ H Qd Q hc rd hd hq
  cases ds with
  | nil => exact hd.elim
  | cons d r =>
    unfold RepL at rd
    obtain ⟨x, xs, e1, r1, r2⟩ := rd
    refine ⟨x, xs, e1, h G B c d x σ H _ _ hc r1 hd fun c' σ' q hc' w => ?_⟩
    exact h' G B c' r xs σ' H _ _ hc' r2 q fun c2 σ2 q2 hc2 w2 => hq c2 σ2 q2 hc2 (w2.trans w)
theorem ng_tup {K : PySem.W.Frag} {PL : PoolP} {vs : List Nat} {n : Nat} {gs : TGs} {dgs : DGs} (h : NGs K PL vs gs dgs) : NG K PL vs (L2.gTup K n gs) (gT n dgs) := by
  intro G B c d v σ H Qd Q hc rd hd hq
  cases d with
  | tup l =>
    unfold Rep at rd
    obtain ⟨a, xs, e1, r1, r2⟩ := rd
    obtain ⟨h1, h2⟩ := hd
    exact ⟨a, xs, e1, sameT hc.same r1, by rw [r2.length]; exact h1, h G B c l xs σ H _ _ hc r2 h2 hq⟩
  | _ => exact hd.elim
section
variable {X : Cx} {PL : PoolP}
structure QTs (X : Cx) (PL : PoolP) (ifs : List Expr) (dt : DT) : Prop where
  pts : PTs X ifs (lT X.K PL dt)
def dYes : DT := fun c Q => Q true c
theorem qts_nil : QTs X PL [] dYes := ⟨⟨fun pins s σ H Q I ⟨G, B, c, Qd, h1, h2, h3⟩ => pts_nil.run pins s σ H Q I (h3 _ _ _ _ h2 (Same.refl B) h1)⟩⟩
theorem qts_one {e : Expr} {dt : DT} (h : QT X PL e dt) : QTs X PL [e] dt := ⟨pts_one h.pt⟩
def dLc (di : DI) (g : DG) (dt : DT) (de : DE) (vs : List Nat) : DE := fun c Q => di c fun ds c1 => ds.length ≤ 9000000 ∧ ∃ I : Nat → List Dt → CEnv → Prop, I 0 [] (wipeC vs c1) ∧
  (∀ k acc d c', ds[k]? = some d → acc.length ≤ k → I k acc c' → g d c' fun c2 => dt c2 fun b c3 => br b (de c3 fun r c4 => asD r c4 fun e c5 => I (k + 1) (acc ++ [e]) (wipeC vs c5)) (I (k + 1) acc (wipeC vs c3))) ∧ ∀ acc c', acc.length ≤ ds.length → I ds.length acc c' → Q (.new (.lst acc)) (unw vs c1 c')
theorem lc_ok {K : PySem.W.Frag} {di : DI} {g : TG} {dg : DG} {dt : DT} {de : DE} {vs : List Nat} (hn : NG K PL vs g dg) {G : Ent} {B : Hp} {c : CEnv} {σ : L2.St} {H : Hp} {Qd : Res → CEnv → Prop} {Q : VK} (hc : Conc K PL G B c σ H) (hd' : dLc di dg dt de vs c Qd)
    (hq : ∀ r c' B' H' v, Qd r c' → Same B B' → CR K PL G B' c' σ H' r v → Q v H') : tLc (lI K PL di) g (lT K PL dt) (lE K PL de) vs σ H Q := by
  refine ⟨G, B, c, _, hc, hd', fun ds c1 B1 H1 J ⟨hz, I, i0, it, ie⟩ e1 hc1 HJ D hD => ?_⟩
  have hGD : G.H D = none := by
    obtain ⟨F, C⟩ := hc1
    cases q : G.H D with
    | none => rfl
    | some o => exact absurd hD (C.keep D (by rw [q]; simp))
  have hpD : G.pin D = none := by
    obtain ⟨F, C⟩ := hc1
    cases q : G.pin D with
    | none => rfl
    | some o =>
      have := (C.pin D o q).1
      rw [hD] at this
      cases this
  refine ⟨fun i m H' => m = ds.length - i ∧ i ≤ ds.length ∧ ∃ acc xs B2 c2, Same B1 B2 ∧ RepL K B2 acc xs ∧ acc.length ≤ i ∧ Conc K PL (pinned G D xs) B2 c2 (L2.wipe σ vs) H' ∧ I i acc c2, ⟨_, rfl, Nat.zero_le _, [], [], B1, _, Same.refl _, .nil, Nat.le_refl _, hc1.wipe.pinNew hD, i0⟩, ?_⟩
  rintro i m H' ⟨rfl, hil, acc, xs, B2, c2, e2, ra, hal, hc2, hI⟩
  by_cases hlt : i < ds.length
  · refine .inr ⟨HJ.go i H' (e2.trans hc2.same) hlt, fun H2 => ∃ acc xs B3 c3, Same B1 B3 ∧ RepL K B3 acc xs ∧ acc.length ≤ i + 1 ∧ Conc K PL (pinned G D xs) B3 c3 (L2.wipe σ vs) H2 ∧ I (i + 1) acc c3, fun H2 h2 => ⟨ds.length - (i + 1), by omega, rfl, hlt, h2⟩, fun x H3 hy => ?_⟩
    obtain ⟨B3, d, hd3, e3, hc3, rd⟩ := HJ.yld i H' x H3 hlt hy _ B2 c2 _ e2 hc2
    refine hn _ B3 c2 d x _ H3 _ _ hc3 rd (it i acc d c2 hd3 hal hI) fun c4 σ4 q4 hc4 w4 => ?_
    rw [wipe_wipe] at w4
    refine ⟨w4, _, B3, c4, _, hc4, q4, fun b c5 B5 H5 q5 e5 hc5 => ?_⟩
    cases b with
    | false =>
      rw [if_neg Bool.false_ne_true]
      have hc6 := hc5.wipe (vs := vs)
      rw [w4] at hc6
      exact ⟨acc, xs, B5, _, (e2.trans e3).trans e5, ra.mono (e3.trans e5), by omega, hc6, q5⟩
    | true =>
      rw [if_pos rfl]
      refine ⟨_, B5, c5, _, hc5, q5, fun r c6 B6 H6 y q6 e6 cr6 => ?_⟩
      obtain ⟨B7, c7, d7, e7, hc7, rd7, q7⟩ := asD_ok cr6 q6
      have ee : Same B2 B7 := ((e3.trans e5).trans e6).trans e7
      have hl : xs.length = acc.length := ra.length
      refine ⟨xs, hc7.pinAt.1, sz7l (by omega), acc ++ [d7], xs ++ [y], B7, wipeC vs c7, e2.trans ee, (ra.mono ee).app (.one rd7), by simp; omega, ?_, q7⟩
      have hc8 := (hc7.pinSet (ys := xs ++ [y]) hGD).wipe (vs := vs)
      rw [w4] at hc8
      exact hc8
  · have hie : i = ds.length := by omega
    subst hie
    refine .inl ⟨HJ.stop H' (e2.trans hc2.same), ?_⟩
    have hpin := hc2.unwipe hc1 e2
    exact hq _ _ B2 H' _ (ie acc c2 hal hI) (e1.trans e2) (hpin.pinOut hGD hpD ra)
theorem qe_lc {elt tg iter : Expr} {ifs : List Expr} {scope : Scope} {own : List (Str × Nat)} {pos : Pos} {di : DI} {g : TG} {dg : DG} {dt : DT} {de : DE} (hi : QI X PL tg iter di) (hn : NG X.K PL (own.map (·.2)) g dg) (hc : X.calm = true) (hN : X.N.Nodup) (ok : BlkOk X.N X.env.scope scope own)
    (hg : ∀ (s : Shared) (H : Hp) (C : Addr) (cl : List (Str × Addr)) (fp : List Addr), PG (X.blk s H scope (compEnvC scope cl C X.env) fp) tg g) (ht : ∀ (s : Shared) (H : Hp) (C : Addr) (cl : List (Str × Addr)) (fp : List Addr), QTs (X.blk s H scope (compEnvC scope cl C X.env) fp) PL ifs dt)
    (he : ∀ (s : Shared) (H : Hp) (C : Addr) (cl : List (Str × Addr)) (fp : List Addr), QE (X.blk s H scope (compEnvC scope cl C X.env) fp) PL elt de) (hs : ∀ x, foldedSetIterable iter X.env x = pure x := by intro _; rfl) :
    QE X PL (.ListComp elt [⟨tg, iter, ifs, 0⟩] scope pos) (dLc di dg dt de (own.map (·.2))) :=
  q_of (pe_lc (te := lE X.K PL de) (tt := lT X.K PL dt) hc hN hi.pi ok hg (fun s H C cl fp => (ht s H C cl fp).pts) (fun s H C cl fp => (he s H C cl fp).pe) hs) fun _ _ _ _ _ _ _ h1 h2 h3 => lc_ok hn h1 h2 h3
theorem qs_setLc {i : Nat} {y : Str} {py : Pos} {elt tg iter : Expr} {ifs : List Expr} {scope : Scope} {own : List (Str × Nat)} {pos spos : Pos} {di : DI} {g : TG} {dg : DG} {dt : DT} {de : DE} (hi : QI X PL tg iter di) (hn : NG X.K PL (own.map (·.2)) g dg) (hc : X.calm = true) (hN : X.N.Nodup) (hy : X.N[i]? = some y) (hyl : X.env.scope.names.lookup y = some .local)
    (hsw : swapsWith (.ListComp elt [⟨tg, iter, ifs, 0⟩] scope pos) (some (.Name y py)) spos.line X.env = pure true) (ok : BlkOk X.N X.env.scope scope own)
    (hg : ∀ (s : Shared) (H : Hp) (C : Addr) (cl : List (Str × Addr)) (fp : List Addr), PG (X.blk s H scope (compEnvC scope cl C X.env) fp) tg g) (ht : ∀ (s : Shared) (H : Hp) (C : Addr) (cl : List (Str × Addr)) (fp : List Addr), QTs (X.blk s H scope (compEnvC scope cl C X.env) fp) PL ifs dt)
    (he : ∀ (s : Shared) (H : Hp) (C : Addr) (cl : List (Str × Addr)) (fp : List Addr), QE (X.blk s H scope (compEnvC scope cl C X.env) fp) PL elt de) (hs : ∀ x, foldedSetIterable iter X.env x = pure x := by intro _; rfl) :
    QS X PL (.Assign [.Name y py] (.ListComp elt [⟨tg, iter, ifs, 0⟩] scope pos) spos) (dAsg i (dLc di dg dt de (own.map (·.2)))) := by
  refine qs_of (ps_setLc (te := lE X.K PL de) (tt := lT X.K PL dt) hc hN hy hyl hsw hi.pi ok hg (fun s H C cl fp => (ht s H C cl fp).pts) (fun s H C cl fp => (he s H C cl fp).pe) hs) fun G B c σ H E D h1 h2 h3 h4 h5 h6 => ?_
  refine lc_ok hn h1 h2 fun r c1 B1 H1 v q e1 cr => ?_
  obtain ⟨B', c', q1, q0, q2⟩ := put_ok cr q
  exact h3 _ _ _ _ q1 (e1.trans q0) q2
end
end Cl

namespace Cl
open PySem PySem.Spec PyProof.Rows L2

/-! ### how arguments come to parameters -/
def pick {α : Type} (d : α) (p : List (Sum Nat Nat)) (us ws : List α) : List α := p.map fun q => match q with
  | .inl i => us.getD i d
  | .inr j => ws.getD j d
theorem vals_getD {vs : List V} {us : List Value} (r : Vals vs us) (i : Nat) : RelV (vs.getD i .non) (us.getD i .none) := by
  rw [List.getD_eq_getElem?_getD, List.getD_eq_getElem?_getD]
  cases q : vs[i]? with
  | none =>
    rw [r.none_of q]
    rfl
  | some x =>
    obtain ⟨u, h1, h2⟩ := r.get q
    rw [h1]
    exact h2
theorem vals_pick {vs zs : List V} {us ws : List Value} (r : Vals vs us) (r' : Vals zs ws) : ∀ p : List (Sum Nat Nat), Vals (pick .non p vs zs) (pick .none p us ws)
  | [] => .nil
  | .inl i :: p => .cons (vals_getD r i) (vals_pick r r' p)
  | .inr i :: p => .cons (vals_getD r' i) (vals_pick r r' p)
theorem av_getD {K : PySem.W.Frag} {B : Hp} {σ : L2.St} {avs : List AV} {vs : List V} (r : AVOk K B σ avs vs) (i : Nat) {as : List AV} {ws : List V} (h : AVOk K B σ as ws) : AVOk K B σ (avs.getD i (.dat .non) :: as) (vs.getD i .non :: ws) := by
  rw [List.getD_eq_getElem?_getD, List.getD_eq_getElem?_getD]
  cases q : avs[i]? with
  | none =>
    rw [List.getElem?_eq_none (by rw [r.length]; exact List.getElem?_eq_none_iff.mp q)]
    exact ⟨.non, ws, rfl, by unfold Rep; rfl, h⟩
  | some a =>
    obtain ⟨v, h1, h2⟩ := r.get q
    rw [h1]
    cases a with
    | dat d => exact ⟨v, ws, rfl, h2, h⟩
    | own j => exact ⟨v, ws, rfl, h2, h⟩
theorem av_pick {K : PySem.W.Frag} {B : Hp} {σ : L2.St} {avs bvs : List AV} {vs zs : List V} (r : AVOk K B σ avs vs) (r' : AVOk K B σ bvs zs) {as : List AV} {ws : List V} (h : AVOk K B σ as ws) : ∀ p : List (Sum Nat Nat), AVOk K B σ (pick (.dat .non) p avs bvs ++ as) (pick .non p vs zs ++ ws)
  | [] => h
  | .inl i :: p => av_getD r i (av_pick r r' h p)
  | .inr i :: p => av_getD r' i (av_pick r r' h p)
section
variable {K : PySem.W.Frag} {x qual : Str} {params : Arguments} {body : List Stmt} {scope : Scope} {kws : List (Str × V)} {f : Addr} {fd : FuncData} {ps : List Str}
theorem bi_N (F : FunD K x qual params body scope [] kws f fd) (h : ∀ (kV doc pm : Value) (an : Option Addr) (cdv ct : Value) (us : List Value), us.length = ps.length → bindArgs (PySem.W.fnOf x qual params body scope .none kV doc pm an cdv ct) ⟨us, []⟩ = pure (ps.zip us)) :
    ∃ ws ds, Vals ws ds ∧ (∀ B, RepL K B [] ws) ∧ Binds K fd ps ds := ⟨[], [], .nil, fun _ => .nil, F.bindsN h⟩
/-- keyword-only defaults fill up -/
theorem bi_K (F : FunD K x qual params body scope [] kws f fd) (n : Nat) (dds : List Dt) (hr : ∀ B, RepL K B dds (kws.map (·.2))) (hk : kws ≠ []) (hn : n + kws.length = ps.length)
    (h : ∀ (D : Addr) (doc pm : Value) (an : Option Addr) (cdv ct : Value) (us ks : List Value), us.length = n → ks.length = kws.length →
      KwChain D ((kws.map (·.1)).zip ks) (bindArgs (PySem.W.fnOf x qual params body scope .none (.ref D) doc pm an cdv ct) ⟨us, []⟩) (ps.zip (us ++ ks))) : ∃ ws ds, Vals ws ds ∧ (∀ B, RepL K B dds ws) ∧ Binds K fd ps ds := by
  obtain ⟨ds, h1, h2⟩ := F.binds0 n hk hn h
  exact ⟨_, ds, h1, hr, h2⟩
theorem fund_of (F : FunD K x qual params body scope [] kws f fd) : ∃ (oc kV doc pm : Value) (od an : Option Addr) (cdv ct : Value) (osl : Array (Option Value)), fd = PySem.W.fnOf x qual params body scope .none kV doc pm an cdv ct ∧ K.lookup f = some ⟨oc, od, .func fd, osl⟩ ∧ KwdV K kV kws := by
  obtain ⟨oc, od, dV, kV, doc, pm, an, cdv, ct, osl, h1, lk, hcd, hD, hK⟩ := F.ex
  rcases hD with ⟨_, rfl⟩ | ⟨e, _⟩
  · exact ⟨oc, kV, doc, pm, od, an, cdv, ct, osl, h1, lk, hK⟩
  · exact absurd rfl e
/-- all parameters are given, some by their names -/
theorem kb_all (F : FunD K x qual params body scope [] kws f fd) (n : Nat) (ks : List Str) (p : List (Sum Nat Nat))
    (h : ∀ (kV doc pm : Value) (an : Option Addr) (cdv ct : Value) (us ws : List Value), us.length = n → ws.length = ks.length → bindArgs (PySem.W.fnOf x qual params body scope .none kV doc pm an cdv ct) ⟨us, ks.zip ws⟩ = pure (ps.zip (pick .none p us ws))) :
    ∃ g gV, KBn K fd ps n ks g gV ∧ ∀ B σ avs kvs vs zs, avs.length = n → kvs.length = ks.length → AVOk K B σ avs vs → AVOk K B σ kvs zs → AVOk K B σ (pick (.dat .non) p avs kvs ++ []) (gV vs zs) := by
  obtain ⟨oc, kV, doc, pm, od, an, cdv, ct, osl, rfl, lk, hK⟩ := fund_of F
  refine ⟨fun us ws => pick .none p us ws, fun vs zs => pick .non p vs zs ++ [], ⟨fun s us ws X l1 l2 => .of_eq (h kV doc pm an cdv ct us ws l1 l2), fun {vs us zs ws} r1 r2 => ?_⟩, fun B σ avs kvs vs zs _ _ r1 r2 => av_pick r1 r2 (show AVOk K B σ [] [] from rfl) p⟩
  rw [List.append_nil]
  exact vals_pick r1 r2 p
/-- .. and the keyword-only ones that lack by their defaults -/
theorem kb_dfl (F : FunD K x qual params body scope [] kws f fd) (n : Nat) (ks : List Str) (p : List (Sum Nat Nat)) (dds : List Dt) (hr : ∀ B, RepL K B dds (kws.map (·.2))) (hk : kws ≠ [])
    (h : ∀ (D : Addr) (doc pm : Value) (an : Option Addr) (cdv ct : Value) (us ws ms : List Value), us.length = n → ws.length = ks.length → ms.length = kws.length →
      KwChain D ((kws.map (·.1)).zip ms) (bindArgs (PySem.W.fnOf x qual params body scope .none (.ref D) doc pm an cdv ct) ⟨us, ks.zip ws⟩) (ps.zip (pick .none p us ws ++ ms))) :
    ∃ g gV, KBn K fd ps n ks g gV ∧ ∀ B σ avs kvs vs zs, avs.length = n → kvs.length = ks.length → AVOk K B σ avs vs → AVOk K B σ kvs zs → AVOk K B σ (pick (.dat .non) p avs kvs ++ dds.map AV.dat) (gV vs zs) := by
  obtain ⟨oc, kV, doc, pm, od, an, cdv, ct, osl, rfl, lk, hK⟩ := fund_of F
  rcases hK with e | ⟨D, rfl, hq⟩
  · exact absurd e hk
  · obtain ⟨ms, hl, rk, hks⟩ := kwd_vals hq
    refine ⟨fun us ws => pick .none p us ws ++ ms, fun vs zs => pick .non p vs zs ++ kws.map (·.2), ⟨fun s us ws X l1 l2 => BindsTo.of_looks fun M => KwChain.looks X hks (h D doc pm an cdv ct us ws ms l1 l2 hl), fun {vs us zs ws} r1 r2 => (vals_pick r1 r2 p).append rk⟩, fun B σ avs kvs vs zs _ _ r1 r2 => av_pick r1 r2 (AVOk.dats (hr B)) p⟩
end

/-! ### methods of texts -/
section
variable {PL : PoolP}
def strsD : List Dt → Option (List (List Nat))
  | [] => some []
  | .str s :: r => match strsD r with
    | some l => some (s :: l)
    | none => none
  | _ :: _ => none
theorem strsD_ok {K : PySem.W.Frag} {B : Hp} : ∀ {ds : List Dt} {l : List (List Nat)} {vs : List V}, strsD ds = some l → RepL K B ds vs → vs = (l.map S).map V.str ∧ ds = l.map Dt.str
  | [], l, vs, h, r => by
    have e : [] = l := by simpa [strsD] using h
    subst e
    unfold RepL at r
    exact ⟨r, rfl⟩
  | .str s :: q, l, vs, h, r => by
    unfold strsD at h
    cases g : strsD q with
    | none => rw [g] at h; cases h
    | some m =>
      rw [g] at h
      have e : s :: m = l := by simpa using h
      subst e
      unfold RepL at r
      obtain ⟨x, t, h1, h2, h3⟩ := r
      obtain ⟨h4, h5⟩ := strsD_ok g h3
      unfold Rep at h2
      exact ⟨by rw [h1, h2, h4]; rfl, by rw [h5]; rfl⟩
  | .non :: q, l, vs, h, r => by cases h
  | .bl _ :: q, l, vs, h, r => by cases h
  | .int _ :: q, l, vs, h, r => by cases h
  | .tup _ :: q, l, vs, h, r => by cases h
  | .lst _ :: q, l, vs, h, r => by cases h
  | .frz _ :: q, l, vs, h, r => by cases h
theorem strsD_map : ∀ l : List (List Nat), strsD (l.map Dt.str) = some l
  | [] => rfl
  | s :: l => by
    show (match strsD (l.map Dt.str) with
      | some m => some (s :: m)
      | none => none) = _
    rw [strsD_map l]
abbrev joinN := TL.joinL
def strM (g : List Nat → CallF) : MtF := fun x xs k => match x with
  | .str s => g s xs k
  | _ => False
def joinK (s : List Nat) (l : List Dt) (k : Res → Prop) : Prop := match strsD l with
  | some ys => ((ys.map List.length).sum + ys.length * s.length ≤ 10000000) ∧ k (.dat (.str (joinN s ys)))
  | none => False
def joinD (s : List Nat) (x : Dt) (k : Res → Prop) : Prop := match x with
  | .lst l => joinK s l k
  | .tup l => joinK s l k
  | _ => False
def fJoin : MtF := strM fun s => arg1 (joinD s)
theorem sum_len (ys : List (List Nat)) : ((ys.map S).map (·.length)).sum = (ys.map List.length).sum := by
  induction ys with
  | nil => rfl
  | cons y r ih =>
    simp only [List.map_cons, List.sum_cons, S_len]
    simp only [List.map_map] at ih ⊢
    rw [ih]
theorem join_S (s : List Nat) (ys : List (List Nat)) : Txt.join (S s) (ys.map S) = S (joinN s ys) := by
  rw [TL.join_eq]
  apply TL.ext_tl
  rw [TL.tl_join]
  show TL.joinL s ((ys.map S).map TL.tl) = joinN s ys
  have : (ys.map S).map TL.tl = ys := by
    rw [List.map_map]
    exact List.map_id _
  rw [this]
theorem mtd_join {K : PySem.W.Frag} : MtD K PL (fun x xs H Q => ∃ a p, ∃ ys : List Str, x = .str a ∧ xs = [.ref p] ∧ (SqL K H p (ys.map V.str) ∨ SqT K H p (ys.map V.str)) ∧
    (ys.map (·.length)).sum + ys.length * a.length ≤ 16777216 ∧ Q (.str (Txt.join a ys)) H) fJoin := by
  intro G B c σ H s xs vs k Q hc rx hf hq
  obtain ⟨x, rfl, hf⟩ := arg1_ok hf
  have fin : ∀ {l : List Dt} {us : List V}, RepL K B l us → joinK s l k → ∃ ys : List Str, us = ys.map V.str ∧ (ys.map (·.length)).sum + ys.length * (S s).length ≤ 16777216 ∧ Q (.str (Txt.join (S s) ys)) H := fun {l us} r h => by
    unfold joinK at h
    cases g : strsD l with
    | none => simp only [g] at h
    | some ys =>
      simp only [g] at h
      obtain ⟨h1, h2⟩ := h
      obtain ⟨h3, _⟩ := strsD_ok g r
      refine ⟨ys.map S, h3, ?_, hq _ _ B H h2 (Same.refl B) ⟨hc, by unfold Rep; rw [join_S]⟩⟩
      rw [sum_len, List.length_map, S_len]
      omega
  cases x with
  | lst l =>
    obtain ⟨v, rfl, a, us, rfl, h1, h2⟩ := repHs1 rx
    obtain ⟨ys, rfl, h3, h4⟩ := fin h2 hf
    exact ⟨S s, a, ys, rfl, rfl, .inl (.of h1), h3, h4⟩
  | tup l =>
    obtain ⟨v, rfl, a, us, rfl, h1, h2⟩ := repHs1 rx
    obtain ⟨ys, rfl, h3, h4⟩ := fin h2 hf
    exact ⟨S s, a, ys, rfl, rfl, .inr (sameT hc.same h1), h3, h4⟩
  | _ => exact hf.elim
/-- the last place from lo to hi - 1 at which the sign stands, or -1 -/
def IsLast (s : List Nat) (ch lo hi : Nat) (r : Int) : Prop := (r = -1 ∧ ∀ i : Nat, lo ≤ i → i < hi → s[i]? ≠ some ch) ∨ ∃ n : Nat, r = (n : Int) ∧ lo ≤ n ∧ n < hi ∧ s[n]? = some ch ∧ ∀ m : Nat, n < m → m < hi → s[m]? ≠ some ch
theorem at_one {s : List Nat} {ch hi i : Nat} (hh : hi ≤ s.length) : StrLaws.At (S s) (S [ch]) hi i ↔ i < hi ∧ s[i]? = some ch := by
  unfold StrLaws.At Builtin.Str.subAt
  rw [S_len]
  show i + 1 ≤ hi ∧ ((S s).cps.extract i (i + (S [ch]).length) == (S [ch]).cps) = true ↔ _
  rw [S_len]
  show i + 1 ≤ hi ∧ (s.toArray.extract i (i + 1) == #[ch]) = true ↔ _
  constructor
  · rintro ⟨h1, h2⟩
    refine ⟨by omega, ?_⟩
    have h3 : s.toArray.extract i (i + 1) = #[ch] := by simpa using h2
    have h4 := congrArg (fun a => a[0]?) h3
    rw [Array.getElem?_extract] at h4
    simp at h4
    have hi2 : i < s.length := by omega
    exact h4.2
  · rintro ⟨h1, h2⟩
    refine ⟨by omega, ?_⟩
    have hi2 : i < s.length := by omega
    have h3 : s.toArray.extract i (i + 1) = #[ch] := by
      apply Array.ext'
      have e : s[i] = ch := by
        rw [List.getElem?_eq_getElem hi2] at h2
        exact Option.some.inj h2
      simp [List.drop_eq_getElem_cons hi2, e]
    simp [h3]
theorem last_mem {x y : Str} {hi a : Nat} : ∀ (l : List Nat) (st : Option Nat), (forIn l st (StrLaws.lastBody x y hi)).run = some a → st = some a ∨ a ∈ l
  | [], st, h => .inl (by simpa using h)
  | b :: l, st, h => by
    rw [List.forIn_cons] at h
    unfold StrLaws.lastBody at h
    by_cases q : b + y.length ≤ hi ∧ Builtin.Str.subAt x y b = true
    · rw [if_pos q] at h
      rcases last_mem l (some b) h with z | z
      · exact .inr (by simp [Option.some.inj z])
      · exact .inr (List.mem_cons_of_mem _ z)
    · rw [if_neg q] at h
      rcases last_mem l st h with z | z
      · exact .inl z
      · exact .inr (List.mem_cons_of_mem _ z)
theorem last_is {s : List Nat} {ch lo hi : Nat} (hh : hi ≤ s.length) : IsLast s ch lo hi (match Builtin.Str.lastOccurrence (S s) (S [ch]) lo hi with
    | some k => (k : Int)
    | none => -1) := by
  rw [StrLaws.last_eq]
  have key := StrLaws.last_run (S s) (S [ch]) hi (List.range' lo (hi + 1 - lo)) [] none (fun _ h => nomatch h) (fun _ h => nomatch h) (by simpa using List.pairwise_lt_range' (s := lo) (n := hi + 1 - lo))
  have mem : ∀ i, lo ≤ i → i < hi → i ∈ [] ++ List.range' lo (hi + 1 - lo) := fun i h1 h2 => by simp [List.mem_range'] ; exact ⟨i - lo, by omega, by omega⟩
  cases hr : (forIn (List.range' lo (hi + 1 - lo)) none (StrLaws.lastBody (S s) (S [ch]) hi)).run with
  | none =>
    rw [hr] at key
    exact .inl ⟨rfl, fun i h1 h2 h3 => key i (mem i h1 h2) ((at_one hh).mpr ⟨h2, h3⟩)⟩
  | some a =>
    rw [hr] at key
    obtain ⟨k1, k2⟩ := key
    obtain ⟨a1, a2⟩ := (at_one hh).mp k1
    by_cases hl : lo ≤ a
    · exact .inr ⟨a, rfl, hl, a1, a2, fun m h1 h2 h3 => k2 m (mem m (by omega) h2) h1 ((at_one hh).mpr ⟨h2, h3⟩)⟩
    · rcases last_mem _ _ hr with z | z
      · cases z
      · rw [List.mem_range'] at z
        obtain ⟨i, _, z⟩ := z
        omega
/-- s.rfind(c, lo, hi) and s.rfind(c), c one sign -/
def rfind4D (s : List Nat) (xs : List Dt) (k : Res → Prop) : Prop := match xs with
  | .str t :: r => one1 t fun ch => cints2 r fun lo hi => (s.length ≤ 10000000 ∧ 0 ≤ lo ∧ 0 ≤ hi) ∧ ∀ v, IsLast s ch lo.toNat (min hi.toNat s.length) v → k (.dat (.int v))
  | _ => False
def fRfind4 : MtF := strM rfind4D
theorem repHs3 {K : PySem.W.Frag} {B H : Hp} {t : List Nat} {i j : Int} {vs : List V} (h : RepHs K B H [.str t, .int i, .int j] vs) : vs = [.str (S t), .int i, .int j] := by
  obtain ⟨v, ws, rfl, h2, h3⟩ := h
  obtain ⟨u, w, rfl, h4, h5⟩ := repHs2 h3
  have e1 : v = .str (S t) := h2
  have e2 : u = .int i := h4
  have e3 : w = .int j := h5
  rw [e1, e2, e3]
theorem mtd_rfind4 {K : PySem.W.Frag} : MtD K PL (fun x xs H Q => ∃ (a b : Str) (i j : Int), x = .str a ∧ xs = [.str b, .int i, .int j] ∧ Q (.int (Txt.rfindIn a b i j)) H) fRfind4 := by
  intro G B c σ H s xs vs k Q hc rx hf hq
  have hf2 : rfind4D s xs k := hf
  cases xs with
  | nil => exact hf2.elim
  | cons x r =>
    cases x with
    | str t =>
      obtain ⟨ch, rfl, h1⟩ := one1_ok (show one1 t _ from hf2)
      obtain ⟨lo, hi, rfl, ⟨z0, z1, z2⟩, h2⟩ := cints2_ok h1
      have e := repHs3 rx
      refine ⟨S s, S [ch], lo, hi, rfl, e, hq _ _ B H (h2 _ ?_) (Same.refl B) ⟨hc, by unfold Rep; rfl⟩⟩
      unfold Txt.rfindIn
      have e1 : fromIndex (S s).length lo = lo.toNat := by
        unfold fromIndex
        have : ¬ lo < 0 := by omega
        simp only [this, if_false]
        omega
      have e2 : toIndexW (S s).length hi = min hi.toNat s.length := by
        rw [S_len]
        simp only [toIndexW]
        omega
      rw [e1, e2]
      exact last_is (Nat.min_le_right _ _)
    | _ => exact hf2.elim
def rfindD (s : List Nat) (x : Dt) (k : Res → Prop) : Prop := match x with
  | .str t => one1 t fun ch => s.length ≤ 10000000 ∧ ∀ v, IsLast s ch 0 s.length v → k (.dat (.int v))
  | _ => False
def fRfind : MtF := strM fun s => arg1 (rfindD s)
theorem mtd_rfind {K : PySem.W.Frag} : MtD K PL (fun x xs H Q => ∃ a b, x = .str a ∧ xs = [.str b] ∧ Q (.int (Txt.rfind a b)) H) fRfind := by
  intro G B c σ H s xs vs k Q hc rx hf hq
  obtain ⟨x, rfl, hf⟩ := arg1_ok hf
  cases x with
  | str t =>
    obtain ⟨ch, rfl, h1, h2⟩ := one1_ok (show one1 t _ from hf)
    obtain ⟨v, rfl, h3⟩ := repHs1 rx
    have e : v = .str (S [ch]) := h3
    subst e
    refine ⟨S s, S [ch], rfl, rfl, hq _ _ B H (h2 _ ?_) (Same.refl B) ⟨hc, by unfold Rep; rfl⟩⟩
    unfold Txt.rfind
    rw [S_len]
    exact last_is (Nat.le_refl _)
  | _ => exact hf.elim
end
end Cl

namespace Cl
open PySem PySem.Spec PyProof.Rows L2

section
variable {X : Cx} {K : PySem.W.Frag} {PL : PoolP}
theorem opd_lt : OpD K PL (rI0 fun i j => .bl (decide (i < j))) fLt := opd_B0
theorem opd_le : OpD K PL (rI0 fun i j => .bl (decide (i ≤ j))) fLe := opd_B0
theorem opd_gt : OpD K PL (rI0 fun i j => .bl (decide (j < i))) fGt := opd_B0
theorem opd_ge : OpD K PL (rI0 fun i j => .bl (decide (j ≤ i))) fGe := opd_B0
def fAddI : OpF := fI (fun _ _ => True) fun i j => .int (i + j)
/-- is True, is False -/
def isB (v : Bool) : Dt → Bool
  | .bl b => b == v
  | _ => false
def fIsB (v : Bool) : OpF := fun x y k => y = .bl v ∧ k (.dat (.bl (isB v x)))
theorem op_isB {v : Bool} : OpR X (compareOp .Is) (fun x y H Q => y = .bl v ∧ Q (.bl (decide (x = .bl v))) H) := by
  intro pins s σ H x y a u Q I rx ry h
  obtain ⟨rfl, q⟩ := h
  cases (show u = Value.bool v from ry)
  have fin : ∀ k : Bool, decide (x = .bl v) = k → EP X pins σ Q (.bool k) s := fun k e => ⟨.bl k, H, I, rfl, by rw [← e]; exact q⟩
  cases x with
  | bl b =>
    cases (show a = Value.bool b from rx)
    by_cases e : b = v
    · subst e
      exact wpAny_is_self rfl (fin true (by simp))
    · exact wpAny_is_other rfl (fun z => e (Value.bool.inj z)) (fin false (by simp [e]))
  | non =>
    cases (show a = Value.none from rx)
    exact wpAny_is_other rfl (fun z => by cases z) (fin false (by simp))
  | int i =>
    obtain ⟨t, rfl⟩ := rx
    exact wpAny_is_other rfl (fun z => by cases z) (fin false (by simp))
  | str i =>
    obtain ⟨t, rfl⟩ := rx
    exact wpAny_is_other rfl (fun z => by cases z) (fin false (by simp))
  | byt i =>
    obtain ⟨t, rfl⟩ := rx
    exact wpAny_is_other rfl (fun z => by cases z) (fin false (by simp))
  | flt i =>
    obtain ⟨t, rfl⟩ := rx
    exact wpAny_is_other rfl (fun z => by cases z) (fin false (by simp))
  | ref i =>
    cases (show a = Value.ref i from rx)
    exact wpAny_is_other rfl (fun z => by cases z) (fin false (by simp))
  | ty i =>
    cases (show a = Value.type i from rx)
    exact wpAny_is_other rfl (fun z => by cases z) (fin false (by simp))
theorem isB_iff {B H : Hp} {x : Dt} {v : V} {b : Bool} (r : RepH K B H x v) : decide (v = .bl b) = isB b x := by
  cases x with
  | non =>
    have e : v = .non := r
    subst e
    rfl
  | bl k =>
    have e : v = .bl k := r
    subst e
    show decide (V.bl k = V.bl b) = (k == b)
    cases k <;> cases b <;> rfl
  | int i =>
    have e : v = .int i := r
    subst e
    rfl
  | str i =>
    have e : v = .str (S i) := r
    subst e
    rfl
  | tup l => obtain ⟨a, xs, rfl, _⟩ := r; rfl
  | lst l => obtain ⟨a, xs, rfl, _⟩ := r; rfl
  | frz l => obtain ⟨a, xs, rfl, _⟩ := r; rfl
theorem opd_isB {v : Bool} : OpD K PL (fun x y H Q => y = .bl v ∧ Q (.bl (decide (x = .bl v))) H) (fIsB v) := by
  intro G B c σ H x y a u k Q hc rx ry hf hq
  obtain ⟨rfl, hf⟩ := hf
  exact ⟨ry, hq _ _ B H hf (Same.refl B) ⟨hc, by unfold Rep; rw [isB_iff rx]⟩⟩

/-! ### isinstance(x, T), T a built-in class -/
def tyD : Dt → String
  | .non => "NoneType"
  | .bl _ => "bool"
  | .int _ => "int"
  | .str _ => "str"
  | .tup _ => "tuple"
  | .lst _ => "list"
  | .frz _ => "list"
/-- whether a value of the class a is one of T -/
def isiB (a T : String) : Bool := a == T || (a == "bool" && T == "int")
def isiOk (T : String) : Bool := ["NoneType", "bool", "int", "str", "tuple", "list"].all fun a => decide (kitB a T = some (isiB a T))
theorem sqT_ty {H : Hp} {a : Addr} {xs : List V} (h : SqT K H a xs) : TyX K H (.ref a) (.type "tuple") := by
  rcases h with (h | ⟨o, h⟩) | ⟨o, its, n, h1, h2, _⟩
  · exact .base (.tup h)
  · exact .fTuple h
  · exact .kTuple h1 h2
theorem sqL_ty {H : Hp} {a : Addr} {xs : List V} (h : SqL K H a xs) : TyX K H (.ref a) (.type "list") := by
  rcases h with (h | ⟨o, h⟩) | ⟨o, its, n, h1, h2, _⟩
  · exact .base (.lst h)
  · exact .base (.frz h)
  · exact .kList h1 h2
theorem tyX_of {B H : Hp} {x : Dt} {v : V} (e : Same B H) (r : RepH K B H x v) : TyX K H v (.type (tyD x)) := by
  cases x with
  | non =>
    have e : v = .non := r
    subst e
    exact .base .non
  | bl k =>
    have e : v = .bl k := r
    subst e
    exact .base (.bl k)
  | int i =>
    have e : v = .int i := r
    subst e
    exact .base (.int i)
  | str i =>
    have e : v = .str (S i) := r
    subst e
    exact .base (.str _)
  | tup l =>
    obtain ⟨a, xs, rfl, h, _⟩ := r
    exact sqT_ty (sameT e h)
  | lst l =>
    obtain ⟨a, xs, rfl, h, _⟩ := r
    exact .base (.lst h)
  | frz l =>
    obtain ⟨a, xs, rfl, h, _⟩ := r
    exact sqL_ty (e.seq h)
theorem tyD_in (x : Dt) : tyD x ∈ ["NoneType", "bool", "int", "str", "tuple", "list"] := by
  cases x <;> simp [tyD]
def dIsi (T : String) (da : DE) : DE := fun c Q => da c fun r c1 => on1 (hd r) c1 fun x => Q (.dat (.bl (isiB (tyD x) T))) c1
theorem qe_isi {T : String} {a : Expr} {Tn : Str} {p p2 pos : Pos} {da : DE} (hT : isiOk T = true) (hg : Gl X "isinstance") (hm : X.mg "isinstance" = none) (hg2 : Gl X Tn) (hm2 : X.mg Tn = none) (hv2 : bootBuiltins Tn = some (.type T)) (ha : QE X PL a da)
    (hn : Tn ≠ "__name__" := by decide) (hdb : (Tn == ("__debug__" : Str)) = false := by decide) (he : starEach [a, .Name Tn p2] X.env = (false, eval a X.env) :: starEach [.Name Tn p2] X.env := by rfl) (he2 : starEach [.Name Tn p2] X.env = (false, eval (.Name Tn p2) X.env) :: starEach [] X.env := by rfl)
    (hpl : (backTo pos (starEach [.Name Tn p2] X.env)).any (·.1) = false := by rfl) : QE X PL (.Call (.Name "isinstance" p) [a, .Name Tn p2] [] pos) (dIsi T da) := by
  have hb : bootBuiltins "isinstance" = some (.builtin "isinstance") := by decide +kernel
  have pT : PE X (.Name Tn p2) (tC (.ty T)) := pe_bltn hg2 hm2 hv2 rfl hn hdb
  refine q_of (pe_callB (call_isi) hg hm hb (pa_cons ha.pe (pa_cons pT pa_nil he2) he) (by decide) (by decide) he hpl) fun G B c σ H Qd Q hc hd2 hq => ?_
  refine ⟨G, B, c, _, hc, hd2, fun r c1 B1 H1 v q e1 cr => ?_⟩
  obtain ⟨B2, e2, hc2, hh⟩ := cr.hold
  obtain ⟨x, rx, hf⟩ := on1_ok hc2 hh q
  have hk : kitB (tyD x) T = some (isiB (tyD x) T) := by
    unfold isiOk at hT
    exact of_decide_eq_true (List.all_eq_true.mp hT _ (tyD_in x))
  exact ⟨v, .ty T, .type (tyD x), .type T, _, rfl, .ty T, tyX_of hc2.same rx, kit_ty hk, hq _ c1 B2 H1 _ hf (e1.trans e2) ⟨hc2, by unfold Rep; rfl⟩⟩
/-! ### what readings use -/
theorem one_eq {a b : Nat} : ([a] = [b]) = (a = b) := by simp
theorem fIn_str {neg : Bool} {s t : List Nat} {k : Res → Prop} : fIn neg (.str s) (.str t) k = one1 s fun ch => k (.dat (.bl (decide (ch ∈ t) != neg))) := rfl
theorem fIn_lst {neg : Bool} {x : Dt} {l : List Dt} {k : Res → Prop} : fIn neg x (.lst l) k = ((flatD x = true ∧ l.all flatD = true) ∧ k (.dat (.bl ((l.any fun y => eqD y x) != neg)))) := by cases x <;> rfl
theorem fIn_tup {neg : Bool} {x : Dt} {l : List Dt} {k : Res → Prop} : fIn neg x (.tup l) k = ((flatD x = true ∧ l.all flatD = true) ∧ k (.dat (.bl ((l.any fun y => eqD y x) != neg)))) := by cases x <;> rfl
theorem cut_nat {α : Type} {l : List α} {a b : Nat} (hb : b ≤ l.length) (hab : a ≤ b) : cut l (some (a : Int)) (some (b : Int)) = (l.drop a).take (b - a) := by
  unfold cut
  rw [HT.sIx_nat, HT.sIx_nat, Nat.min_eq_left hb, Nat.min_eq_left (by omega)]
theorem cut_from {α : Type} {l : List α} {a : Nat} (ha : a ≤ l.length) : cut l (some (a : Int)) none = l.drop a := by
  unfold cut
  rw [HT.sIx_nat, HT.sIx_none, Nat.min_eq_left ha, List.take_of_length_le (by simp)]
theorem cut_to {α : Type} {l : List α} {b : Nat} (hb : b ≤ l.length) : cut l none (some (b : Int)) = l.take b := by
  unfold cut
  rw [HT.sIx_nat, HT.sIx_none, Nat.min_eq_left hb]
  simp
theorem atI_ok {α : Type} {l : List α} {i : Int} {n : Nat} {x : α} (hi : i = (n : Int)) (h : l[n]? = some x) : atI l i = some x := by
  rw [hi]
  exact atI_nat h
theorem atI_neg1 {α : Type} {l : List α} {x : α} (h : l.getLast? = some x) : atI l (-1) = some x := by
  obtain ⟨r, rfl⟩ : ∃ r, l = r ++ [x] := by
    cases e : l.reverse with
    | nil =>
      have : l = [] := by simpa using e
      rw [this] at h
      cases h
    | cons y q =>
      refine ⟨q.reverse, ?_⟩
      have e2 : l = q.reverse ++ [y] := by
        have := congrArg List.reverse e
        simpa using this
      rw [e2] at h
      simp at h
      rw [e2, h]
  exact atI_last r x
theorem ixN_ok {n : Nat} {i : Int} {m : Nat} (hi : i = (m : Int)) (h : m < n) : ixN n i = some m := by
  unfold ixN
  rw [hi, if_pos (by omega), if_pos (by omega)]
  simp
theorem rngD_length (lo : Int) (n : Nat) : (rngD lo n).length = n := by simp [rngD]
theorem rngD_get {lo : Int} {n k : Nat} {d : Dt} (h : (rngD lo n)[k]? = some d) : k < n ∧ d = .int (lo + (k : Int)) := by
  have hk : k < n := by
    have := (List.getElem?_eq_some_iff.mp h).1
    rwa [rngD_length] at this
  refine ⟨hk, ?_⟩
  unfold rngD at h
  rw [List.getElem?_map, List.getElem?_range hk] at h
  exact (Option.some.inj h).symm
theorem rngC_length (lo st : Int) (n : Nat) : (rngC lo st n).length = n := by simp [rngC]
theorem rngC_get {lo st : Int} {n k : Nat} {d : Dt} (h : (rngC lo st n)[k]? = some d) : k < n ∧ d = .int (lo + (k : Int) * st) := by
  have hk : k < n := by
    have := (List.getElem?_eq_some_iff.mp h).1
    rwa [rngC_length] at this
  refine ⟨hk, ?_⟩
  unfold rngC at h
  rw [List.getElem?_map, List.getElem?_range hk] at h
  exact (Option.some.inj h).symm
end
end Cl

namespace Cl
open PySem PySem.Spec PyProof.Rows L2
/-! ### the equations by which a reading is simplified: each opens only what is known -/
def onS (s : Slot) (f : Dt → Prop) : Prop := match s with
  | .dat d => f d
  | .own (.lst l) => f (.lst l)
  | .arg (.lst l) => f (.lst l)
  | _ => False
theorem onS_ok {c : CEnv} {f : Dt → Prop} {i : Nat} : on1 (.sl i) c f = onS (gt c i) f := by
  cases q : gt c i with
  | no => simp only [on1, onS, vw, q]
  | dat d => simp only [on1, onS, vw, q]
  | own o => cases o <;> simp only [on1, onS, vw, q]
  | arg o => cases o <;> simp only [on1, onS, vw, q]
def asS (s : Slot) (i : Nat) (c : CEnv) (k : Dt → CEnv → Prop) : Prop := match s with
  | .dat d => k d c
  | .own (.lst l) => k (.lst l) (c.set i (.dat (.lst l)))
  | _ => False
theorem asS_ok {k : Dt → CEnv → Prop} {c : CEnv} {i : Nat} : asD (.sl i) c k = asS (gt c i) i c k := by
  cases q : gt c i with
  | no => simp only [asD, asS, q]
  | dat d => simp only [asD, asS, q]
  | own o => cases o <;> simp only [asD, asS, q]
  | arg o => cases o <;> simp only [asD, asS, q]
def varS (s : Slot) (i : Nat) (c : CEnv) (Q : Res → CEnv → Prop) : Prop := match s with
  | .dat d => Q (.dat d) c
  | .own _ => Q (.sl i) c
  | .arg _ => Q (.sl i) c
  | .no => False
theorem varS_ok {Q : Res → CEnv → Prop} {c : CEnv} {i : Nat} : dVar i c Q = varS (gt c i) i c Q := rfl
def putS (s : Slot) (i j : Nat) (c : CEnv) (k : CEnv → Prop) : Prop := match s with
  | .dat d => k (c.set i (.dat d))
  | .own (.lst l) => k ((c.set j (.dat (.lst l))).set i (.dat (.lst l)))
  | _ => False
theorem putS_ok {k : CEnv → Prop} {c : CEnv} {i j : Nat} : put i (.sl j) c k = putS (gt c j) i j c k := by
  cases q : gt c j with
  | no => simp only [put, putS, q]
  | dat d => simp only [put, putS, q]
  | own o => cases o <;> simp only [put, putS, q]
  | arg o => cases o <;> simp only [put, putS, q]
def toRetS (s : Slot) (i : Nat) (c : CEnv) (Q : Res → CEnv → Prop) : Prop := match s with
  | .dat d => Q (.dat d) c
  | .own _ => Q (.sl i) c
  | _ => False
theorem toRetS_ok {Q : Res → CEnv → Prop} {c : CEnv} {i : Nat} : toRet (.sl i) c Q = toRetS (gt c i) i c Q := by
  cases q : gt c i <;> simp only [toRet, toRetS, q]
def retBS (s : Slot) (as : List AArg) (R : Res → List AArg → Prop) (c : CEnv) : Prop := match s with
  | .own o => bk as c (R (.new o))
  | _ => False
theorem retBS_ok {R : Res → List AArg → Prop} {as : List AArg} {c : CEnv} {i : Nat} : retB as R (.sl i) c = retBS (gt c i) as R c := by
  cases q : gt c i <;> simp only [retB, retBS, q]
theorem bk_dat_ok {k : List AArg → Prop} {as : List AArg} {c : CEnv} {d : Dt} {s : Slot} : bk (.dat d :: as) (s :: c) k = bk as c fun r => k (.dat d :: r) := by
  unfold bk
  show (match (backA as c).map (AArg.dat d :: ·) with
    | some as' => k as'
    | none => False) = _
  cases backA as c <;> rfl
theorem bk_ob_ok {k : List AArg → Prop} {as : List AArg} {c : CEnv} {o o' : Ob} : bk (.ob o :: as) (.arg o' :: c) k = bk as c fun r => k (.ob o' :: r) := by
  unfold bk
  show (match (backA as c).map (AArg.ob o' :: ·) with
    | some as' => k as'
    | none => False) = _
  cases backA as c <;> rfl
def ixS (s : List Nat) (i : Int) (k : Res → Prop) : Prop := match atI s i with
  | some ch => k (.dat (.str [ch]))
  | none => False
theorem ixL_n {l : List Dt} {n : Nat} {d : Dt} {k : Res → Prop} (h : l[n]? = some d) : ixL l (n : Int) k = k (.dat d) := by
  unfold ixL
  rw [atI_nat h]
theorem ixL_i {l : List Dt} {i : Int} {n : Nat} {d : Dt} {k : Res → Prop} (hi : i = (n : Int)) (h : l[n]? = some d) (hk : k (.dat d)) : ixL l i k := by
  rw [hi, ixL_n h]
  exact hk
theorem ixS_i {s : List Nat} {i : Int} {n ch : Nat} {k : Res → Prop} (hi : i = (n : Int)) (h : s[n]? = some ch) (hk : k (.dat (.str [ch]))) : ixS s i k := by
  unfold ixS
  rw [atI_ok hi h]
  exact hk
theorem ixL_last {l : List Dt} {d : Dt} {k : Res → Prop} (h : l.getLast? = some d) (hk : k (.dat d)) : ixL l (-1) k := by
  unfold ixL
  rw [atI_neg1 h]
  exact hk
def partQ (r : Res) (c : CEnv) (Q : Option Int → CEnv → Prop) : Prop := match r with
  | .dat (.int i) => Q (some i) c
  | _ => False
theorem dPart_ok {de : DE} {c : CEnv} {Q : Option Int → CEnv → Prop} : dPart de c Q = de c fun r c1 => partQ r c1 Q := rfl
def popL (l : List Dt) (k : Dt → List Dt → Prop) : Prop := match l.getLast? with
  | some d => k d l.dropLast
  | none => False
theorem popL_ok {k : Dt → List Dt → Prop} {l : List Dt} : mPop l [] k = popL l k := rfl
def obS (s : Slot) (k : List Dt → Prop) : Prop := match s with
  | .own (.lst l) => k l
  | .arg (.lst l) => k l
  | _ => False
theorem obS_ok {k : List Dt → Prop} {c : CEnv} {i : Nat} : obL c i k = obS (gt c i) k := rfl
def setS (s : Slot) (c : CEnv) (i : Nat) (m : List Dt) : CEnv := match s with
  | .arg _ => c.set i (.arg (.lst m))
  | _ => c.set i (.own (.lst m))
theorem setS_ok {c : CEnv} {i : Nat} {m : List Dt} : setL c i m = setS (gt c i) c i m := by
  unfold setL setS
  cases gt c i <;> rfl
def setN (n : Option Nat) (c : CEnv) (i : Nat) (l : List Dt) (d : Dt) (k : CEnv → Prop) : Prop := match n with
  | some n => k (setL c i (l.set n d))
  | none => False
def ixQ (r : Res) (c : CEnv) (i : Nat) (d : Dt) (k : CEnv → Prop) : Prop := match r with
  | .dat (.int j) => obL c i fun l => setN (ixN l.length j) c i l d k
  | _ => False
theorem dSetIx_ok {i : Nat} {dx de : DE} {E : CEnds} {c : CEnv} : dSetIx i dx de E c = de c fun r c1 => asD r c1 fun d c2 => obL c2 i fun _ => dx c2 fun rx c3 => ixQ rx c3 i d E.nx := rfl
def mtQ (r : Res) (f : MtF) (da : DA) (c : CEnv) (Q : Res → CEnv → Prop) : Prop := match r with
  | .dat (.str s) => da c fun rs c2 => vws rs c2 fun xs => f (.str s) xs fun z => Q z c2
  | _ => False
theorem dMt_ok {f : MtF} {de : DE} {da : DA} {c : CEnv} {Q : Res → CEnv → Prop} : dMt f de da c Q = de c fun r c1 => mtQ r f da c1 Q := rfl
def isOb (s : Slot) : Prop := match s with
  | .own _ => True
  | .arg _ => True
  | _ => False
theorem vOwn_ok {i : Nat} {dv : DV} {c : CEnv} {Q : List AV → CEnv → Prop} : vOwn i dv c Q = (isOb (gt c i) ∧ dv c fun avs c3 => Q (.own i :: avs) c3) := by
  unfold vOwn isOb
  cases gt c i <;> simp
def lookQ (avs : List AV) (c : CEnv) (k : List AArg → Prop) : Prop := match looks c avs with
  | none => False
  | some as => k as
def lookS (s : Slot) (k : Ob → Prop) : Prop := match s with
  | .own o => k o
  | .arg o => k o
  | _ => False
theorem callQ_ok {F : FS} {avs : List AV} {c : CEnv} {Q : Res → CEnv → Prop} : callQ F avs c Q = (nodupO avs = true ∧ lookQ avs c fun as => F as fun r as' => retC r (putA avs as' 0 c) Q) := rfl
theorem lookQ_dat {c : CEnv} {k : List AArg → Prop} {d : Dt} {r : List AV} : lookQ (.dat d :: r) c k = lookQ r c fun as => k (.dat d :: as) := by
  unfold lookQ
  show (match (match looks c r with
    | none => none
    | some xs => some (AArg.dat d :: xs)) with
    | none => False
    | some as => k as) = _
  cases looks c r <;> rfl
theorem lookQ_own {c : CEnv} {k : List AArg → Prop} {i : Nat} {r : List AV} : lookQ (.own i :: r) c k = lookS (gt c i) fun o => lookQ r c fun as => k (.ob o :: as) := by
  cases q : gt c i with
  | no => simp only [lookQ, lookS, looks, lookA, q]
  | dat d => simp only [lookQ, lookS, looks, lookA, q]
  | own o => cases p : looks c r <;> simp only [lookQ, lookS, looks, lookA, q, p]
  | arg o => cases p : looks c r <;> simp only [lookQ, lookS, looks, lookA, q, p]
def notIn (i : Nat) (r : List AV) : Bool := r.all fun a => match a with
  | .own j => i != j
  | _ => true
theorem nd_own_ok {i : Nat} {r : List AV} : nodupO (.own i :: r) = (notIn i r && nodupO r) := rfl
def rngQ (ds : List Dt) (k : Int → Prop) : Prop := match ds with
  | [.int n] => k n
  | _ => False
theorem dRng1_ok {da : DL} {c : CEnv} {Q : List Dt → CEnv → Prop} : dRng1 da c Q = da c fun ds c1 => rngQ ds fun n => (n ≤ 1000000000 ∧ -1000000000 ≤ n) ∧ Q (rngD 0 n.toNat) c1 := rfl
def two (ds : List Dt) (k : Dt → Dt → Prop) : Prop := match ds with
  | [d, e] => k d e
  | _ => False
theorem dPar_ok {i j : Nat} {da : DL} {E : CEnds} {c : CEnv} : dPar i j da E c = da c fun ds c1 => two ds fun d e => E.nx ((c1.set i (.dat d)).set j (.dat e)) := rfl
def augS (s : Slot) (i : Nat) (f : OpF) (de : DE) (E : CEnds) (c : CEnv) : Prop := match s with
  | .dat x => de c fun r c1 => on1 (hd r) c1 fun y => f x y fun z => put i z c1 E.nx
  | _ => False
theorem dAug_ok {i : Nat} {f : OpF} {de : DE} {E : CEnds} {c : CEnv} : dAug i f de E c = augS (gt c i) i f de E c := rfl
/-- the slots of a comprehension's own names, behind it -/
def unwS (s : Slot) : Slot := match s with
  | .dat d => .dat d
  | _ => .no
theorem c_unw_nil {c1 c : CEnv} : unw [] c1 c = c := rfl
theorem c_unw {v : Nat} {vs : List Nat} {c1 c : CEnv} : unw (v :: vs) c1 c = (unw vs c1 c).set v (unwS (gt c1 v)) := rfl
theorem c_unwS_no : unwS .no = .no := rfl
theorem c_unwS_dat {d : Dt} : unwS (.dat d) = .dat d := rfl

/-! ### loops and comprehensions, opened -/
def FI (ds : List Dt) (g : DG) (body : DS) (E : CEnds) (c1 : CEnv) : Prop := ∃ I : Nat → CEnv → Prop, I 0 c1 ∧
  (∀ k d c', ds[k]? = some d → I k c' → g d c' fun c2 => body { nx := I (k + 1), rt := E.rt, bk := E.nx, ct := I (k + 1) } c2) ∧ ∀ c', I ds.length c' → E.nx c'
theorem dFor_ok {di : DI} {g : DG} {body : DS} {E : CEnds} {c : CEnv} : dFor di g body E c = di c fun ds c1 => FI ds g body E c1 := rfl
def LCI (ds : List Dt) (g : DG) (dt : DT) (de : DE) (vs : List Nat) (c1 : CEnv) (Q : Res → CEnv → Prop) : Prop := ds.length ≤ 9000000 ∧ ∃ I : Nat → List Dt → CEnv → Prop, I 0 [] (wipeC vs c1) ∧
  (∀ k acc d c', ds[k]? = some d → acc.length ≤ k → I k acc c' → g d c' fun c2 => dt c2 fun b c3 => br b (de c3 fun r c4 => asD r c4 fun e c5 => I (k + 1) (acc ++ [e]) (wipeC vs c5)) (I (k + 1) acc (wipeC vs c3))) ∧ ∀ acc c', acc.length ≤ ds.length → I ds.length acc c' → Q (.new (.lst acc)) (unw vs c1 c')
theorem dLc_ok {di : DI} {g : DG} {dt : DT} {de : DE} {vs : List Nat} {c : CEnv} {Q : Res → CEnv → Prop} : dLc di g dt de vs c Q = di c fun ds c1 => LCI ds g dt de vs c1 Q := rfl
theorem rng_at {lo : Int} {n k : Nat} {d : Dt} (h : (rngD lo n)[k]? = some d) : k < n ∧ d = .int (lo + (k : Int)) := by
  have hl := (List.getElem?_eq_some_iff.mp h).1
  rw [rngD_length] at hl
  refine ⟨hl, ?_⟩
  unfold rngD at h
  rw [List.getElem?_map, List.getElem?_range hl] at h
  exact (Option.some.inj h).symm
theorem rngc_at {lo st : Int} {n k : Nat} {d : Dt} (h : (rngC lo st n)[k]? = some d) : k < n ∧ d = .int (lo + (k : Int) * st) := by
  have hl := (List.getElem?_eq_some_iff.mp h).1
  rw [rngC_length] at hl
  refine ⟨hl, ?_⟩
  unfold rngC at h
  rw [List.getElem?_map, List.getElem?_range hl] at h
  exact (Option.some.inj h).symm
theorem for_rng {lo : Int} {n : Nat} {g : DG} {body : DS} {E : CEnds} {c : CEnv} (I : Nat → CEnv → Prop) (h0 : I 0 c) (hs : ∀ k c', k < n → I k c' → g (.int (lo + (k : Int))) c' fun c2 => body { nx := I (k + 1), rt := E.rt, bk := E.nx, ct := I (k + 1) } c2) (he : ∀ c', I n c' → E.nx c') : FI (rngD lo n) g body E c := by
  refine ⟨I, h0, fun k d c' hd hI => ?_, fun c' h => he c' (by rwa [rngD_length] at h)⟩
  obtain ⟨h1, rfl⟩ := rng_at hd
  exact hs k c' h1 hI
theorem for_map {α : Type} {xs : List α} {f : α → Dt} {g : DG} {body : DS} {E : CEnds} {c : CEnv} (I : Nat → CEnv → Prop) (h0 : I 0 c) (hs : ∀ k x c', xs[k]? = some x → I k c' → g (f x) c' fun c2 => body { nx := I (k + 1), rt := E.rt, bk := E.nx, ct := I (k + 1) } c2) (he : ∀ c', I xs.length c' → E.nx c') : FI (xs.map f) g body E c := by
  refine ⟨I, h0, fun k d c' hd hI => ?_, fun c' h => he c' (by rwa [List.length_map] at h)⟩
  rw [List.getElem?_map] at hd
  cases q : xs[k]? with
  | none =>
    rw [q] at hd
    cases hd
  | some x =>
    rw [q] at hd
    cases hd
    exact hs k x c' q hI
theorem lc_pure {ds : List Dt} {g : DG} {dt : DT} {de : DE} {vs : List Nat} {c1 : CEnv} {Q : Res → CEnv → Prop} (f : Dt → Option Dt) (hl : ds.length ≤ 9000000)
    (hs : ∀ d ∈ ds, ∀ Y : Option Dt → CEnv → Prop, Y (f d) (wipeC vs c1) → g d (wipeC vs c1) fun c2 => dt c2 fun b c3 => br b (de c3 fun r c4 => asD r c4 fun e c5 => Y (some e) (wipeC vs c5)) (Y none (wipeC vs c3)))
    (hQ : Q (.new (.lst (ds.filterMap f))) (unw vs c1 (wipeC vs c1))) : LCI ds g dt de vs c1 Q := by
  refine ⟨hl, fun k acc c' => acc = (ds.take k).filterMap f ∧ c' = wipeC vs c1, ⟨by simp, rfl⟩, ?_, ?_⟩
  · rintro k acc d c' hd _ ⟨rfl, rfl⟩
    have h1 := hs d (List.mem_of_getElem? hd) (fun o c' => (match o with
      | some e => (ds.take k).filterMap f ++ [e] = (ds.take (k + 1)).filterMap f
      | none => (ds.take k).filterMap f = (ds.take (k + 1)).filterMap f) ∧ c' = wipeC vs c1) ⟨?_, rfl⟩
    · exact h1
    · rw [List.take_add_one, hd]
      cases q : f d <;> simp [q]
  · rintro acc c' _ ⟨rfl, rfl⟩
    rw [List.take_length]
    exact hQ
/-- one new item for each -/
theorem lc_map {ds : List Dt} {g : DG} {de : DE} {vs : List Nat} {c1 : CEnv} {Q : Res → CEnv → Prop} (f : Dt → Dt) (hl : ds.length ≤ 9000000)
    (hs : ∀ d ∈ ds, ∀ Y : Dt → CEnv → Prop, Y (f d) (wipeC vs c1) → g d (wipeC vs c1) fun c2 => (de c2 fun r c4 => asD r c4 fun e c5 => Y e (wipeC vs c5)))
    (hQ : Q (.new (.lst (ds.map f))) (unw vs c1 (wipeC vs c1))) : LCI ds g dYes de vs c1 Q := by
  refine lc_pure (fun d => some (f d)) hl (fun d hd Y hY => ?_) ?_
  · exact hs d hd (fun e c' => Y (some e) c') hY
  · rw [show ds.filterMap (fun d => some (f d)) = ds.map f from by
      induction ds with
      | nil => rfl
      | cons a r ih => simp]
    exact hQ
theorem setN_i {n m j : Nat} {i : Int} {c : CEnv} {l : List Dt} {d : Dt} {k : CEnv → Prop} (hi : i = (m : Int)) (h : m < n) (hk : k (setL c j (l.set m d))) : setN (ixN n i) c j l d k := by
  rw [ixN_ok hi h]
  exact hk
theorem getSet {α : Type} {l : List α} {i j : Nat} {a : α} (h : i < l.length) : (l.set i a)[j]? = if i = j then some a else l[j]? := by
  rw [List.getElem?_set]
  by_cases e : i = j
  · rw [if_pos e, if_pos e, if_pos h]
  · rw [if_neg e, if_neg e]
theorem rep_flat {α : Type} (n : Nat) (a : α) : (List.replicate n [a]).flatten = List.replicate n a := by
  induction n with
  | zero => rfl
  | succ n ih => rw [List.replicate_succ, List.flatten_cons, ih]; rfl
theorem ixL_mem {l : List Dt} {i : Int} {k : Res → Prop} (h0 : 0 ≤ i) (h1 : i < l.length) (hk : ∀ d ∈ l, k (.dat d)) : ixL l i k := by
  have hl : i.toNat < l.length := by omega
  exact ixL_i (n := i.toNat) (by omega) (List.getElem?_eq_getElem hl) (hk _ (List.getElem_mem hl))
/-- how many a range with a step gives -/
def stepN (a b c : Int) : Nat := if a < b then ((b - a - 1) / c + 1).toNat else 0
theorem rgC_pos {a b c : Int} (ha : -1000000000 ≤ a) (ha' : a ≤ 1000000000) (hb : -1000000000 ≤ b) (hb' : b ≤ 1000000000) (hc : 0 < c) (hc' : c ≤ 1000000000) : RgC a b c (stepN a b c) := by
  have h1 : 0 ≤ (b - a - 1) / c ∨ ¬ a < b := by
    by_cases h : a < b
    · exact .inl (Int.ediv_nonneg (by omega) (by omega))
    · exact .inr h
  have h2 : a < b → (b - a - 1) / c ≤ b - a - 1 := fun h => Int.ediv_le_self _ (by omega)
  have e : Builtin.Range.rangeSize a b c = (stepN a b c : Int) := by
    unfold Builtin.Range.rangeSize stepN
    rw [if_pos hc]
    split
    · omega
    · rfl
  refine ⟨by omega, by omega, ?_, e⟩
  unfold Builtin.Range.small
  rw [e]
  have h3 : (stepN a b c : Int) ≤ 2000000002 := by
    unfold stepN
    split
    · have := h2 (by assumption)
      omega
    · omega
  simp only [Builtin.Range.rangeFitsLong, Bool.and_eq_true, Bool.or_eq_true, decide_eq_true_eq, beq_iff_eq, hc, if_true]
  omega
theorem strs_chars (t : List Nat) : strsD (t.map fun ch => Dt.str [ch]) = some (t.map fun ch => [ch]) := by
  induction t with
  | nil => rfl
  | cons a r ih =>
    rw [List.map_cons]
    show (match strsD (r.map fun ch => Dt.str [ch]) with
      | some ys => some ([a] :: ys)
      | none => none) = _
    rw [ih]
    rfl
theorem joinN_nil : ∀ ys : List (List Nat), joinN [] ys = ys.flatten
  | [] => rfl
  | [p] => by simp [joinN, TL.joinL]
  | p :: q :: r => by
    have := joinN_nil (q :: r)
    show p ++ ([] ++ joinN [] (q :: r)) = _
    rw [this]
    rfl
theorem flat_chars (t : List Nat) : (t.map fun ch => [ch]).flatten = t := by
  induction t with
  | nil => rfl
  | cons a r ih => rw [List.map_cons, List.flatten_cons, ih]; rfl
theorem sum_chars (t : List Nat) : ((t.map fun ch => [ch]).map List.length).sum = t.length := by
  induction t with
  | nil => rfl
  | cons a r ih =>
    rw [List.map_cons, List.map_cons, List.sum_cons, ih, List.length_cons, List.length_cons, List.length_nil]
    omega
/-- the text of signs put together -/
theorem join_chars {t : List Nat} {k : Res → Prop} : joinK [] (t.map fun ch => Dt.str [ch]) k = (t.length ≤ 10000000 ∧ k (.dat (.str t))) := by
  unfold joinK
  rw [strs_chars]
  show (((t.map fun ch => [ch]).map List.length).sum + (t.map fun ch => [ch]).length * ([] : List Nat).length ≤ 10000000 ∧ k (.dat (.str (joinN [] (t.map fun ch => [ch]))))) = _
  rw [sum_chars, joinN_nil, flat_chars, List.length_nil, Nat.mul_zero, Nat.add_zero]

/-! ### putting together -/
theorem bot_ok {P : Program} {w : World} {K : PySem.W.Frag} {mg : Str → Option Value} {base : Heap} {PL : PoolP} {CX : CXT} {k n : Nat} {f : Addr} {fd : FuncData} {ps : List Str} : FnOk P w K mg base CX k f fd ps (spC K PL n fun _ _ => False) :=
  ⟨fun vs H Q E ⟨_, _, _, _, _, _, _, _, h, _⟩ => h.elim, fun A outer s H args us vs Q E _ _ _ _ ⟨_, _, _, _, _, _, _, _, h, _⟩ => h.elim⟩
theorem rep_ints {K : PySem.W.Frag} {B : Hp} : ∀ ns : List Int, RepL K B (ns.map Dt.int) (ns.map V.int)
  | [] => by unfold RepL; rfl
  | n :: r => by
    rw [List.map_cons, List.map_cons]
    unfold RepL
    exact ⟨_, _, rfl, by unfold Rep; rfl, rep_ints r⟩
/-- the law's promise to its caller -/
theorem law_sp {K : PySem.W.Frag} {PL : PoolP} {F : FS} {n : Nat} (hF : ∀ ns : List Int, ns.length ≤ n → ∀ R : Res → List AArg → Prop, (∀ as, R (.dat (.bl true)) as) → F [.dat (.frz (ns.map .int))] R) {H : Hp} {a : Addr} {ns : List Int} {E : XK} (hl : ns.length ≤ n) (hS : SqL K H a (ns.map V.int)) : spC K PL 1 F [.ref a] H (fun v _ => v = .bl true) E := by
  refine ⟨H, [.dat (.frz (ns.map .int))], fun _ => [], fun r _ => r = .dat (.bl true), rfl, fun _ _ h => h, ⟨rfl, fun k x hk => ?_⟩, ⟨fun _ _ => rfl, fun _ _ _ _ h => absurd h (by simp), fun _ _ h => absurd h (by simp)⟩, hF ns hl _ fun _ => rfl, ?_⟩
  · cases k with
    | zero =>
      cases hk
      exact ⟨_, rfl, rfl, by unfold Rep; exact ⟨a, _, rfl, hS, rep_ints ns⟩⟩
    | succ k => cases hk
  · rintro r as' B' H' v fs' rfl _ _ _ _ _ _ _ _ _ h
    have h : Rep K B' (.bl true) v := h
    unfold Rep at h
    exact h
def noPool : PoolP := ⟨fun _ _ _ => False, fun _ _ _ h => h.elim, fun _ _ _ h => h.elim, fun _ _ _ _ h => h.elim⟩

theorem c_on1_dat {c : CEnv} {f : Dt → Prop} {d : Dt} : on1 (.dat d) c f = f d := by first | exact propext Iff.rfl | rfl
theorem c_on1_sl {c : CEnv} {f : Dt → Prop} {i : Nat} : on1 (.sl i) c f = onS (gt c i) f := onS_ok
theorem c_onS_dat {f : Dt → Prop} {d : Dt} : onS (.dat d) f = f d := by first | exact propext Iff.rfl | rfl
theorem c_onS_own {f : Dt → Prop} {l : List Dt} : onS (.own (.lst l)) f = f (.lst l) := by first | exact propext Iff.rfl | rfl
theorem c_onS_arg {f : Dt → Prop} {l : List Dt} : onS (.arg (.lst l)) f = f (.lst l) := by first | exact propext Iff.rfl | rfl
theorem c_on2 {r s : Res} {c : CEnv} {f : Dt → Dt → Prop} : on2 r s c f = on1 r c fun x => on1 s c fun y => f x y := by first | exact propext Iff.rfl | rfl
theorem c_hd_dat {d : Dt} : hd (.dat d) = .dat d := by first | exact propext Iff.rfl | rfl
theorem c_hd_sl {i : Nat} : hd (.sl i) = .sl i := by first | exact propext Iff.rfl | rfl
theorem c_hd_new {l : List Dt} : hd (.new (.lst l)) = .dat (.lst l) := by first | exact propext Iff.rfl | rfl
theorem c_asD_dat {k : Dt → CEnv → Prop} {c : CEnv} {d : Dt} : asD (.dat d) c k = k d c := by first | exact propext Iff.rfl | rfl
theorem c_asD_new {k : Dt → CEnv → Prop} {c : CEnv} {l : List Dt} : asD (.new (.lst l)) c k = k (.lst l) c := by first | exact propext Iff.rfl | rfl
theorem c_asD_sl {k : Dt → CEnv → Prop} {c : CEnv} {i : Nat} : asD (.sl i) c k = asS (gt c i) i c k := asS_ok
theorem c_asS_dat {k : Dt → CEnv → Prop} {c : CEnv} {i : Nat} {d : Dt} : asS (.dat d) i c k = k d c := by first | exact propext Iff.rfl | rfl
theorem c_asS_own {k : Dt → CEnv → Prop} {c : CEnv} {i : Nat} {l : List Dt} : asS (.own (.lst l)) i c k = k (.lst l) (c.set i (.dat (.lst l))) := by first | exact propext Iff.rfl | rfl
theorem c_var {Q : Res → CEnv → Prop} {c : CEnv} {i : Nat} : dVar i c Q = varS (gt c i) i c Q := varS_ok
theorem c_varS_dat {Q : Res → CEnv → Prop} {c : CEnv} {i : Nat} {d : Dt} : varS (.dat d) i c Q = Q (.dat d) c := by first | exact propext Iff.rfl | rfl
theorem c_varS_own {Q : Res → CEnv → Prop} {c : CEnv} {i : Nat} {o : Ob} : varS (.own o) i c Q = Q (.sl i) c := by first | exact propext Iff.rfl | rfl
theorem c_varS_arg {Q : Res → CEnv → Prop} {c : CEnv} {i : Nat} {o : Ob} : varS (.arg o) i c Q = Q (.sl i) c := by first | exact propext Iff.rfl | rfl
theorem c_blR {b : Bool} {k : Bool → Prop} : blR (.dat (.bl b)) k = k b := by first | exact propext Iff.rfl | rfl
theorem c_blD {b : Bool} {k : Bool → Prop} : blD (.dat (.bl b)) k = k b := by first | exact propext Iff.rfl | rfl
theorem c_tru_non {k : Bool → Prop} : tru .non k = k false := by first | exact propext Iff.rfl | rfl
theorem c_tru_bl {k : Bool → Prop} {b : Bool} : tru (.bl b) k = k b := by first | exact propext Iff.rfl | rfl
theorem c_tru_int {k : Bool → Prop} {i : Int} : tru (.int i) k = k (i != 0) := by first | exact propext Iff.rfl | rfl
theorem c_tru_lst {k : Bool → Prop} {l : List Dt} : tru (.lst l) k = k (!l.isEmpty) := by first | exact propext Iff.rfl | rfl
theorem c_tru_tup {k : Bool → Prop} {l : List Dt} : tru (.tup l) k = k (!l.isEmpty) := by first | exact propext Iff.rfl | rfl
theorem c_put_dat {k : CEnv → Prop} {c : CEnv} {i : Nat} {d : Dt} : put i (.dat d) c k = k (c.set i (.dat d)) := by first | exact propext Iff.rfl | rfl
theorem c_put_new {k : CEnv → Prop} {c : CEnv} {i : Nat} {o : Ob} : put i (.new o) c k = (i < c.length ∧ k (c.set i (.own o))) := by first | exact propext Iff.rfl | rfl
theorem c_put_sl {k : CEnv → Prop} {c : CEnv} {i : Nat} {j : Nat} : put i (.sl j) c k = putS (gt c j) i j c k := putS_ok
theorem c_putS_dat {k : CEnv → Prop} {c : CEnv} {i : Nat} {j : Nat} {d : Dt} : putS (.dat d) i j c k = k (c.set i (.dat d)) := by first | exact propext Iff.rfl | rfl
theorem c_putS_own {k : CEnv → Prop} {c : CEnv} {i : Nat} {j : Nat} {l : List Dt} : putS (.own (.lst l)) i j c k = k ((c.set j (.dat (.lst l))).set i (.dat (.lst l))) := by first | exact propext Iff.rfl | rfl
theorem c_toRet_dat {Q : Res → CEnv → Prop} {c : CEnv} {d : Dt} : toRet (.dat d) c Q = Q (.dat d) c := by first | exact propext Iff.rfl | rfl
theorem c_toRet_new {Q : Res → CEnv → Prop} {c : CEnv} {o : Ob} : toRet (.new o) c Q = Q (.new o) c := by first | exact propext Iff.rfl | rfl
theorem c_toRet_sl {Q : Res → CEnv → Prop} {c : CEnv} {i : Nat} : toRet (.sl i) c Q = toRetS (gt c i) i c Q := toRetS_ok
theorem c_toRetS_dat {Q : Res → CEnv → Prop} {c : CEnv} {i : Nat} {d : Dt} : toRetS (.dat d) i c Q = Q (.dat d) c := by first | exact propext Iff.rfl | rfl
theorem c_toRetS_own {Q : Res → CEnv → Prop} {c : CEnv} {i : Nat} {o : Ob} : toRetS (.own o) i c Q = Q (.sl i) c := by first | exact propext Iff.rfl | rfl
theorem c_retC_dat {Q : Res → CEnv → Prop} {c : CEnv} {d : Dt} : retC (.dat d) c Q = Q (.dat d) c := by first | exact propext Iff.rfl | rfl
theorem c_retC_new {Q : Res → CEnv → Prop} {c : CEnv} {o : Ob} : retC (.new o) c Q = Q (.new o) c := by first | exact propext Iff.rfl | rfl
theorem c_ends_rt {R : Res → List AArg → Prop} {as : List AArg} {r : Res} {c : CEnv} : (fnEnds as R).rt r c = retB as R r c := by first | exact propext Iff.rfl | rfl
theorem c_ends_nx {R : Res → List AArg → Prop} {as : List AArg} {c : CEnv} : (fnEnds as R).nx c = bk as c (R (.dat .non)) := by first | exact propext Iff.rfl | rfl
theorem c_ends_bk {R : Res → List AArg → Prop} {as : List AArg} {c : CEnv} : (fnEnds as R).bk c = False := by first | exact propext Iff.rfl | rfl
theorem c_ends_ct {R : Res → List AArg → Prop} {as : List AArg} {c : CEnv} : (fnEnds as R).ct c = False := by first | exact propext Iff.rfl | rfl
theorem c_retB_dat {R : Res → List AArg → Prop} {as : List AArg} {c : CEnv} {d : Dt} : retB as R (.dat d) c = bk as c (R (.dat d)) := by first | exact propext Iff.rfl | rfl
theorem c_retB_new {R : Res → List AArg → Prop} {as : List AArg} {c : CEnv} {o : Ob} : retB as R (.new o) c = bk as c (R (.new o)) := by first | exact propext Iff.rfl | rfl
theorem c_retB_sl {R : Res → List AArg → Prop} {as : List AArg} {c : CEnv} {i : Nat} : retB as R (.sl i) c = retBS (gt c i) as R c := retBS_ok
theorem c_retBS_own {R : Res → List AArg → Prop} {as : List AArg} {c : CEnv} {o : Ob} : retBS (.own o) as R c = bk as c (R (.new o)) := by first | exact propext Iff.rfl | rfl
theorem c_bk_nil {k : List AArg → Prop} {c : CEnv} : bk [] c k = k [] := by cases c <;> rfl
theorem c_bk_dat {k : List AArg → Prop} {as : List AArg} {c : CEnv} {d : Dt} {s : Slot} : bk (.dat d :: as) (s :: c) k = bk as c fun r => k (.dat d :: r) := bk_dat_ok
theorem c_bk_ob {k : List AArg → Prop} {as : List AArg} {c : CEnv} {o o' : Ob} : bk (.ob o :: as) (.arg o' :: c) k = bk as c fun r => k (.ob o' :: r) := bk_ob_ok
theorem c_gt0 {c : CEnv} {s : Slot} : gt (s :: c) 0 = s := by first | exact propext Iff.rfl | rfl
theorem c_gtS {c : CEnv} {s : Slot} {n : Nat} : gt (s :: c) (n + 1) = gt c n := by first | exact propext Iff.rfl | rfl
theorem c_fsub {k : Res → Prop} {i j : Int} : fSub (.int i) (.int j) k = (True ∧ k (.dat (.int (i - j)))) := by first | exact propext Iff.rfl | rfl
theorem c_faddI {k : Res → Prop} {i j : Int} : fAddI (.int i) (.int j) k = (True ∧ k (.dat (.int (i + j)))) := by first | exact propext Iff.rfl | rfl
theorem c_fadd_int {k : Res → Prop} {i j : Int} : fAdd (.int i) (.int j) k = k (.dat (.int (i + j))) := by first | exact propext Iff.rfl | rfl
theorem c_fadd_str {k : Res → Prop} {s t : List Nat} : fAdd (.str s) (.str t) k = (s.length + t.length ≤ 10000000 ∧ k (.dat (.str (s ++ t)))) := by first | exact propext Iff.rfl | rfl
theorem c_fadd_lst {k : Res → Prop} {l m : List Dt} : fAdd (.lst l) (.lst m) k = (l.length + m.length ≤ 10000000 ∧ k (.new (.lst (l ++ m)))) := by first | exact propext Iff.rfl | rfl
theorem c_fadd_tup {k : Res → Prop} {l m : List Dt} : fAdd (.tup l) (.tup m) k = (l ≠ [] ∧ l.length + m.length ≤ 10000000 ∧ k (.dat (.tup (l ++ m)))) := by first | exact propext Iff.rfl | rfl
theorem c_fmul_int {k : Res → Prop} {i j : Int} : fMul (.int i) (.int j) k = (((-(2 ^ 64) < i ∧ i < 2 ^ 64) ∨ (-(2 ^ 64) < j ∧ j < 2 ^ 64)) ∧ k (.dat (.int (i * j)))) := by first | exact propext Iff.rfl | rfl
theorem c_fmul_lst {k : Res → Prop} {l : List Dt} {n : Int} : fMul (.lst l) (.int n) k = ((n ≤ 10000000 ∧ -10000000 ≤ n ∧ l.length * n.toNat ≤ 10000000) ∧ k (.new (.lst (List.replicate n.toNat l).flatten))) := by first | exact propext Iff.rfl | rfl
theorem c_fmul_str {k : Res → Prop} {s : List Nat} {n : Int} : fMul (.str s) (.int n) k = ((n ≤ 10000000 ∧ -10000000 ≤ n ∧ s.length * n.toNat ≤ 10000000) ∧ k (.dat (.str (List.replicate n.toNat s).flatten))) := by first | exact propext Iff.rfl | rfl
theorem c_fdiv {k : Res → Prop} {i j : Int} : fDiv (.int i) (.int j) k = ((0 < j ∧ j < 1073741824) ∧ k (.dat (.int (i / j)))) := by first | exact propext Iff.rfl | rfl
theorem c_fmod {k : Res → Prop} {i j : Int} : fMod (.int i) (.int j) k = (0 < j ∧ k (.dat (.int (i % j)))) := by first | exact propext Iff.rfl | rfl
theorem c_fpow {k : Res → Prop} {i j : Int} : fPow (.int i) (.int j) k = (CPow i j ∧ k (.dat (.int (i ^ j.toNat)))) := by first | exact propext Iff.rfl | rfl
theorem c_fshl {k : Res → Prop} {i j : Int} : fShl (.int i) (.int j) k = (CPow i j ∧ k (.dat (.int (i * 2 ^ j.toNat)))) := by first | exact propext Iff.rfl | rfl
theorem c_fshr {k : Res → Prop} {i j : Int} : fShr (.int i) (.int j) k = (0 ≤ j ∧ k (.dat (.int (i / 2 ^ j.toNat)))) := by first | exact propext Iff.rfl | rfl
theorem c_fand {k : Res → Prop} {i j : Int} : fAnd (.int i) (.int j) k = (True ∧ k (.dat (.int (Builtin.bitAnd i j)))) := by first | exact propext Iff.rfl | rfl
theorem c_for {k : Res → Prop} {i j : Int} : fOr (.int i) (.int j) k = (True ∧ k (.dat (.int (Builtin.bitOr i j)))) := by first | exact propext Iff.rfl | rfl
theorem c_fxor {k : Res → Prop} {i j : Int} : fXor (.int i) (.int j) k = (True ∧ k (.dat (.int (Builtin.bitXor i j)))) := by first | exact propext Iff.rfl | rfl
theorem c_flt {k : Res → Prop} {i j : Int} : fLt (.int i) (.int j) k = (True ∧ k (.dat (.bl (decide (i < j))))) := by first | exact propext Iff.rfl | rfl
theorem c_fle {k : Res → Prop} {i j : Int} : fLe (.int i) (.int j) k = (True ∧ k (.dat (.bl (decide (i ≤ j))))) := by first | exact propext Iff.rfl | rfl
theorem c_fgt {k : Res → Prop} {i j : Int} : fGt (.int i) (.int j) k = (True ∧ k (.dat (.bl (decide (j < i))))) := by first | exact propext Iff.rfl | rfl
theorem c_fge {k : Res → Prop} {i j : Int} : fGe (.int i) (.int j) k = (True ∧ k (.dat (.bl (decide (j ≤ i))))) := by first | exact propext Iff.rfl | rfl
theorem c_fneg {k : Res → Prop} {i : Int} : fNeg (.int i) k = k (.dat (.int (-i))) := by first | exact propext Iff.rfl | rfl
theorem c_feq_int {k : Res → Prop} {i j : Int} : fEq (.int i) (.int j) k = k (.dat (.bl (decide (i = j)))) := by unfold fEq; rw [eqD_int]; simp [okEq, scD]
theorem c_fne_int {k : Res → Prop} {i j : Int} : fNe (.int i) (.int j) k = k (.dat (.bl (!decide (i = j)))) := by unfold fNe; rw [eqD_int]; simp [okEq, scD]
theorem c_feq_str {k : Res → Prop} {i j : List Nat} : fEq (.str i) (.str j) k = k (.dat (.bl (decide (i = j)))) := by unfold fEq; rw [eqD_str]; simp [okEq, scD]
theorem c_fne_str {k : Res → Prop} {i j : List Nat} : fNe (.str i) (.str j) k = k (.dat (.bl (!decide (i = j)))) := by unfold fNe; rw [eqD_str]; simp [okEq, scD]
theorem c_feq_bl {k : Res → Prop} {i j : Bool} : fEq (.bl i) (.bl j) k = k (.dat (.bl (i == j))) := by unfold fEq; rw [eqD_bl]; simp [okEq, scD]
theorem c_fne_bl {k : Res → Prop} {i j : Bool} : fNe (.bl i) (.bl j) k = k (.dat (.bl (!(i == j)))) := by unfold fNe; rw [eqD_bl]; simp [okEq, scD]
theorem c_fin_str {k : Res → Prop} {s t : List Nat} {neg : Bool} : fIn neg (.str s) (.str t) k = one1 s fun ch => k (.dat (.bl (decide (ch ∈ t) != neg))) := by first | exact propext Iff.rfl | rfl
theorem c_fin_lst {k : Res → Prop} {x : Dt} {l : List Dt} {neg : Bool} : fIn neg x (.lst l) k = ((flatD x = true ∧ l.all flatD = true) ∧ k (.dat (.bl ((l.any fun y => eqD y x) != neg)))) := fIn_lst
theorem c_fin_tup {k : Res → Prop} {x : Dt} {l : List Dt} {neg : Bool} : fIn neg x (.tup l) k = ((flatD x = true ∧ l.all flatD = true) ∧ k (.dat (.bl ((l.any fun y => eqD y x) != neg)))) := fIn_tup
theorem c_fisn {k : Res → Prop} {x : Dt} {neg : Bool} : fIsN neg x .non k = k (.dat (.bl (isN x != neg))) := by first | exact propext Iff.rfl | rfl
theorem c_fisb {k : Res → Prop} {x : Dt} {v : Bool} : fIsB v x (.bl v) k = (True ∧ k (.dat (.bl (isB v x)))) := by unfold fIsB; simp
theorem c_isn_non  : isN Dt.non = true := by first | exact propext Iff.rfl | rfl
theorem c_isb_non  {v : Bool} : isB v Dt.non = false := by first | exact propext Iff.rfl | rfl
theorem c_tyd_non  : tyD Dt.non = "NoneType" := by first | exact propext Iff.rfl | rfl
theorem c_isn_bl {b : Bool} : isN (.bl b) = false := by first | exact propext Iff.rfl | rfl
theorem c_isb_bl {b : Bool} {v : Bool} : isB v (.bl b) = (b == v) := by first | exact propext Iff.rfl | rfl
theorem c_tyd_bl {b : Bool} : tyD (.bl b) = "bool" := by first | exact propext Iff.rfl | rfl
theorem c_isn_int {i : Int} : isN (.int i) = false := by first | exact propext Iff.rfl | rfl
theorem c_isb_int {i : Int} {v : Bool} : isB v (.int i) = false := by first | exact propext Iff.rfl | rfl
theorem c_tyd_int {i : Int} : tyD (.int i) = "int" := by first | exact propext Iff.rfl | rfl
theorem c_isn_str {s : List Nat} : isN (.str s) = false := by first | exact propext Iff.rfl | rfl
theorem c_isb_str {s : List Nat} {v : Bool} : isB v (.str s) = false := by first | exact propext Iff.rfl | rfl
theorem c_tyd_str {s : List Nat} : tyD (.str s) = "str" := by first | exact propext Iff.rfl | rfl
theorem c_isn_tup {l : List Dt} : isN (.tup l) = false := by first | exact propext Iff.rfl | rfl
theorem c_isb_tup {l : List Dt} {v : Bool} : isB v (.tup l) = false := by first | exact propext Iff.rfl | rfl
theorem c_tyd_tup {l : List Dt} : tyD (.tup l) = "tuple" := by first | exact propext Iff.rfl | rfl
theorem c_isn_lst {l : List Dt} : isN (.lst l) = false := by first | exact propext Iff.rfl | rfl
theorem c_isb_lst {l : List Dt} {v : Bool} : isB v (.lst l) = false := by first | exact propext Iff.rfl | rfl
theorem c_tyd_lst {l : List Dt} : tyD (.lst l) = "list" := by first | exact propext Iff.rfl | rfl
theorem c_isn_frz {l : List Dt} : isN (.frz l) = false := by first | exact propext Iff.rfl | rfl
theorem c_isb_frz {l : List Dt} {v : Bool} : isB v (.frz l) = false := by first | exact propext Iff.rfl | rfl
theorem c_tyd_frz {l : List Dt} : tyD (.frz l) = "list" := by first | exact propext Iff.rfl | rfl
theorem c_isi_NoneType_bool  : isiB "NoneType" "bool" = false := by decide
theorem c_isi_NoneType_int  : isiB "NoneType" "int" = false := by decide
theorem c_isi_NoneType_str  : isiB "NoneType" "str" = false := by decide
theorem c_isi_NoneType_tuple  : isiB "NoneType" "tuple" = false := by decide
theorem c_isi_NoneType_list  : isiB "NoneType" "list" = false := by decide
theorem c_isi_bool_bool  : isiB "bool" "bool" = true := by decide
theorem c_isi_bool_int  : isiB "bool" "int" = true := by decide
theorem c_isi_bool_str  : isiB "bool" "str" = false := by decide
theorem c_isi_bool_tuple  : isiB "bool" "tuple" = false := by decide
theorem c_isi_bool_list  : isiB "bool" "list" = false := by decide
theorem c_isi_int_bool  : isiB "int" "bool" = false := by decide
theorem c_isi_int_int  : isiB "int" "int" = true := by decide
theorem c_isi_int_str  : isiB "int" "str" = false := by decide
theorem c_isi_int_tuple  : isiB "int" "tuple" = false := by decide
theorem c_isi_int_list  : isiB "int" "list" = false := by decide
theorem c_isi_str_bool  : isiB "str" "bool" = false := by decide
theorem c_isi_str_int  : isiB "str" "int" = false := by decide
theorem c_isi_str_str  : isiB "str" "str" = true := by decide
theorem c_isi_str_tuple  : isiB "str" "tuple" = false := by decide
theorem c_isi_str_list  : isiB "str" "list" = false := by decide
theorem c_isi_tuple_bool  : isiB "tuple" "bool" = false := by decide
theorem c_isi_tuple_int  : isiB "tuple" "int" = false := by decide
theorem c_isi_tuple_str  : isiB "tuple" "str" = false := by decide
theorem c_isi_tuple_tuple  : isiB "tuple" "tuple" = true := by decide
theorem c_isi_tuple_list  : isiB "tuple" "list" = false := by decide
theorem c_isi_list_bool  : isiB "list" "bool" = false := by decide
theorem c_isi_list_int  : isiB "list" "int" = false := by decide
theorem c_isi_list_str  : isiB "list" "str" = false := by decide
theorem c_isi_list_tuple  : isiB "list" "tuple" = false := by decide
theorem c_isi_list_list  : isiB "list" "list" = true := by decide
theorem c_fix_lst {k : Res → Prop} {l : List Dt} {i : Int} : fIx (.lst l) (.int i) k = ixL l i k := by first | exact propext Iff.rfl | rfl
theorem c_fix_tup {k : Res → Prop} {l : List Dt} {i : Int} : fIx (.tup l) (.int i) k = ixL l i k := by first | exact propext Iff.rfl | rfl
theorem c_fix_frz {k : Res → Prop} {l : List Dt} {i : Int} : fIx (.frz l) (.int i) k = ixL l i k := by first | exact propext Iff.rfl | rfl
theorem c_fix_str {k : Res → Prop} {s : List Nat} {i : Int} : fIx (.str s) (.int i) k = (s.length ≤ 10000000 ∧ ixS s i k) := by first | exact propext Iff.rfl | rfl
theorem c_ixL0 {k : Res → Prop} {d : Dt} {l : List Dt} : ixL (d :: l) 0 k = k (.dat d) := ixL_n (n := 0) rfl
theorem c_ixL1 {k : Res → Prop} {d e : Dt} {l : List Dt} : ixL (d :: e :: l) 1 k = k (.dat e) := ixL_n (n := 1) rfl
theorem c_ixL2 {k : Res → Prop} {d e f : Dt} {l : List Dt} : ixL (d :: e :: f :: l) 2 k = k (.dat f) := ixL_n (n := 2) rfl
theorem c_ixL3 {k : Res → Prop} {d e f g : Dt} {l : List Dt} : ixL (d :: e :: f :: g :: l) 3 k = k (.dat g) := ixL_n (n := 3) rfl
theorem c_len_lst {k : Res → Prop} {l : List Dt} : lenD (.lst l) k = k (.dat (.int l.length)) := by first | exact propext Iff.rfl | rfl
theorem c_len_tup {k : Res → Prop} {l : List Dt} : lenD (.tup l) k = k (.dat (.int l.length)) := by first | exact propext Iff.rfl | rfl
theorem c_len_frz {k : Res → Prop} {l : List Dt} : lenD (.frz l) k = k (.dat (.int l.length)) := by first | exact propext Iff.rfl | rfl
theorem c_len_str {k : Res → Prop} {s : List Nat} : lenD (.str s) k = (s.length ≤ 10000000 ∧ k (.dat (.int s.length))) := by first | exact propext Iff.rfl | rfl
theorem c_int1_int {k : Res → Prop} {i : Int} : int1D (.int i) k = k (.dat (.int i)) := by first | exact propext Iff.rfl | rfl
theorem c_int1_bl {k : Res → Prop} {b : Bool} : int1D (.bl b) k = k (.dat (.int (if b then 1 else 0))) := by first | exact propext Iff.rfl | rfl
theorem c_abs {k : Res → Prop} {i : Int} : absD (.int i) k = k (.dat (.int (if i < 0 then -i else i))) := by first | exact propext Iff.rfl | rfl
theorem c_min2 {k : Res → Prop} {i j : Int} : fMin2 [.int i, .int j] k = (True ∧ k (.dat (.int (min i j)))) := by first | exact propext Iff.rfl | rfl
theorem c_max2 {k : Res → Prop} {i j : Int} : fMax2 [.int i, .int j] k = (True ∧ k (.dat (.int (max i j)))) := by first | exact propext Iff.rfl | rfl
theorem c_len {k : Res → Prop} {x : Dt} : fLen [x] k = lenD x k := by first | exact propext Iff.rfl | rfl
theorem c_int1 {k : Res → Prop} {x : Dt} : fInt1 [x] k = int1D x k := by first | exact propext Iff.rfl | rfl
theorem c_fabs {k : Res → Prop} {x : Dt} : fAbs [x] k = absD x k := by first | exact propext Iff.rfl | rfl
theorem c_ftuple {k : Res → Prop} {x : Dt} : fTuple [x] k = tupleD x k := by first | exact propext Iff.rfl | rfl
theorem c_flist {k : Res → Prop} {x : Dt} : fList [x] k = listD x k := by first | exact propext Iff.rfl | rfl
theorem c_tuple_lst {k : Res → Prop} {l : List Dt} : tupleD (.lst l) k = k (.dat (.tup l)) := by first | exact propext Iff.rfl | rfl
theorem c_tuple_tup {k : Res → Prop} {l : List Dt} : tupleD (.tup l) k = k (.dat (.tup l)) := by first | exact propext Iff.rfl | rfl
theorem c_list_lst {k : Res → Prop} {l : List Dt} : listD (.lst l) k = k (.new (.lst l)) := by first | exact propext Iff.rfl | rfl
theorem c_list_tup {k : Res → Prop} {l : List Dt} : listD (.tup l) k = k (.new (.lst l)) := by first | exact propext Iff.rfl | rfl
theorem c_sl_lst {k : Res → Prop}{lo hi : Option Int} {l : List Dt} : fSl (.lst l) lo hi k = k (.new (.lst (cut l lo hi))) := by first | exact propext Iff.rfl | rfl
theorem c_sl_str {k : Res → Prop}{lo hi : Option Int} {s : List Nat} : fSl (.str s) lo hi k = (s.length ≤ 10000000 ∧ k (.dat (.str (cut s lo hi)))) := by first | exact propext Iff.rfl | rfl
theorem c_sl_tup {k : Res → Prop}{lo hi : Option Int} {l : List Dt} : fSl (.tup l) lo hi k = (¬ (HT.sIx l.length 0 lo = 0 ∧ HT.sIx l.length l.length hi = l.length) ∧ k (.dat (.tup (cut l lo hi)))) := by first | exact propext Iff.rfl | rfl
theorem c_part_int {Q : Option Int → CEnv → Prop} {c : CEnv} {i : Int} : partQ (.dat (.int i)) c Q = Q (some i) c := by first | exact propext Iff.rfl | rfl
theorem c_part {de : DE} {c : CEnv} {Q : Option Int → CEnv → Prop} : dPart de c Q = de c fun r c1 => partQ r c1 Q := dPart_ok
theorem c_mappend {k : Dt → List Dt → Prop} {l : List Dt} {d : Dt} : mAppend l [d] k = (l.length < 10000000 ∧ k .non (l ++ [d])) := by first | exact propext Iff.rfl | rfl
theorem c_mpop {k : Dt → List Dt → Prop} {l : List Dt} : mPop l [] k = popL l k := popL_ok
theorem c_obS_own {k : List Dt → Prop} {l : List Dt} : obS (.own (.lst l)) k = k l := by first | exact propext Iff.rfl | rfl
theorem c_setS_own {c : CEnv} {i : Nat} {o : Ob} {m : List Dt} : setS (.own o) c i m = c.set i (.own (.lst m)) := by first | exact propext Iff.rfl | rfl
theorem c_obS_arg {k : List Dt → Prop} {l : List Dt} : obS (.arg (.lst l)) k = k l := by first | exact propext Iff.rfl | rfl
theorem c_setS_arg {c : CEnv} {i : Nat} {o : Ob} {m : List Dt} : setS (.arg o) c i m = c.set i (.arg (.lst m)) := by first | exact propext Iff.rfl | rfl
theorem c_obL {k : List Dt → Prop} {c : CEnv} {i : Nat} : obL c i k = obS (gt c i) k := obS_ok
theorem c_setL {c : CEnv} {i : Nat} {m : List Dt} : setL c i m = setS (gt c i) c i m := setS_ok
theorem c_setIx {i : Nat} {dx de : DE} {E : CEnds} {c : CEnv} : dSetIx i dx de E c = de c fun r c1 => asD r c1 fun d c2 => obL c2 i fun _ => dx c2 fun rx c3 => ixQ rx c3 i d E.nx := dSetIx_ok
theorem c_ixQ {j : Int} {c : CEnv} {i : Nat} {d : Dt} {k : CEnv → Prop} : ixQ (.dat (.int j)) c i d k = obL c i fun l => setN (ixN l.length j) c i l d k := by first | exact propext Iff.rfl | rfl
theorem c_setN {n : Nat} {c : CEnv} {i : Nat} {l : List Dt} {d : Dt} {k : CEnv → Prop} : setN (some n) c i l d k = k (setL c i (l.set n d)) := by first | exact propext Iff.rfl | rfl
theorem c_ixN10  : ixN 1 0 = some 0 := by decide
theorem c_ixN20  : ixN 2 0 = some 0 := by decide
theorem c_ixN21  : ixN 2 1 = some 1 := by decide
theorem c_ixN30  : ixN 3 0 = some 0 := by decide
theorem c_ixN31  : ixN 3 1 = some 1 := by decide
theorem c_ixN32  : ixN 3 2 = some 2 := by decide
theorem c_mt {f : MtF} {de : DE} {da : DA} {c : CEnv} {Q : Res → CEnv → Prop} : dMt f de da c Q = de c fun r c1 => mtQ r f da c1 Q := dMt_ok
theorem c_mtQ {f : MtF} {da : DA} {c : CEnv} {Q : Res → CEnv → Prop} {s : List Nat} : mtQ (.dat (.str s)) f da c Q = da c fun rs c2 => vws rs c2 fun xs => f (.str s) xs fun z => Q z c2 := by first | exact propext Iff.rfl | rfl
theorem c_vws_nil {c : CEnv} {k : List Dt → Prop} : vws [] c k = k [] := by first | exact propext Iff.rfl | rfl
theorem c_vws_cons {c : CEnv} {k : List Dt → Prop} {r : Res} {rs : List Res} : vws (r :: rs) c k = on1 r c fun x => vws rs c fun xs => k (x :: xs) := by first | exact propext Iff.rfl | rfl
theorem c_rfind4 {k : Res → Prop} {s t : List Nat} {lo hi : Int} : fRfind4 (.str s) [.str t, .int lo, .int hi] k = one1 t fun ch => (s.length ≤ 10000000 ∧ 0 ≤ lo ∧ 0 ≤ hi) ∧ ∀ v, IsLast s ch lo.toNat (min hi.toNat s.length) v → k (.dat (.int v)) := by first | exact propext Iff.rfl | rfl
theorem c_rfind {k : Res → Prop} {s t : List Nat} : fRfind (.str s) [.str t] k = one1 t fun ch => s.length ≤ 10000000 ∧ ∀ v, IsLast s ch 0 s.length v → k (.dat (.int v)) := by first | exact propext Iff.rfl | rfl
theorem c_join_lst {k : Res → Prop} {s : List Nat} {l : List Dt} : fJoin (.str s) [.lst l] k = joinK s l k := by first | exact propext Iff.rfl | rfl
theorem c_join_tup {k : Res → Prop} {s : List Nat} {l : List Dt} : fJoin (.str s) [.tup l] k = joinK s l k := by first | exact propext Iff.rfl | rfl
theorem c_one1 {ch : Nat} {k : Nat → Prop} : one1 [ch] k = k ch := by first | exact propext Iff.rfl | rfl
theorem c_cints2 {a b : Int} {k : Int → Int → Prop} : cints2 [.int a, .int b] k = k a b := by first | exact propext Iff.rfl | rfl
theorem c_cints3 {a b d : Int} {k : Int → Int → Int → Prop} : cints3 [.int a, .int b, .int d] k = k a b d := by first | exact propext Iff.rfl | rfl
theorem c_own {i : Nat} {dv : DV} {c : CEnv} {Q : List AV → CEnv → Prop} : vOwn i dv c Q = (isOb (gt c i) ∧ dv c fun avs c3 => Q (.own i :: avs) c3) := vOwn_ok
theorem c_isOb_own {o : Ob} : isOb (.own o) = True := by first | exact propext Iff.rfl | rfl
theorem c_isOb_arg {o : Ob} : isOb (.arg o) = True := by first | exact propext Iff.rfl | rfl
theorem c_callQ {F : FS} {avs : List AV} {c : CEnv} {Q : Res → CEnv → Prop} : callQ F avs c Q = (nodupO avs = true ∧ lookQ avs c fun as => F as fun r as' => retC r (putA avs as' 0 c) Q) := callQ_ok
theorem c_look_nil {c : CEnv} {k : List AArg → Prop} : lookQ [] c k = k [] := by first | exact propext Iff.rfl | rfl
theorem c_look_dat {c : CEnv} {k : List AArg → Prop} {d : Dt} {r : List AV} : lookQ (.dat d :: r) c k = lookQ r c fun as => k (.dat d :: as) := lookQ_dat
theorem c_look_own {c : CEnv} {k : List AArg → Prop} {i : Nat} {r : List AV} : lookQ (.own i :: r) c k = lookS (gt c i) fun o => lookQ r c fun as => k (.ob o :: as) := lookQ_own
theorem c_lookS_own {k : Ob → Prop} {o : Ob} : lookS (.own o) k = k o := by first | exact propext Iff.rfl | rfl
theorem c_lookS_arg {k : Ob → Prop} {o : Ob} : lookS (.arg o) k = k o := by first | exact propext Iff.rfl | rfl
theorem c_nd_nil  : nodupO [] = true := by first | exact propext Iff.rfl | rfl
theorem c_nd_dat {d : Dt} {r : List AV} : nodupO (.dat d :: r) = nodupO r := by first | exact propext Iff.rfl | rfl
theorem c_nd_own {i : Nat} {r : List AV} : nodupO (.own i :: r) = (notIn i r && nodupO r) := nd_own_ok
theorem c_ni_nil {i : Nat} : notIn i [] = true := by first | exact propext Iff.rfl | rfl
theorem c_ni_dat {i : Nat} {d : Dt} {r : List AV} : notIn i (.dat d :: r) = notIn i r := by simp [notIn]
theorem c_ni_own {i j : Nat} {r : List AV} : notIn i (.own j :: r) = (i != j && notIn i r) := by first | exact propext Iff.rfl | rfl
theorem c_putA_nil {avs : List AV} {as : List AArg} {j : Nat} : putA avs as j [] = [] := by first | exact propext Iff.rfl | rfl
theorem c_putA_cons {avs : List AV} {as : List AArg} {j : Nat} {s : Slot} {c : CEnv} : putA avs as j (s :: c) = newSlot s (ownAt avs as j) :: putA avs as (j + 1) c := by first | exact propext Iff.rfl | rfl
theorem c_new_none {s : Slot} : newSlot s none = s := by first | exact propext Iff.rfl | rfl
theorem c_new_arg {o o' : Ob} : newSlot (.arg o) (some o') = .arg o' := by first | exact propext Iff.rfl | rfl
theorem c_new_own {o o' : Ob} : newSlot (.own o) (some o') = .own o' := by first | exact propext Iff.rfl | rfl
theorem c_oa_nil {j : Nat} {as : List AArg} : ownAt [] as j = none := by cases as <;> rfl
theorem c_oa_dat {j : Nat} {d : Dt} {a : AArg} {avs : List AV} {as : List AArg} : ownAt (.dat d :: avs) (a :: as) j = ownAt avs as j := by first | exact propext Iff.rfl | rfl
theorem c_oa_own {i j : Nat} {o : Ob} {avs : List AV} {as : List AArg} : ownAt (.own i :: avs) (.ob o :: as) j = if i = j then some o else ownAt avs as j := by first | exact propext Iff.rfl | rfl
theorem c_gT {n : Nat} {gs : DGs} {l : List Dt} {c : CEnv} {Q : CEnv → Prop} : gT n gs (.tup l) c Q = (l.length = n ∧ gs l c Q) := by first | exact propext Iff.rfl | rfl
theorem c_gsCons {g : DG} {gs : DGs} {d : Dt} {l : List Dt} {c : CEnv} {Q : CEnv → Prop} : gsCons g gs (d :: l) c Q = g d c fun c1 => gs l c1 Q := by first | exact propext Iff.rfl | rfl
theorem c_gsNil {c : CEnv} {Q : CEnv → Prop} : gsNil [] c Q = Q c := by simp [gsNil]
theorem c_gN {i : Nat} {d : Dt} {c : CEnv} {Q : CEnv → Prop} : gN i d c Q = Q (c.set i (.dat d)) := by first | exact propext Iff.rfl | rfl
theorem c_it_lst {k : List Dt → Prop} {l : List Dt} : itemsD (.lst l) k = k l := by first | exact propext Iff.rfl | rfl
theorem c_it_tup {k : List Dt → Prop} {l : List Dt} : itemsD (.tup l) k = k l := by first | exact propext Iff.rfl | rfl
theorem c_it_frz {k : List Dt → Prop} {l : List Dt} : itemsD (.frz l) k = k l := by first | exact propext Iff.rfl | rfl
theorem c_it_str {k : List Dt → Prop} {s : List Nat} : itemsD (.str s) k = k (chs s) := by first | exact propext Iff.rfl | rfl
theorem c_rng1 {da : DL} {c : CEnv} {Q : List Dt → CEnv → Prop} : dRng1 da c Q = da c fun ds c1 => rngQ ds fun n => (n ≤ 1000000000 ∧ -1000000000 ≤ n) ∧ Q (rngD 0 n.toNat) c1 := dRng1_ok
theorem c_rngQ {n : Int} {k : Int → Prop} : rngQ [.int n] k = k n := by first | exact propext Iff.rfl | rfl
theorem c_par {i j : Nat} {da : DL} {E : CEnds} {c : CEnv} : dPar i j da E c = da c fun ds c1 => two ds fun d e => E.nx ((c1.set i (.dat d)).set j (.dat e)) := dPar_ok
theorem c_two {d e : Dt} {k : Dt → Dt → Prop} : two [d, e] k = k d e := by first | exact propext Iff.rfl | rfl
theorem c_aug {i : Nat} {f : OpF} {de : DE} {E : CEnds} {c : CEnv} : dAug i f de E c = augS (gt c i) i f de E c := dAug_ok
theorem c_augS {i : Nat} {f : OpF} {de : DE} {E : CEnds} {c : CEnv} {x : Dt} : augS (.dat x) i f de E c = de c fun r c1 => on1 (hd r) c1 fun y => f x y fun z => put i z c1 E.nx := by first | exact propext Iff.rfl | rfl
theorem c_loop {di : DI} {g : DG} {body : DS} {E : CEnds} {c : CEnv} : dFor di g body E c = di c fun ds c1 => FI ds g body E c1 := dFor_ok
theorem c_lc {di : DI} {g : DG} {dt : DT} {de : DE} {vs : List Nat} {c : CEnv} {Q : Res → CEnv → Prop} : dLc di g dt de vs c Q = di c fun ds c1 => LCI ds g dt de vs c1 Q := dLc_ok
end Cl

namespace Cl
open PySem PySem.Spec PyProof.Rows L2
/-! ### enumerate(x), x a tuple or a text -/
/-- iter begun: enumerate of one argument -/
theorem enum_one {v : Value} {ob : Obj} {HH : Heap → Prop} (Bg : Begins v ob HH) :
    Meets (Builtin.«enumerate.__new__» ⟨[.type "enumerate", v], []⟩) (fun _ RR st => HH st.heap ∧
      RR (.ok (.ret (.ref (st.heap.push ob).objs.size))) { st with heap := (st.heap.push ob).push { cls := .type "enumerate", data := .fields #[.none, .bool false, .ref st.heap.objs.size, rawInt 0, .none, .none] } }) :=
  .of_wp fun prg wd AA RR st hh => by
    obtain ⟨hp, gg, dd, tt, oo⟩ := st
    obtain ⟨h1, hh⟩ := hh
    have hsub := sub_enumerate
    have qq : ∀ {A' : Around} {E : Value → Shared → Prop} {Q : Value → Shared → Prop}, Q (.ref hp.objs.size) ⟨hp.push ob, gg, dd, tt, oo⟩ → wpAny (model prg wd) A' (pyIter v) Q E ⟨hp, gg, dd, tt, oo⟩ :=
      fun q => Bg.iter prg wd _ _ ⟨hp, gg, dd, tt, oo⟩ _ h1 q
    wp_walk using qq
    refine wpAny_stack_any fun stk => wpAny_pure ?_
    split
    · rename_i c _ _ _ _ _
      cases (c == Value.type "enumerate")
      · wp_walk using qq
        exact ⟨_, rfl, hh⟩
      · wp_walk using qq
        exact ⟨_, rfl, hh⟩
    · wp_walk using qq
      exact ⟨_, rfl, hh⟩
theorem call_enum1 {prog : Program} {w : World} {A : Around} {E : Value → Shared → Prop} {s : Shared} {v : Value} {o : Obj} {H : Heap → Prop} {Q : Value → Shared → Prop} (B : Begins v o H) (h1 : H s.heap)
    (h : ∀ h', IsEnum h' (s.heap.objs.size + 1) s.heap.objs.size 0 .none → h'.get? s.heap.objs.size = some o → h'.objs.size = s.heap.objs.size + 2 →
      (∀ b o, s.heap.get? b = some o → h'.get? b = some o) → Q (.ref (s.heap.objs.size + 1)) { s with heap := h' }) :
    wpAny (model prog w) A (call (.type "enumerate") [v]) Q E s := by
  refine callType_new F.called_enumerate (by decide) (F.typeCall_enumerate_1 _) (F.newCall_enumerate_1 _) (fun oo => F.args_object_init_2 oo _) F.entry_enumerate_new (enum_one B) ⟨h1, ?_⟩
  have zz : (s.heap.push o).objs.size = s.heap.objs.size + 1 := Heap.size_push ..
  show _ ∧ _
  rw [zz]
  have ee : IsEnum ((s.heap.push o).push { cls := .type "enumerate", data := .fields #[.none, .bool false, .ref s.heap.objs.size, rawInt 0, .none, .none] }) (s.heap.objs.size + 1) s.heap.objs.size 0 .none := by
    have := Heap.get?_push_size (s.heap.push o) (o := { cls := .type "enumerate", data := .fields #[.none, .bool false, .ref s.heap.objs.size, rawInt 0, .none, .none] }) rfl
    rw [zz] at this
    exact this
  exact ⟨⟨_, ee, rfl⟩, h _ ee (Heap.get?_push_of_some _ (Heap.get?_push_size _ B.free)) (by rw [Heap.size_push, zz]) fun b o x => Heap.get?_push_of_some _ (Heap.get?_push_of_some _ x)⟩
/-- pairs of a number and an item -/
def Itnp (GG : Hp → Prop) (n : Nat) (Fx : Nat → V → Prop) : It :=
  ⟨fun i H => i < n ∧ GG H, fun i H v H' => ∃ T x, v = .ref T ∧ H T = none ∧ H' = upd H T (.tup [.int (i : Nat), x]) ∧ Fx i x, fun i H => n ≤ i ∧ GG H⟩
/-- one turn of an enumerate over anything that is drawn -/
theorem enum_turn {X : Cx} {elts : List Expr} {kk : Nat} {tpos : Pos} {pins : List (Addr × Obj)} {s : Shared} {σ : L2.St} {H : Hp} {E : Value → Shared → Prop} {e it : Addr} {fp : List Addr} {n i : Nat} {Pv : Nat → Value → Prop} {St : Nat → Heap → Prop} {old : Value} {Fx : Nat → V → Prop} {GG : Hp → Prop}
    (D : Draws X.prog X.w X.A.in1 it fp n Pv St) (I : Inv X pins σ H s) (hf : ∀ b ∈ [e, it], FpOk X pins H b) (he : IsEnum s.heap e it (i : Nat) old) (st : St i s.heap) (hlt : i < n) (hne : e ≠ it) (hef : e ∉ fp)
    (hv : ∀ u, Pv i u → ∃ x, RelV x u ∧ Fx i x) (hit : ∃ o, s.heap.get? it = some o) {tn : Nat → Heap → Prop}
    (htn : ∀ h1 h2 x T, IsEnumOut h1 e it ((i : Int) + 1) x T → St (i + 1) h1 → IsEnum h2 e it ((i : Int) + 1) x → Heap.SameBut e h1 h2 → tn (i + 1) h2) :
    wpAny (model X.prog X.w) X.A (pyNext (.ref e)) (fun r s1 => ∃ u, r = some u ∧
      wpAny (model X.prog X.w) X.A (letOwnedTupleGo (.Tuple elts kk tpos) (.ref e) u) (fun _ s2 => ∃ x H', Inv X pins σ H' s2 ∧ RelV x u ∧ (Itnp GG n Fx).yld i H x H' ∧ tn (i + 1) s2.heap ∧ ∀ b ∈ [e, it], H' b = none) E s1) E s := by
  have hel : e < s.heap.objs.size := Heap.lt_size he
  obtain ⟨oi, hoi⟩ := hit
  have hil : it < s.heap.objs.size := Heap.lt_size hoi
  refine wpAny_pyNext_enum_itemD D he st hlt hne hef fun u h1 tk hu ho st1 hT hsz hk => ?_
  obtain ⟨x, ru, fx⟩ := hv u hu
  refine ⟨_, rfl, wpAny_letOwnedTupleGo_enum (s := { s with heap := h1, toks := tk + 1 }) ho fun h2 he2 sb => ?_⟩
  have hT2 : h2.get? s.heap.objs.size = some { cls := .type "tuple", data := .seq #[.int i tk, u] } := (sb.2 _ (Nat.ne_of_gt hel)).trans hT
  have nw : ObjOk X.prog X.w (upd H s.heap.objs.size (.tup [.int (i : Nat), x])) h2 s.heap.objs.size (.tup [.int (i : Nat), x]) :=
    ⟨by show 2 ≤ sizeLine; decide, [.int i tk, u], .cons ⟨_, rfl⟩ (.cons ru .nil), ⟨_, hT2, rfl, _, rfl⟩⟩
  have I1 : Inv X pins σ (upd H s.heap.objs.size (.tup [.int (i : Nat), x])) { s with heap := h2, toks := tk + 1 } :=
    I.turnedNew (ch := [e, it]) (fun b ob hb q => (sb.2 b (fun z => hb (by simp [z]))).trans (hk b ob (fun z => hb (by simp [z])) (fun z => hb (by simp [z])) q)) hf (Nat.le_refl _) nw
  refine ⟨.ref s.heap.objs.size, _, I1, rfl, ⟨_, x, rfl, I.hok.fresh (Nat.le_refl _), rfl, fx⟩, htn _ _ _ _ ho st1 he2 sb, fun b hb => ?_⟩
  have hb2 : b < s.heap.objs.size := by
    rcases (by simpa using hb : b = e ∨ b = it) with z | z
    · rw [z]; exact hel
    · rw [z]; exact hil
  rw [upd_ne (Nat.ne_of_lt hb2)]
  exact (hf b hb).1
def FxS (z : Str) (i : Nat) (x : V) : Prop := ∃ c, z.cps[i]? = some c ∧ x = .str ⟨#[c]⟩
theorem turn_enumS {P : Program} {w : World} {K : PySem.W.Frag} {elts : List Expr} {kk : Nat} {tpos : Pos} (z : Str) (t : Tok) (e it : Addr) :
    Turn P w K (.Tuple elts kk tpos) (Itnp (fun _ => True) z.cps.size (FxS z)) [e, it] e (fun i h => (∃ old, IsEnum h e it ((i : Nat) : Int) old) ∧ h.IsStrIter it (strIterType z) z t i ∧ e ≠ it ∧ i ≤ z.cps.size) where
  mem := List.mem_cons_self ..
  obj := fun i h st b hb => by
    obtain ⟨⟨old, he⟩, ⟨o, ho, hc, hd⟩, _⟩ := st
    rcases (by simpa using hb : b = e ∨ b = it) with y | y
    · rw [y]; exact ⟨_, he, fun v q => nomatch q⟩
    · rw [y]; exact ⟨o, ho, fun v q => by rw [hd] at q; cases q⟩
  keep := fun i h h' st k => by
    obtain ⟨⟨old, he⟩, ⟨o, ho, r⟩, hne⟩ := st
    exact ⟨⟨old, k e (by simp) _ he⟩, ⟨o, k it (by simp) _ ho, r⟩, hne⟩
  item := by
    intro X hP hw hK hc i pins s σ H E I hf st hg
    subst hP hw hK
    obtain ⟨⟨old, he⟩, hit, hne, _⟩ := st
    refine enum_turn (Fx := FxS z) (GG := fun _ => True) (tn := fun i h => (∃ old, IsEnum h e it ((i : Nat) : Int) old) ∧ h.IsStrIter it (strIterType z) z t i ∧ e ≠ it ∧ i ≤ z.cps.size) (Draws.text (A := X.A.in1) (I.ok.hd hc) it z t) I hf he hit hg.1 hne (by simpa using hne) (fun u hu => ?_) ⟨hit.choose, hit.choose_spec.1⟩ fun h1 h2 x T _ a b c => ⟨⟨x, ?_⟩, ?_, hne, hg.1⟩
    · obtain ⟨c, v, h1, rfl⟩ := hu
      exact ⟨.str ⟨#[c]⟩, ⟨_, rfl⟩, c, h1, rfl⟩
    · have e1 : ((i + 1 : Nat) : Int) = (i : Int) + 1 := by omega
      rw [e1]
      exact b
    · obtain ⟨o, ho, r⟩ := a
      exact ⟨o, (c.2 it (Ne.symm hne)).trans ho, r⟩
  done := by
    intro X hP hw hK hc i pins s σ H E I hf st hg
    subst hP hw hK
    obtain ⟨⟨old, he⟩, hit, hne, hle⟩ := st
    obtain rfl : i = z.cps.size := Nat.le_antisymm hle hg.1
    obtain ⟨f0, f1, f2, f3, f4, f5⟩ := hf it (by simp)
    exact wpAny_pyNext_enum_endD (Draws.text (A := X.A.in1) (I.ok.hd hc) it z t) he hit fun h' eb => ⟨rfl, I.turned (t' := s.toks) (fun b o hb q => eb b o hb q) f0 f1 f3 f4 f5⟩
  self := fun A i s Q E st h => by
    obtain ⟨⟨_, he⟩, _⟩ := st
    exact wpAny_pyIter_enum he h
def FxT (xs : List V) (i : Nat) (x : V) : Prop := xs[i]? = some x
theorem turn_enumT {P : Program} {w : World} {K : PySem.W.Frag} {elts : List Expr} {kk : Nat} {tpos : Pos} (a : Addr) (xs : List V) (e it : Addr) :
    Turn P w K (.Tuple elts kk tpos) (Itnp (fun H => SqT K H a xs) xs.length (FxT xs)) [e, it] e (fun i h => (∃ old, IsEnum h e it ((i : Nat) : Int) old) ∧ h.IsTupleIter it a i ∧ e ≠ it ∧ a ≠ it ∧ a ≠ e ∧ i ≤ xs.length) where
  mem := List.mem_cons_self ..
  obj := fun i h st b hb => by
    obtain ⟨⟨old, he⟩, ⟨o, ho, hc, hd⟩, _⟩ := st
    rcases (by simpa using hb : b = e ∨ b = it) with y | y
    · rw [y]; exact ⟨_, he, fun v q => nomatch q⟩
    · rw [y]; exact ⟨o, ho, fun v q => by rw [hd] at q; cases q⟩
  keep := fun i h h' st k => by
    obtain ⟨⟨old, he⟩, hi, hne⟩ := st
    exact ⟨⟨old, k e (by simp) _ he⟩, hi.at fun o q => k it (by simp) o q, hne⟩
  item := by
    intro X hP hw hK hc i pins s σ H E I hf st hg
    subst hP hw hK
    obtain ⟨⟨old, he⟩, hit, hne, hai, hae, _⟩ := st
    obtain ⟨its, rv, p, hz⟩ := I.tuple hg.2
    have hl := rv.length
    have D := Draws.tuple (prog := X.prog) (w := X.w) (A := X.A.in1) (I.ok.hd hc) it a hai its.toArray
    have hlt : i < its.toArray.size := by
      have := hg.1
      simp only [List.size_toArray]
      omega
    have hT : s.heap.IsTuple a its.toArray := p
    refine enum_turn (Fx := FxT xs) (GG := fun H => SqT X.K H a xs) (n := its.toArray.size) (tn := fun i h => (∃ old, IsEnum h e it ((i : Nat) : Int) old) ∧ h.IsTupleIter it a i ∧ e ≠ it ∧ a ≠ it ∧ a ≠ e ∧ i ≤ xs.length) D I hf he ⟨hit, hT⟩ hlt hne (by simp; exact ⟨hne, fun z => hae z.symm⟩) (fun u hu => ?_) ⟨hit.choose, hit.choose_spec.1⟩ fun h1 h2 x T _ b1 b c => ⟨⟨x, ?_⟩, ?_, hne, hai, hae, hg.1⟩
    · have hu' : its[i]? = some u := by simpa using hu
      have hil : i < xs.length := hg.1
      obtain ⟨u2, h1, h2⟩ := rv.get (List.getElem?_eq_getElem hil)
      rw [hu'] at h1
      cases h1
      exact ⟨_, h2, List.getElem?_eq_getElem hil⟩
    · have e1 : ((i + 1 : Nat) : Int) = (i : Int) + 1 := by omega
      rw [e1]
      exact b
    · exact b1.1.at fun o q => (c.2 it (Ne.symm hne)).trans q
  done := by
    intro X hP hw hK hc i pins s σ H E I hf st hg
    subst hP hw hK
    obtain ⟨⟨old, he⟩, hit, hne, hai, hae, hle⟩ := st
    obtain ⟨its, rv, p, hz⟩ := I.tuple hg.2
    have hl := rv.length
    have hi : i = its.toArray.size := by
      have := hg.1
      simp only [List.size_toArray]
      omega
    subst hi
    have D := Draws.tuple (prog := X.prog) (w := X.w) (A := X.A.in1) (I.ok.hd hc) it a hai its.toArray
    obtain ⟨f0, f1, f2, f3, f4, f5⟩ := hf it (by simp)
    exact wpAny_pyNext_enum_endD D he ⟨hit, p⟩ fun h' eb => ⟨rfl, I.turned (t' := s.toks) (fun b o hb q => eb b o hb q) f0 f1 f3 f4 f5⟩
  self := fun A i s Q E st h => by
    obtain ⟨⟨_, he⟩, _⟩ := st
    exact wpAny_pyIter_enum he h
/-- enumerate(x), x a list, a tuple or a text -/
def iEnumA (K : PySem.W.Frag) (ta : TA) : TI := fun σ H R => ta σ H fun vs H1 => (∃ a xs, vs = [.ref a] ∧ SqL K H1 a xs ∧ R (Ite K a) H1) ∨ (∃ a xs, vs = [.ref a] ∧ SqT K H1 a xs ∧ R (Itnp (fun H => SqT K H a xs) xs.length (FxT xs)) H1) ∨ (∃ z, vs = [.str z] ∧ R (Itnp (fun _ => True) z.cps.size (FxS z)) H1)
theorem pi_enumA {X : Cx} {e : Expr} {ta : TA} {p pos tpos : Pos} {elts : List Expr} {kk : Nat} (hg : Gl X "enumerate") (hm : X.mg "enumerate" = none) (ha : PA X [e] ta) (hs : starEach [e] X.env = [(false, eval e X.env)] := by rfl) :
    PI X (.Tuple elts kk tpos) (.Call (.Name "enumerate" p) [e] [] pos) (iEnumA X.K ta) := by
  refine ⟨fun pins s σ H R I h => ?_⟩
  refine Call_ (ld_blt I hg hm boot_enumerate (PyProof.Rows.callWith_type1 (thn (ha.run pos pins s σ H _ I h) fun us s1 ⟨vs, H1, I1, r1, q1⟩ => ?_) hs rfl))
  have fp2 : ∀ {h' : Heap} (hk : ∀ b o, s1.heap.get? b = some o → h'.get? b = some o), Inv X pins σ H1 { s1 with heap := h' } ∧ ∀ b ∈ [s1.heap.objs.size + 1, s1.heap.objs.size], FpOk X pins H1 b := fun hk => by
    refine ⟨I1.kept (t' := s1.toks) hk, fun b hb => ?_⟩
    have hle : s1.heap.objs.size ≤ b := by
      rcases (by simpa using hb : b = s1.heap.objs.size + 1 ∨ b = s1.heap.objs.size) with z | z
      · rw [z]; exact Nat.le_add_right _ _
      · rw [z]; exact Nat.le_refl _
    exact I1.fpOk hle (I1.hok.fresh hle)
  rcases q1 with ⟨a, xs, ex, hq, q⟩ | ⟨a, xs, ex, hq, q⟩ | ⟨z, ex, q⟩
  · subst ex
    cases r1 with
    | cons r rr =>
      cases rr
      cases r
      obtain ⟨its, rv, p', hz⟩ := I1.list hq
      refine call_enumerate_list p'.isList fun h' he hit hsz hk => wpAny_pyIter_enum he ?_
      exact ⟨_, _, _, _, H1, rfl, (fp2 hk).1, turn_enum a (s1.heap.objs.size + 1) s1.heap.objs.size, ⟨⟨.none, he⟩, hit, Nat.succ_ne_self _⟩, (fp2 hk).2, q⟩
  · subst ex
    cases r1 with
    | cons r rr =>
      cases rr
      cases r
      obtain ⟨its, rv, p', hz⟩ := I1.tuple hq
      have hal : a < s1.heap.objs.size := by
        obtain ⟨o, ho, _⟩ := id p'
        exact Heap.lt_size ho
      refine call_enum1 (begins_tuple a its.toArray) p' fun h' he hit hsz hk => wpAny_pyIter_enum he ?_
      exact ⟨_, _, _, _, H1, rfl, (fp2 hk).1, turn_enumT a xs (s1.heap.objs.size + 1) s1.heap.objs.size, ⟨⟨.none, he⟩, ⟨_, hit, rfl, rfl⟩, Nat.succ_ne_self _, Nat.ne_of_lt hal, Nat.ne_of_lt (Nat.lt_succ_of_lt hal), Nat.zero_le _⟩, (fp2 hk).2, q⟩
  · subst ex
    cases r1 with
    | cons r rr =>
      cases rr
      obtain ⟨t, rfl⟩ := r
      refine call_enumerate_str fun h' he hit hsz hk => wpAny_pyIter_enum he ?_
      exact ⟨_, _, _, _, H1, rfl, (fp2 hk).1, turn_enumS z t (s1.heap.objs.size + 1) s1.heap.objs.size, ⟨⟨.none, he⟩, hit, Nat.succ_ne_self _, Nat.zero_le _⟩, (fp2 hk).2, q⟩
end Cl

namespace Cl
open PySem PySem.Spec PyProof.Rows L2 RT
variable {X : Cx} {PL : PoolP}
/-! ### what is walked: enumerate, reversed -/
def enumD (i : Nat) : List Dt → List Dt
  | [] => []
  | d :: r => .tup [.int i, d] :: enumD (i + 1) r
theorem enumD_len : ∀ (l : List Dt) (i : Nat), (enumD i l).length = l.length
  | [], _ => rfl
  | _ :: r, i => by
    show (enumD (i + 1) r).length + 1 = r.length + 1
    rw [enumD_len r]
theorem enumD_get : ∀ (l : List Dt) (i k : Nat), (enumD i l)[k]? = (l[k]?).map fun d => .tup [.int ((i + k : Nat) : Int), d]
  | [], _, _ => rfl
  | d :: r, i, 0 => rfl
  | d :: r, i, k + 1 => by
    show (enumD (i + 1) r)[k]? = (r[k]?).map _
    rw [enumD_get r, show i + 1 + k = i + (k + 1) by omega]
theorem enum_yld {K : PySem.W.Frag} {B : Hp} {l : List Dt} {i : Nat} {H H' : Hp} {x : V} {T : Addr} {y : V} {d : Dt} (hd : l[i]? = some d) (r : Rep K B d y) (hx : x = .ref T) (hT : H T = none) (hH : H' = upd H T (.tup [.int (i : Nat), y])) {G : Ent} {B1 : Hp} {c : CEnv} {σ : L2.St} (e1 : Same B B1) (hc : Conc K PL G B1 c σ H) :
    ∃ B2 d, (enumD 0 l)[i]? = some d ∧ Same B1 B2 ∧ Conc K PL G B2 c σ H' ∧ Rep K B2 d x := by
  subst hx hH
  have r1 : RepL K B1 [.int ((i : Nat) : Int), d] [.int (i : Nat), y] := .cons (by unfold Rep; rfl) (.one (r.mono e1))
  obtain ⟨e2, cr⟩ := conc_tup (PL := PL) hc hT r1
  refine ⟨_, _, ?_, e2, cr.1, cr.2⟩
  rw [enumD_get, hd]
  simp
theorem items_enumL {K : PySem.W.Frag} {B : Hp} {a : Addr} {xs : List V} {ds : List Dt} (h : SqL K B a xs) (r : RepL K B ds xs) : ItemsOf K PL B (Ite K a) (enumD 0 ds) where
  go := fun i H e hi => by
    rw [enumD_len] at hi
    exact ⟨xs, xs[i]'(by rw [r.length]; exact hi), e.seq h, by simp⟩
  stop := fun H e => ⟨xs, e.seq h, by rw [r.length, enumD_len]; exact Nat.le_refl _⟩
  yld := fun i H x H' hi y G B1 c σ e1 hc => by
    obtain ⟨T, v, h1, h2, h3, h4⟩ := y
    obtain ⟨d, e2, e3⟩ := r.getV (h4 xs ((e1.trans hc.same).seq h))
    exact enum_yld e2 e3 h1 h2 h3 e1 hc
theorem items_enumT {K : PySem.W.Frag} {B : Hp} {a : Addr} {xs : List V} {ds : List Dt} (h : SqT K B a xs) (r : RepL K B ds xs) : ItemsOf K PL B (Itnp (fun H => SqT K H a xs) xs.length (FxT xs)) (enumD 0 ds) where
  go := fun i H e hi => by
    rw [enumD_len] at hi
    exact ⟨by rw [r.length]; exact hi, sameT e h⟩
  stop := fun H e => ⟨by rw [r.length, enumD_len]; exact Nat.le_refl _, sameT e h⟩
  yld := fun i H x H' hi y G B1 c σ e1 hc => by
    obtain ⟨T, v, h1, h2, h3, h4⟩ := y
    obtain ⟨d, e2, e3⟩ := r.getV h4
    exact enum_yld e2 e3 h1 h2 h3 e1 hc
theorem items_enumS {K : PySem.W.Frag} {B : Hp} {s : List Nat} : ItemsOf K PL B (Itnp (fun _ => True) (S s).cps.size (FxS (S s))) (enumD 0 (chs s)) where
  go := fun i H e hi => by
    rw [enumD_len] at hi
    exact ⟨by simpa [S, chs] using hi, trivial⟩
  stop := fun H e => ⟨by rw [enumD_len]; simp [S, chs], trivial⟩
  yld := fun i H x H' hi y G B1 c σ e1 hc => by
    obtain ⟨T, v, h1, h2, h3, ch, h4, h5⟩ := y
    have h6 : s[i]? = some ch := by simpa [S] using h4
    have h7 : (chs s)[i]? = some (.str [ch]) := by
      unfold chs
      rw [List.getElem?_map, h6]
      rfl
    exact enum_yld (B := B) h7 (by unfold Rep; exact h5) h1 h2 h3 e1 hc
def dEnum (da : DL) : DI := fun c Q => da c fun ds c1 => oneD ds fun d => itemsD d fun l => Q (enumD 0 l) c1
theorem qi_enum {e : Expr} {da : DL} {p pos tpos : Pos} {elts : List Expr} {kk : Nat} (ha : QL X PL [e] da) (hg : Gl X "enumerate") (hm : X.mg "enumerate" = none) (hs : starEach [e] X.env = [(false, eval e X.env)] := by rfl) :
    QI X PL (.Tuple elts kk tpos) (.Call (.Name "enumerate" p) [e] [] pos) (dEnum da) := by
  refine qi_of (pi_enumA hg hm ha.pa hs) fun G B c σ H Qd R hc hd2 hq => ?_
  refine ⟨G, B, c, _, hc, hd2, fun ds c1 B1 H1 vs g1 e1 hc1 rl => ?_⟩
  obtain ⟨d, rfl, g1⟩ := oneD_ok g1
  obtain ⟨v, rfl, rv⟩ := repL1 rl
  cases d with
  | lst l =>
    unfold Rep at rv
    obtain ⟨a, xs, rfl, q1, q2⟩ := rv
    exact .inl ⟨a, xs, rfl, .of (hc1.same _ _ q1), hq _ _ B1 _ _ g1 e1 hc1 (items_enumL (.of q1) q2)⟩
  | tup l =>
    unfold Rep at rv
    obtain ⟨a, xs, rfl, q1, q2⟩ := rv
    exact .inr (.inl ⟨a, xs, rfl, sameT hc1.same q1, hq _ _ B1 _ _ g1 e1 hc1 (items_enumT q1 q2)⟩)
  | frz l =>
    unfold Rep at rv
    obtain ⟨a, xs, rfl, q1, q2⟩ := rv
    exact .inl ⟨a, xs, rfl, hc1.same.seq q1, hq _ _ B1 _ _ g1 e1 hc1 (items_enumL q1 q2)⟩
  | str s =>
    unfold Rep at rv
    subst rv
    exact .inr (.inr ⟨S s, rfl, hq _ _ B1 _ _ g1 e1 hc1 items_enumS⟩)
  | _ => exact g1.elim
theorem items_revL {K : PySem.W.Frag} {B : Hp} {a : Addr} {xs : List V} {ds : List Dt} (h : SqL K B a xs) (r : RepL K B ds xs) : ItemsOf K PL B (Itv K a xs.length) ds.reverse where
  go := fun i H e hi => by
    rw [List.length_reverse] at hi
    have hl := r.length
    exact ⟨by omega, xs, xs[xs.length - 1 - i]'(by omega), e.seq h, by simp⟩
  stop := fun H e => by
    show xs.length ≤ ds.reverse.length
    rw [List.length_reverse, r.length]
    exact Nat.le_refl _
  yld := fun i H x H' hi y G B1 c σ e1 hc => by
    obtain ⟨rfl, y⟩ := y
    rw [List.length_reverse] at hi
    have hl := r.length
    obtain ⟨d, e2, e3⟩ := r.getV (y xs ((e1.trans hc.same).seq h))
    exact ⟨B1, d, by rw [List.getElem?_reverse hi, ← hl]; exact e2, Same.refl _, hc, e3.mono e1⟩
theorem items_revT {K : PySem.W.Frag} {B : Hp} {a : Addr} {xs : List V} {ds : List Dt} (h : SqT K B a xs) (r : RepL K B ds xs) : ItemsOf K PL B (ItvT K a xs.length) ds.reverse where
  go := fun i H e hi => by
    rw [List.length_reverse] at hi
    have hl := r.length
    exact ⟨by omega, xs, xs[xs.length - 1 - i]'(by omega), sameT e h, by simp⟩
  stop := fun H e => by
    show xs.length ≤ ds.reverse.length
    rw [List.length_reverse, r.length]
    exact Nat.le_refl _
  yld := fun i H x H' hi y G B1 c σ e1 hc => by
    obtain ⟨rfl, y⟩ := y
    rw [List.length_reverse] at hi
    have hl := r.length
    obtain ⟨d, e2, e3⟩ := r.getV (y xs (sameT (e1.trans hc.same) h))
    exact ⟨B1, d, by rw [List.getElem?_reverse hi, ← hl]; exact e2, Same.refl _, hc, e3.mono e1⟩
def revK (d : Dt) (k : List Dt → Prop) : Prop := match d with
  | .lst l => k l.reverse
  | .tup l => k l.reverse
  | _ => False
def dRev (de : DE) : DI := fun c Q => de c fun r c1 => asD r c1 fun d c2 => revK d fun l => Q l c2
theorem qi_rev {tg e : Expr} {de : DE} {p pos : Pos} (he : QE X PL e de) (hg : Gl X "reversed") (hm : X.mg "reversed" = none) (hs : starEach [e] X.env = (false, eval e X.env) :: starEach [] X.env := by rfl) : QI X PL tg (.Call (.Name "reversed" p) [e] [] pos) (dRev de) := by
  refine qi_of (pi_revA hg hm he.pe hs) fun G B c σ H Qd R hc hd2 hq => ?_
  refine ⟨G, B, c, _, hc, hd2, fun r c1 B1 H1 v g1 e1 cr => ?_⟩
  obtain ⟨B2, c2, d, e2, hc2, rd, g2⟩ := asD_ok cr g1
  cases d with
  | lst l =>
    unfold Rep at rd
    obtain ⟨a, xs, rfl, q1, q2⟩ := rd
    exact ⟨a, xs, rfl, .inl ⟨.of (hc2.same _ _ q1), hq _ _ B2 _ _ g2 (e1.trans e2) hc2 (items_revL (.of q1) q2)⟩⟩
  | tup l =>
    unfold Rep at rd
    obtain ⟨a, xs, rfl, q1, q2⟩ := rd
    exact ⟨a, xs, rfl, .inr ⟨sameT hc2.same q1, hq _ _ B2 _ _ g2 (e1.trans e2) hc2 (items_revT q1 q2)⟩⟩
  | _ => exact g2.elim
/-! ### a statement that is never come to -/
def dBad : DS := fun _ _ => False
theorem qs_bad {st : Stmt} : QS X PL st dBad := ⟨⟨fun _ _ _ _ _ _ ⟨_, _, _, _, _, h, _⟩ => h.elim⟩⟩
/-! ### more of lists -/
theorem upd_self {H : Hp} {a : Addr} {o : HO} (h : H a = some o) : upd H a o = H := by
  funext b
  by_cases e : b = a
  · rw [e, upd_same, h]
  · rw [upd_ne e]
def mExtend : MutF := fun l ds k => oneD ds fun d => match d with
  | .lst m => l.length + m.length ≤ 10000000 ∧ k .non (l ++ m)
  | _ => False
theorem mut_extend {K : PySem.W.Frag} : MutD K rExtend mExtend := by
  intro B H a l xs ds vs k Q h1 h2 h3 h4 h5 hq
  obtain ⟨d, rfl, h6⟩ := oneD_ok h4
  cases d with
  | lst m =>
    obtain ⟨v, rfl, h8⟩ := repL1 h3
    unfold Rep at h8
    obtain ⟨b, zs, rfl, g1, g2⟩ := h8
    exact ⟨a, b, xs, zs, rfl, rfl, h1, h5 _ _ g1, by rw [h2.length, g2.length]; exact sz7 h6.1, hq _ _ _ _ h6.2 (h2.app g2) (by unfold Rep; rfl)⟩
  | _ => exact h6.elim
def mReverse : MutF := fun l ds k => match ds with
  | [] => k .non l.reverse
  | _ => False
theorem mut_reverse {K : PySem.W.Frag} : MutD K rReverse mReverse := by
  intro B H a l xs ds vs k Q h1 h2 h3 h4 h5 hq
  cases ds with
  | cons d r => exact h4.elim
  | nil =>
    unfold RepL at h3
    subst h3
    exact ⟨a, xs, rfl, rfl, h1, hq _ _ _ _ h4 h2.rev (by unfold Rep; rfl)⟩
/-- xs.pop(n), n a place from 0 -/
def mPopAt : MutF := fun l ds k => oneD ds fun d => match d with
  | .int i => 0 ≤ i ∧ i < 1000000000 ∧ ∃ e, l[i.toNat]? = some e ∧ k e (l.eraseIdx i.toNat)
  | _ => False
theorem mut_popAt {K : PySem.W.Frag} : MutD K rPopAt mPopAt := by
  intro B H a l xs ds vs k Q h1 h2 h3 h4 h5 hq
  obtain ⟨d, rfl, h6⟩ := oneD_ok h4
  cases d with
  | int i =>
    obtain ⟨v, rfl, h8⟩ := repL1 h3
    unfold Rep at h8
    subst h8
    obtain ⟨g1, g2, e, g3, g4⟩ := h6
    obtain ⟨v, e1, e2⟩ := h2.get g3
    have hl := (List.getElem?_eq_some_iff.mp e1).1
    refine ⟨a, xs, i, i.toNat, v, rfl, rfl, h1, by omega, by omega, ?_, e1, hq _ _ _ _ g4 (h2.erase _) e2⟩
    unfold seqIndex?
    simp only [show ¬ i < 0 by omega, if_false]
    rw [if_pos (by simp; omega)]
  | _ => exact h6.elim
/-- xs.index(d), ints -/
def mIndexI : MutF := fun l ds k => oneD ds fun d => match d with
  | .int i => ∃ (ns : List Int) (j : Nat), l = ns.map .int ∧ ns[j]? = some i ∧ (∀ m, m < j → ns[m]? ≠ some i) ∧ k (.int j) l
  | _ => False
theorem ints_rep {K : PySem.W.Frag} {B : Hp} : ∀ {ns : List Int} {xs : List V}, RepL K B (ns.map Dt.int) xs → xs = ns.map V.int
  | [], xs, h => by
    unfold RepL at h
    exact h
  | n :: r, xs, h => by
    rw [List.map_cons] at h
    unfold RepL at h
    obtain ⟨x, ys, rfl, h1, h2⟩ := h
    unfold Rep at h1
    rw [h1, ints_rep h2]
    rfl
theorem mut_indexI {K : PySem.W.Frag} : MutD K (rIndex K) mIndexI := by
  intro B H a l xs ds vs k Q h1 h2 h3 h4 h5 hq
  obtain ⟨d, rfl, h6⟩ := oneD_ok h4
  cases d with
  | int i =>
    obtain ⟨v, rfl, h8⟩ := repL1 h3
    unfold Rep at h8
    subst h8
    obtain ⟨ns, j, rfl, g1, g2, g3⟩ := h6
    have e := ints_rep h2
    subst e
    have g4 := hq _ _ (.int (j : Int)) _ g3 h2 (by unfold Rep; rfl)
    rw [upd_self h1] at g4
    refine ⟨a, _, .int i, j, .int i, rfl, rfl, .of h1, rfl, ?_, by rw [List.getElem?_map, g1]; rfl, by simp [eqV], fun m z hm hz => ?_, g4⟩
    · rw [List.all_eq_true]
      intro x hx
      obtain ⟨n, _, rfl⟩ := List.mem_map.mp hx
      rfl
    · rw [List.getElem?_map] at hz
      cases q : ns[m]? with
      | none =>
        rw [q] at hz
        cases hz
      | some n =>
        rw [q] at hz
        cases hz
        have : n ≠ i := fun e => g2 m hm (by rw [q, e])
        simp [eqV, this]
  | _ => exact h6.elim
/-! ### a loop over a list that was handed in and is not changed -/
def FIA (s : Slot) (i : Nat) (g : DG) (body : DS) (E : CEnds) (c : CEnv) : Prop := match s with
  | .arg (.lst l) => ∃ I : Nat → CEnv → Prop, I 0 c ∧ (∀ k c', I k c' → gt c' i = .arg (.lst l)) ∧
    (∀ k d c', l[k]? = some d → I k c' → g d c' fun c2 => body { nx := I (k + 1), rt := E.rt, bk := E.nx, ct := I (k + 1) } c2) ∧ ∀ c', I l.length c' → E.nx c'
  | _ => False
def dForA (i : Nat) (g : DG) (body : DS) : DS := fun E c => FIA (gt c i) i g body E c
theorem Conc.getArg {K : PySem.W.Frag} {G : Ent} {B : Hp} {c : CEnv} {σ : L2.St} {H : Hp} {i : Nat} {l : List Dt} (h : Conc K PL G B c σ H) (hs : gt c i = .arg (.lst l)) : ∃ a xs, G.ow i = some a ∧ σ[i]? = some (some (.ref a)) ∧ H a = some (.lst xs) ∧ RepL K B l xs := by
  obtain ⟨F, C⟩ := h
  have hs := gt_get hs (by simp)
  obtain ⟨o, h1, h2⟩ := C.slots i _ hs
  obtain ⟨a, h3, h4, ⟨_, xs, h5, h6⟩, _⟩ := h2
  exact ⟨a, xs, h4, by rw [h1, h3], h5, h6⟩
theorem qs_forA {i : Nat} {tg : Expr} {x : Str} {xpos : Pos} {body : List Stmt} {g : DG} {db : DS} {pos : Pos} (ho : PE X (.Name x xpos) (tVar i)) (hg : QG X PL tg g) (hb : QSs X PL body db) (hp : PassesOwn (model X.prog X.w) X.A X.env X.xe) (hc : X.calm = true)
    (hs : ∀ z, foldedSetIterable (.Name x xpos) X.env z = pure z := by intro _; rfl) : QS X PL (.For tg (.Name x xpos) body [] pos) (dForA i g db) := by
  refine qs_of (ps_for hp hc (pi_list ho) hg.pg hb.pss hs) fun G B c σ H E D h1 h2 h3 h4 h5 h6 => ?_
  have h2 : FIA (gt c i) i g db E c := h2
  cases q : gt c i with
  | arg o =>
    cases o with
    | lst l =>
      rw [q] at h2
      obtain ⟨I, i0, ia, it, ie⟩ := h2
      obtain ⟨a, xs, k1, k2, k3, k4⟩ := h1.getArg q
      refine ⟨.ref a, k2, a, rfl, ⟨xs, .of k3⟩, ?_⟩
      refine ⟨fun j m σ' H' => m = l.length - j ∧ j ≤ l.length ∧ ∃ B2 c2, Same B B2 ∧ Conc X.K PL G B2 c2 σ' H' ∧ I j c2, ⟨_, rfl, Nat.zero_le _, B, c, Same.refl _, h1, i0⟩, ?_⟩
      rintro j m σ' H' ⟨rfl, hil, B2, c2, e2, hc2, hI⟩
      obtain ⟨a', ys, y1, y2, y3, y4⟩ := hc2.getArg (ia j c2 hI)
      rw [k1] at y1
      cases y1
      by_cases hlt : j < l.length
      · have hlt2 : j < ys.length := by rw [y4.length]; exact hlt
        refine .inr ⟨⟨ys, ys[j], .of y3, by simp⟩, fun σ2 H2 => ∃ B3 c3, Same B B3 ∧ Conc X.K PL G B3 c3 σ2 H2 ∧ I (j + 1) c3, fun σ2 H2 ⟨B3, c3, e3, hc3, hI3⟩ => ⟨l.length - (j + 1), by omega, rfl, hlt, B3, c3, e3, hc3, hI3⟩, fun v H3 hy => ?_⟩
        obtain ⟨rfl, hy⟩ := hy
        have hv := hy ys (.of y3)
        obtain ⟨d, hd, rd⟩ := y4.getV hv
        refine ⟨G, B2, c2, d, _, hc2, rd, it j d c2 hd hI, fun c4 B4 σ4 H4 q4 e4 hc4 _ => ?_⟩
        have ee : Same B B4 := e2.trans e4
        exact ⟨G, B4, c4, _, hc4, q4, fun c5 B5 σ5 H5 q5 e5 hc5 => ⟨B5, c5, ee.trans e5, hc5, q5⟩, h4, fun c5 B5 σ5 H5 q5 e5 hc5 => h3 _ _ _ _ q5 (ee.trans e5) hc5, fun c5 B5 σ5 H5 q5 e5 hc5 => ⟨B5, c5, ee.trans e5, hc5, q5⟩⟩
      · have hie : j = l.length := by omega
        subst hie
        exact .inl ⟨⟨ys, .of y3, by rw [y4.length]; exact Nat.le_refl _⟩, h3 _ _ _ _ (ie c2 hI) e2 hc2⟩
    | pool =>
      rw [q] at h2
      exact h2.elim
  | _ =>
    rw [q] at h2
    exact h2.elim
end Cl

namespace Cl
open PySem PySem.Spec PyProof.Rows L2
def eqsD : List Dt → List Dt → Bool
  | [], [] => true
  | x :: xs, y :: ys => eqD x y && eqsD xs ys
  | _, _ => false
theorem eqv_all : ∀ l m : List Dt, PyData.eqvAll (toPys l) (toPys m) = eqsD l m
  | [], [] => by unfold toPys PyData.eqvAll eqsD; rfl
  | [], _ :: _ => by unfold toPys PyData.eqvAll eqsD; rfl
  | _ :: _, [] => by unfold toPys PyData.eqvAll eqsD; rfl
  | x :: xs, y :: ys => by
    unfold toPys PyData.eqvAll eqsD
    rw [eqv_all xs ys]
    rfl
theorem eqD_tup (l m : List Dt) : eqD (.tup l) (.tup m) = eqsD l m := by
  unfold eqD
  unfold toPy PyData.eqv
  exact eqv_all l m
theorem eqD_lst (l m : List Dt) : eqD (.lst l) (.lst m) = eqsD l m := by
  unfold eqD
  unfold toPy PyData.eqv
  exact eqv_all l m
theorem shp_tup2 (i j : Int) : shp (.tup [.int i, .int j]) = true := by
  unfold shp
  rfl
theorem okEq_pair (i j k l : Int) : okEq (.tup [.int i, .int j]) (.tup [.int k, .int l]) = true := by
  unfold okEq
  rw [shp_tup2, shp_tup2]
  simp
theorem fEq_pair {i j k l : Int} {kk : Res → Prop} : fEq (.tup [.int i, .int j]) (.tup [.int k, .int l]) kk = kk (.dat (.bl (decide (i = k ∧ j = l)))) := by
  unfold fEq
  rw [okEq_pair, eqD_tup]
  have e : eqsD [.int i, .int j] [.int k, .int l] = decide (i = k ∧ j = l) := by
    simp [eqsD, eqD_int]
  rw [e]
  simp
theorem fNe_pair {i j k l : Int} {kk : Res → Prop} : fNe (.tup [.int i, .int j]) (.tup [.int k, .int l]) kk = kk (.dat (.bl (!decide (i = k ∧ j = l)))) := by
  unfold fNe
  rw [okEq_pair, eqD_tup]
  have e : eqsD [.int i, .int j] [.int k, .int l] = decide (i = k ∧ j = l) := by
    simp [eqsD, eqD_int]
  rw [e]
  simp
/-! ### equations for readings, more of them -/
theorem e_dSeq {s t : DS} {E : CEnds} {c : CEnv} : dSeq s t E c = (s { E with nx := t E } c) := propext Iff.rfl
theorem e_dAsg {i : Nat} {de : DE} {E : CEnds} {c : CEnv} : dAsg i de E c = (de c fun r c1 => put i r c1 E.nx) := propext Iff.rfl
theorem e_dAsgG {g : DG} {de : DE} {E : CEnds} {c : CEnv} : dAsgG g de E c = (de c fun r c1 => asD r c1 fun d c2 => g d c2 E.nx) := propext Iff.rfl
theorem e_dIf {t : DT} {a b : DS} {E : CEnds} {c : CEnv} : dIf t a b E c = (t c fun k c1 => br k (a E c1) (b E c1)) := propext Iff.rfl
theorem e_dTru {da : DE} {c : CEnv} {Q : Bool → CEnv → Prop} : dTru da c Q = (da c fun r c1 => on1 (hd r) c1 fun x => tru x fun b => Q b c1) := propext Iff.rfl
theorem e_dC {d : Dt} {c : CEnv} {Q : Res → CEnv → Prop} : dC d c Q = (Q (.dat d) c) := propext Iff.rfl
theorem e_dBin {f : OpF} {da db : DE} {c : CEnv} {Q : Res → CEnv → Prop} : dBin f da db c Q = (da c fun r c1 => db c1 fun s c2 => on2 (hd r) (hd s) c2 fun x y => f x y fun z => Q z c2) := propext Iff.rfl
theorem e_dBinT {f : OpF} {da db : DE} {c : CEnv} {Q : Bool → CEnv → Prop} : dBinT f da db c Q = (da c fun r c1 => db c1 fun s c2 => on2 (hd r) (hd s) c2 fun x y => f x y fun z => blR z fun b => Q b c2) := propext Iff.rfl
theorem e_dUn {f : UnF} {da : DE} {c : CEnv} {Q : Res → CEnv → Prop} : dUn f da c Q = (da c fun r c1 => on1 (hd r) c1 fun x => f x fun z => Q z c1) := propext Iff.rfl
theorem e_dRet {de : DE} {E : CEnds} {c : CEnv} : dRet de E c = (de c fun r c1 => toRet r c1 E.rt) := propext Iff.rfl
theorem e_dRetN  {E : CEnds} {c : CEnv} : dRetN  E c = (E.rt (.dat .non) c) := propext Iff.rfl
theorem e_dDrop {de : DE} {E : CEnds} {c : CEnv} : dDrop de E c = (de c fun _ c1 => E.nx c1) := propext Iff.rfl
theorem e_dMeth {i : Nat} {f : MutF} {dl : DL} {c : CEnv} {Q : Res → CEnv → Prop} : dMeth i f dl c Q = (obL c i fun _ => dl c fun ds c1 => obL c1 i fun l => f l ds fun d m => Q (.dat d) (setL c1 i m)) := propext Iff.rfl
theorem e_dNext  {E : CEnds} {c : CEnv} : dNext  E c = (E.nx c) := propext Iff.rfl
theorem e_dBreak  {E : CEnds} {c : CEnv} : dBreak  E c = (E.bk c) := propext Iff.rfl
theorem e_dCont  {E : CEnds} {c : CEnv} : dCont  E c = (E.ct c) := propext Iff.rfl
theorem e_dAnd {t u : DT} {c : CEnv} {Q : Bool → CEnv → Prop} : dAnd t u c Q = (t c fun b c1 => br b (u c1 Q) (Q false c1)) := propext Iff.rfl
theorem e_dOr {t u : DT} {c : CEnv} {Q : Bool → CEnv → Prop} : dOr t u c Q = (t c fun b c1 => br b (Q true c1) (u c1 Q)) := propext Iff.rfl
theorem e_dNot {t : DT} {c : CEnv} {Q : Bool → CEnv → Prop} : dNot t c Q = (t c fun b c1 => Q (!b) c1) := propext Iff.rfl
theorem e_dAndV {da db : DE} {c : CEnv} {Q : Res → CEnv → Prop} : dAndV da db c Q = (da c fun r c1 => blD r fun b => br b (db c1 Q) (Q (.dat (.bl false)) c1)) := propext Iff.rfl
theorem e_dOrV {da db : DE} {c : CEnv} {Q : Res → CEnv → Prop} : dOrV da db c Q = (da c fun r c1 => blD r fun b => br b (Q (.dat (.bl true)) c1) (db c1 Q)) := propext Iff.rfl
theorem e_dNotV {da : DE} {c : CEnv} {Q : Res → CEnv → Prop} : dNotV da c Q = (da c fun r c1 => blD r fun b => Q (.dat (.bl (!b))) c1) := propext Iff.rfl
theorem e_dIfE {t : DT} {da db : DE} {c : CEnv} {Q : Res → CEnv → Prop} : dIfE t da db c Q = (t c fun b c1 => br b (da c1 Q) (db c1 Q)) := propext Iff.rfl
theorem e_dTup {da : DL} {c : CEnv} {Q : Res → CEnv → Prop} : dTup da c Q = (da c fun ds c1 => ds.length ≤ 10000000 ∧ Q (.dat (.tup ds)) c1) := propext Iff.rfl
theorem e_dLst {da : DL} {c : CEnv} {Q : Res → CEnv → Prop} : dLst da c Q = (da c fun ds c1 => ds.length ≤ 10000000 ∧ Q (.new (.lst ds)) c1) := propext Iff.rfl
theorem e_dCB {f : CallF} {da : DA} {c : CEnv} {Q : Res → CEnv → Prop} : dCB f da c Q = (da c fun rs c1 => vws rs c1 fun xs => f xs fun z => Q z c1) := propext Iff.rfl
theorem e_dSl {da : DE} {dl dh : CEnv → (Option Int → CEnv → Prop) → Prop} {c : CEnv} {Q : Res → CEnv → Prop} : dSl da dl dh c Q = (da c fun r c1 => dl c1 fun lo c2 => dh c2 fun hi c3 => on1 (hd r) c3 fun x => fSl x lo hi fun z => Q z c3) := propext Iff.rfl
theorem e_dNoPart  {c : CEnv} {Q : Option Int → CEnv → Prop} : dNoPart  c Q = (Q none c) := propext Iff.rfl
theorem e_dIsi {T : String} {da : DE} {c : CEnv} {Q : Res → CEnv → Prop} : dIsi T da c Q = (da c fun r c1 => on1 (hd r) c1 fun x => Q (.dat (.bl (isiB (tyD x) T))) c1) := propext Iff.rfl
theorem e_dYes  {c : CEnv} {Q : Bool → CEnv → Prop} : dYes  c Q = (Q true c) := propext Iff.rfl
theorem e_aCons {de : DE} {da : DA} {c : CEnv} {Q : List Res → CEnv → Prop} : aCons de da c Q = (de c fun r c1 => da c1 fun rs c2 => Q (hd r :: rs) c2) := propext Iff.rfl
theorem e_aNil  {c : CEnv} {Q : List Res → CEnv → Prop} : aNil  c Q = (Q [] c) := propext Iff.rfl
theorem e_lCons {de : DE} {da : DL} {c : CEnv} {Q : List Dt → CEnv → Prop} : lCons de da c Q = (de c fun r c1 => asD r c1 fun d c2 => da c2 fun ds c3 => Q (d :: ds) c3) := propext Iff.rfl
theorem e_lNil  {c : CEnv} {Q : List Dt → CEnv → Prop} : lNil  c Q = (Q [] c) := propext Iff.rfl
theorem e_vCons {de : DE} {dv : DV} {c : CEnv} {Q : List AV → CEnv → Prop} : vCons de dv c Q = (de c fun r c1 => asD r c1 fun d c2 => dv c2 fun avs c3 => Q (.dat d :: avs) c3) := propext Iff.rfl
theorem e_vNil  {c : CEnv} {Q : List AV → CEnv → Prop} : vNil  c Q = (Q [] c) := propext Iff.rfl
theorem e_dItems {de : DE} {c : CEnv} {Q : List Dt → CEnv → Prop} : dItems de c Q = (de c fun r c1 => asD r c1 fun d c2 => itemsD d fun l => Q l c2) := propext Iff.rfl
theorem e_dRng2 {da : DL} {c : CEnv} {Q : List Dt → CEnv → Prop} : dRng2 da c Q = (da c fun ds c1 => cints2 ds fun a b => (a ≤ 1000000000 ∧ -1000000000 ≤ a ∧ b ≤ 1000000000 ∧ -1000000000 ≤ b) ∧ Q (rngD a (b - a).toNat) c1) := propext Iff.rfl
theorem e_dRng3 {da : DL} {c : CEnv} {Q : List Dt → CEnv → Prop} : dRng3 da c Q = (da c fun ds c1 => cints3 ds fun a b s => ∃ n, RgC a b s n ∧ Q (rngC a s n) c1) := propext Iff.rfl
theorem e_dCall {n : Nat} {F : FS} {dvs : List Dt} {dv : DV} {c : CEnv} {Q : Res → CEnv → Prop} : dCall n F dvs dv c Q = (dv c fun avs c1 => (avs ++ dvs.map AV.dat).length = n ∧ callQ F (avs ++ dvs.map AV.dat) c1 Q) := propext Iff.rfl
theorem e_dCallK {n np nk : Nat} {F : FS} {gA : List AV → List AV → List AV} {dv dk : DV} {c : CEnv} {Q : Res → CEnv → Prop} : dCallK n np nk F gA dv dk c Q = (dv c fun avs c1 => dk c1 fun kvs c2 => (avs.length = np ∧ kvs.length = nk ∧ (gA avs kvs).length = n) ∧ callQ F (gA avs kvs) c2 Q) := propext Iff.rfl
theorem e_dRev {de : DE} {c : CEnv} {Q : List Dt → CEnv → Prop} : dRev de c Q = (de c fun r c1 => asD r c1 fun d c2 => revK d fun l => Q l c2) := propext Iff.rfl
theorem e_dEnum {da : DL} {c : CEnv} {Q : List Dt → CEnv → Prop} : dEnum da c Q = (da c fun ds c1 => oneD ds fun d => itemsD d fun l => Q (enumD 0 l) c1) := propext Iff.rfl
theorem c_rev_lst {k : List Dt → Prop} {l : List Dt} : revK (.lst l) k = k l.reverse := propext Iff.rfl
theorem c_rev_tup {k : List Dt → Prop} {l : List Dt} : revK (.tup l) k = k l.reverse := propext Iff.rfl
theorem c_oneD {α : Type} {d : α} {P : α → Prop} : oneD [d] P = P d := propext Iff.rfl
theorem c_bad {E : CEnds} {c : CEnv} : dBad E c = False := propext Iff.rfl
def extK (l : List Dt) (d : Dt) (k : Dt → List Dt → Prop) : Prop := match d with
  | .lst m => l.length + m.length ≤ 10000000 ∧ k .non (l ++ m)
  | _ => False
theorem c_ext {k : Dt → List Dt → Prop} {l : List Dt} {d : Dt} : mExtend l [d] k = extK l d k := propext Iff.rfl
theorem c_extK {k : Dt → List Dt → Prop} {l m : List Dt} : extK l (.lst m) k = (l.length + m.length ≤ 10000000 ∧ k .non (l ++ m)) := propext Iff.rfl
theorem c_mrev {k : Dt → List Dt → Prop} {l : List Dt} : mReverse l [] k = k .non l.reverse := propext Iff.rfl
def popK (l : List Dt) (d : Dt) (k : Dt → List Dt → Prop) : Prop := match d with
  | .int i => 0 ≤ i ∧ i < 1000000000 ∧ ∃ e, l[i.toNat]? = some e ∧ k e (l.eraseIdx i.toNat)
  | _ => False
theorem c_popAt {k : Dt → List Dt → Prop} {l : List Dt} {d : Dt} : mPopAt l [d] k = popK l d k := propext Iff.rfl
theorem c_popK {k : Dt → List Dt → Prop} {l : List Dt} {i : Int} : popK l (.int i) k = (0 ≤ i ∧ i < 1000000000 ∧ ∃ e, l[i.toNat]? = some e ∧ k e (l.eraseIdx i.toNat)) := propext Iff.rfl
def idxK (l : List Dt) (d : Dt) (k : Dt → List Dt → Prop) : Prop := match d with
  | .int i => ∃ (ns : List Int) (j : Nat), l = ns.map .int ∧ ns[j]? = some i ∧ (∀ m, m < j → ns[m]? ≠ some i) ∧ k (.int j) l
  | _ => False
theorem c_idx {k : Dt → List Dt → Prop} {l : List Dt} {d : Dt} : mIndexI l [d] k = idxK l d k := propext Iff.rfl
theorem c_forA {i : Nat} {g : DG} {body : DS} {E : CEnds} {c : CEnv} : dForA i g body E c = FIA (gt c i) i g body E c := propext Iff.rfl
theorem for_arg {l : List Dt} {i : Nat} {g : DG} {body : DS} {E : CEnds} {c : CEnv} (I : Nat → CEnv → Prop) (h0 : I 0 c) (ha : ∀ k c', I k c' → gt c' i = .arg (.lst l)) (hs : ∀ k d c', l[k]? = some d → I k c' → g d c' fun c2 => body { nx := I (k + 1), rt := E.rt, bk := E.nx, ct := I (k + 1) } c2) (he : ∀ c', I l.length c' → E.nx c') : FIA (.arg (.lst l)) i g body E c := ⟨I, h0, ha, hs, he⟩
theorem for_lst {l : List Dt} {g : DG} {body : DS} {E : CEnds} {c : CEnv} (I : Nat → CEnv → Prop) (h0 : I 0 c) (hs : ∀ k d c', l[k]? = some d → I k c' → g d c' fun c2 => body { nx := I (k + 1), rt := E.rt, bk := E.nx, ct := I (k + 1) } c2) (he : ∀ c', I l.length c' → E.nx c') : FI l g body E c := ⟨I, h0, hs, he⟩
theorem for_one {d : Dt} {g : DG} {body : DS} {E : CEnds} {c : CEnv} (h : g d c fun c2 => body { nx := E.nx, rt := E.rt, bk := E.nx, ct := E.nx } c2) : FI [d] g body E c := by
  refine ⟨fun k c' => match k with
    | 0 => c' = c
    | _ + 1 => E.nx c', rfl, fun k e c' hd hI => ?_, fun c' h => h⟩
  cases k with
  | zero =>
    have hI : c' = c := hI
    cases hd
    subst hI
    exact h
  | succ k => cases hd
theorem lc_fm {α : Type} {xs : List α} {ff : α → Dt} {g : DG} {dt : DT} {de : DE} {vs : List Nat} {c1 : CEnv} {Q : Res → CEnv → Prop} (f : α → Option Dt) (hl : xs.length ≤ 9000000)
    (hs : ∀ x ∈ xs, ∀ Y : Option Dt → CEnv → Prop, Y (f x) (wipeC vs c1) → g (ff x) (wipeC vs c1) fun c2 => dt c2 fun b c3 => br b (de c3 fun r c4 => asD r c4 fun e c5 => Y (some e) (wipeC vs c5)) (Y none (wipeC vs c3)))
    (hQ : Q (.new (.lst (xs.filterMap f))) (unw vs c1 (wipeC vs c1))) : LCI (xs.map ff) g dt de vs c1 Q := by
  refine ⟨by rw [List.length_map]; exact hl, fun k acc c' => acc = (xs.take k).filterMap f ∧ c' = wipeC vs c1, ⟨by simp, rfl⟩, ?_, ?_⟩
  · rintro k acc d c' hd _ ⟨rfl, rfl⟩
    rw [List.getElem?_map] at hd
    cases q : xs[k]? with
    | none =>
      rw [q] at hd
      cases hd
    | some x =>
      rw [q] at hd
      cases hd
      refine hs x (List.mem_of_getElem? q) (fun o c' => (match o with
        | some e => (xs.take k).filterMap f ++ [e] = (xs.take (k + 1)).filterMap f
        | none => (xs.take k).filterMap f = (xs.take (k + 1)).filterMap f) ∧ c' = wipeC vs c1) ⟨?_, rfl⟩
      rw [List.take_add_one, q]
      cases q2 : f x <;> simp [q2]
  · rintro acc c' _ ⟨rfl, rfl⟩
    rw [List.length_map, List.take_length]
    exact hQ
theorem filterMap_if {α : Type} (p : α → Bool) (ff : α → Dt) : ∀ xs : List α, xs.filterMap (fun x => if p x = true then some (ff x) else none) = (xs.filter p).map ff
  | [] => rfl
  | x :: r => by
    rw [List.filterMap_cons, List.filter_cons]
    cases e : p x
    · simp [filterMap_if p ff r]
    · simp [filterMap_if p ff r]
end Cl

namespace Cl
open PySem PySem.Spec PyProof.Rows L2
/-! ### a drawing box with a list in it -/
def boxPL : PoolP where
  ok a fp H := ∃ (q : Addr) (st : Int) (hs : List Int), fp = [a, q] ∧ a ≠ q ∧ H a = some (.lst [.int st, .ref q]) ∧ H q = some (.lst (hs.map V.int)) ∧ hs.length ≤ 1000
  mem := by
    rintro a fp H ⟨q, st, hs, rfl, _⟩
    simp
  alive := by
    rintro a fp H ⟨q, st, hs, rfl, _, h1, h2, _⟩ b hb
    rcases List.mem_cons.mp hb with rfl | hb
    · rw [h1]; simp
    · rw [List.mem_singleton.mp hb, h2]; simp
  loc := by
    rintro a fp H H' ⟨q, st, hs, rfl, hne, h1, h2, h3⟩ k
    exact ⟨q, st, hs, rfl, hne, (k a (by simp)).trans h1, (k q (by simp)).trans h2, h3⟩
def F_boxPick : FS := fun as R => ∃ m : Int, as = [.ob .pool, .dat (.int m)] ∧ 1 ≤ m ∧ m ≤ 1000000 ∧ ∀ r : Int, 0 ≤ r → r < m → R (.dat (.int r)) as
def F_boxNew : FS := fun as R => ∃ ns : List Int, as = [.dat (.frz (ns.map .int))] ∧ ns.length ≤ 1000 ∧ R (.new .pool) as
/-- what the drawing def has to answer -/
theorem box_pick {K : PySem.W.Frag} {vs : List V} {H : Hp} {Q : VK} {E : XK} (h : spC K boxPL 2 F_boxPick vs H Q E) : ∃ (a q : Addr) (st : Int) (hs : List Int) (m : Int), vs = [.ref a, .int m] ∧ a ≠ q ∧ H a = some (.lst [.int st, .ref q]) ∧ H q = some (.lst (hs.map V.int)) ∧ 1 ≤ m ∧ m ≤ 1000000 ∧
    ∀ (r : Int) (H' : Hp) (st' : Int) (hs' : List Int), 0 ≤ r → r < m → H' a = some (.lst [.int st', .ref q]) → H' q = some (.lst (hs'.map V.int)) → hs'.length ≤ hs.length → (∀ x, x ≠ a → x ≠ q → H' x = H x) → Q (.int r) H' := by
  obtain ⟨B, as, fs, R, hn, sB, ao, ap, ⟨m, rfl, hm1, hm2, hF⟩, q⟩ := h
  obtain ⟨hlen, hao⟩ := ao
  obtain ⟨v0, hv0, a, rfl, bq, st, hs, hfp, hne, ha, hb, hbl⟩ := hao 0 _ rfl
  obtain ⟨v1, hv1, hf1, hr1⟩ := hao 1 _ rfl
  have e1 : v1 = .int m := by unfold Rep at hr1; exact hr1
  subst e1
  match vs, hlen, hv0, hv1 with
  | [x, y], _, hv0, hv1 =>
  cases Option.some.inj hv0
  cases Option.some.inj hv1
  refine ⟨a, bq, st, hs, m, rfl, hne, ha, hb, hm1, hm2, fun r H' st' hs' r0 r1 h1 h2 h3 h4 => ?_⟩
  have out : ∀ x, (∀ k, x ∉ fs k) → H' x = H x := fun x hx => by
    have h0 := hx 0
    rw [hfp] at h0
    exact h4 x (fun e => h0 (by simp [e])) (fun e => h0 (by simp [e]))
  have offa : ∀ x, x ∈ fs 0 → B x = none := fun x hx => ap.off 0 x hx
  refine q (.dat (.int r)) [.ob .pool, .dat (.int m)] B H' (.int r) fs (hF r r0 r1) (Same.refl B) (fun _ _ e => .inl e) (fun x o e => ?_) (fun x o e hx => ?_) (fun x hx => ?_) ?_ ⟨ap.out, ap.disj, ap.off⟩ (fun k b hb => .inr hb) (fun k o e => ⟨o, e⟩) (by unfold RetOk Rep; rfl)
  · rw [← sB x o e]
    refine h4 x (fun z => ?_) (fun z => ?_)
    · rw [z, offa a (by rw [hfp]; simp)] at e
      cases e
    · rw [z, offa bq (by rw [hfp]; simp)] at e
      cases e
  · rw [out x hx]
    exact e
  · by_cases xa : x = a
    · rw [xa, h1]
      simp
    · by_cases xq : x = bq
      · rw [xq, h2]
        simp
      · rw [h4 x xa xq]
        exact hx
  · refine ⟨rfl, fun k a' e => ?_⟩
    match k, e with
    | 0, e =>
      cases Option.some.inj e
      exact ⟨_, rfl, a, rfl, bq, st', hs', hfp, hne, h1, h2, Nat.le_trans h3 hbl⟩
    | 1, e =>
      cases Option.some.inj e
      exact ⟨_, rfl, hf1, by unfold Rep; rfl⟩
/-- what the def has to answer that makes the box -/
theorem box_new {K : PySem.W.Frag} {vs : List V} {H : Hp} {Q : VK} {E : XK} (h : spC K boxPL 1 F_boxNew vs H Q E) : ∃ (p : Addr) (ns : List Int), vs = [.ref p] ∧ SqL K H p (ns.map V.int) ∧ ns.length ≤ 1000 ∧
    ∀ (a q : Addr) (H' : Hp) (st : Int) (hs : List Int), a ≠ q → H a = none → H q = none → H' a = some (.lst [.int st, .ref q]) → H' q = some (.lst (hs.map V.int)) → hs.length ≤ ns.length → (∀ x, x ≠ a → x ≠ q → H' x = H x) → Q (.ref a) H' := by
  obtain ⟨B, as, fs, R, hn, sB, ao, ap, ⟨ns, rfl, hm1, hF⟩, q⟩ := h
  obtain ⟨hlen, hao⟩ := ao
  obtain ⟨v0, hv0, hf, hr⟩ := hao 0 _ rfl
  unfold Rep at hr
  obtain ⟨p, xs, rfl, hp, hxs⟩ := hr
  match vs, hlen, hv0 with
  | [x], _, hv0 =>
  cases Option.some.inj hv0
  have ex : xs = ns.map V.int := by
    have key : ∀ (l : List Int) (ys : List V), RepL K B (l.map Dt.int) ys → ys = l.map V.int := by
      intro l
      induction l with
      | nil => intro ys h; unfold RepL at h; exact h
      | cons i l ih =>
        intro ys h
        unfold RepL at h
        obtain ⟨y, zs, rfl, h1, h2⟩ := h
        unfold Rep at h1
        rw [h1, ih zs h2]
        rfl
    exact key ns xs hxs
  subst ex
  refine ⟨p, ns, rfl, Same.seq sB hp, hm1, fun a b H' st hs hne n1 n2 h1 h2 h3 h4 => ?_⟩
  have fe : ∀ k, fs k = [] := fun k => by
    cases k with
    | zero => exact hf
    | succ k => exact ap.out _ (by omega)
  have grow : ∀ x o, H x = some o → H' x = some o := fun x o e => by
    rw [h4 x (fun z => by rw [z, n1] at e; cases e) (fun z => by rw [z, n2] at e; cases e)]
    exact e
  refine q (.new .pool) [.dat (.frz (ns.map .int))] B H' (.ref a) fs hF (Same.refl B) (fun _ _ e => .inl e) (fun x o e => grow x o (sB x o e)) (fun x o e _ => grow x o e) (fun x hx => ?_) ?_ ⟨ap.out, ap.disj, ap.off⟩ (fun k b hb => .inr hb) (fun k o e => ?_) ⟨a, [a, b], rfl, ⟨b, st, hs, rfl, hne, h1, h2, Nat.le_trans h3 hm1⟩, fun x hx => ?_⟩
  · cases g : H x with
    | none => exact absurd g hx
    | some o => rw [grow x o g]; simp
  · refine ⟨rfl, fun k a' e => ?_⟩
    match k, e with
    | 0, e =>
      cases Option.some.inj e
      exact ⟨_, rfl, hf, by unfold Rep; exact ⟨p, _, rfl, hp, hxs⟩⟩
  · match k, e with
    | 0, e => cases e
  · have hxH : H x = none := by
      rcases List.mem_cons.mp hx with rfl | hx
      · exact n1
      · rw [List.mem_singleton.mp hx]
        exact n2
    refine ⟨?_, hxH, fun k => by rw [fe k]; simp⟩
    cases g : B x with
    | none => rfl
    | some o => rw [sB x o g] at hxH; cases hxH
theorem sx0 {n : Nat} (h : 0 < n) : seqIndex? 0 n = some 0 := by
  unfold seqIndex?
  simp
  omega
/-! ### isinstance with two classes, list(range(..)), the place of an item of any depth -/
section
variable {X : Cx} {PL : PoolP}
def dIsiT (T U : String) (da : DE) : DE := fun c Q => da c fun r c1 => on1 (hd r) c1 fun x => Q (.dat (.bl (isiB (tyD x) T || isiB (tyD x) U))) c1
theorem qe_isiT {T U : String} {a : Expr} {Tn Un : Str} {p p2 p3 pt pos : Pos} {k1 : Nat} {da : DE} (hT : isiOk T = true) (hU : isiOk U = true) (hg : Gl X "isinstance") (hm : X.mg "isinstance" = none) (hg2 : Gl X Tn) (hm2 : X.mg Tn = none) (hv2 : bootBuiltins Tn = some (.type T)) (hg3 : Gl X Un) (hm3 : X.mg Un = none) (hv3 : bootBuiltins Un = some (.type U)) (ha : QE X PL a da)
    (hn : Tn ≠ "__name__" := by decide) (hdb : (Tn == ("__debug__" : Str)) = false := by decide) (hn3 : Un ≠ "__name__" := by decide) (hdb3 : (Un == ("__debug__" : Str)) = false := by decide)
    (he : starEach [a, .Tuple [.Name Tn p2, .Name Un p3] k1 pt] X.env = (false, eval a X.env) :: starEach [.Tuple [.Name Tn p2, .Name Un p3] k1 pt] X.env := by rfl) (he2 : starEach [.Tuple [.Name Tn p2, .Name Un p3] k1 pt] X.env = (false, eval (.Tuple [.Name Tn p2, .Name Un p3] k1 pt) X.env) :: starEach [] X.env := by rfl)
    (he3 : starEach [.Name Tn p2, .Name Un p3] X.env = (false, eval (.Name Tn p2) X.env) :: starEach [.Name Un p3] X.env := by rfl) (he4 : starEach [.Name Un p3] X.env = (false, eval (.Name Un p3) X.env) :: starEach [] X.env := by rfl)
    (hpl : (backTo pos (starEach [.Tuple [.Name Tn p2, .Name Un p3] k1 pt] X.env)).any (·.1) = false := by rfl) : QE X PL (.Call (.Name "isinstance" p) [a, .Tuple [.Name Tn p2, .Name Un p3] k1 pt] [] pos) (dIsiT T U da) := by
  have hb : bootBuiltins "isinstance" = some (.builtin "isinstance") := by decide +kernel
  have pT : PE X (.Name Tn p2) (tC (.ty T)) := pe_bltn hg2 hm2 hv2 rfl hn hdb
  have pU : PE X (.Name Un p3) (tC (.ty U)) := pe_bltn hg3 hm3 hv3 rfl hn3 hdb3
  refine q_of (pe_callB (call_isiT) hg hm hb (pa_cons ha.pe (pa_cons (pe_tup (pa_cons pT (pa_cons pU pa_nil he4) he3)) pa_nil he2) he) (by decide) (by decide) he hpl) fun G B c σ H Qd Q hc hd2 hq => ?_
  refine ⟨G, B, c, _, hc, hd2, fun r c1 B1 H1 v q e1 cr => ?_⟩
  obtain ⟨B2, e2, hc2, hh⟩ := cr.hold
  refine ⟨by show 2 ≤ sizeLine; rw [sizeLine_eq]; decide, fun t ht => ?_⟩
  obtain ⟨hc3, e3⟩ := Conc.dat (o := .tup [V.ty T, V.ty U]) hc2 ht
  obtain ⟨x, rx, hf⟩ := on1_ok hc3 (hh.mono e3) q
  have hk : ∀ {T : String}, isiOk T = true → kitB (tyD x) T = some (isiB (tyD x) T) := by
    intro T hT
    unfold isiOk at hT
    exact of_decide_eq_true (List.all_eq_true.mp hT _ (tyD_in x))
  refine ⟨v, t, [.ty T, .ty U], .type (tyD x), [.type T, .type U], _, rfl, upd_same, .cons (.ty T) (.cons (.ty U) .nil), tyX_of hc3.same rx, ?_, hq _ c1 _ _ _ hf ((e1.trans e2).trans e3) ⟨hc3, by unfold Rep; rfl⟩⟩
  have k1 := kit_ty (K := X.K) (hk hT)
  have k2 := kit_ty (K := X.K) (hk hU)
  unfold PySem.W.kitAny
  rw [k1]
  cases g1 : isiB (tyD x) T with
  | true => rfl
  | false =>
    unfold PySem.W.kitAny
    rw [k2]
    cases g2 : isiB (tyD x) U with
    | true => rfl
    | false => rfl
def rgL (x : Dt) (k : Int → Prop) : Prop := match x with
  | .int n => k n
  | _ => False
def dLstRg (da : DE) : DE := fun c Q => da c fun r c1 => asD r c1 fun d c2 => rgL d fun n => (n ≤ 10000000 ∧ -10000000 ≤ n) ∧ Q (.new (.lst (rngD 0 n.toNat))) c2
theorem rep_rng {K : PySem.W.Frag} {B : Hp} (n : Int) : RepL K B (rngD 0 n.toNat) (rgV 0 n) := by
  have h := rep_ints (K := K) (B := B) ((List.range n.toNat).map fun k : Nat => (0 : Int) + (k : Int))
  rw [List.map_map, List.map_map] at h
  have e : rgV 0 n = (List.range n.toNat).map (V.int ∘ fun k : Nat => (0 : Int) + (k : Int)) := by
    unfold rgV
    rw [Int.sub_zero]
    rfl
  rw [e]
  exact h
theorem qe_lstRg {p p2 pos pos2 : Pos} {a : Expr} {da : DE} (hc : X.calm = true) (hg : Gl X "list") (hm : X.mg "list" = none) (hg2 : Gl X "range") (hm2 : X.mg "range" = none) (ha : QE X PL a da)
    (na : starEach [a] X.env = (false, eval a X.env) :: starEach [] X.env := by rfl) (na2 : starEach [.Call (.Name "range" p2) [a] [] pos2] X.env = (false, eval (.Call (.Name "range" p2) [a] [] pos2) X.env) :: starEach [] X.env := by rfl) : QE X PL (.Call (.Name "list" p) [.Call (.Name "range" p2) [a] [] pos2] [] pos) (dLstRg da) := by
  refine q_of (pe_listRg hc hg hm (prg_1 hg2 hm2 ha.pe na) na2) fun G B c σ H Qd Q hc hd2 hq => ?_
  refine ⟨G, B, c, _, hc, hd2, fun r c1 B1 H1 v q e1 cr => ?_⟩
  obtain ⟨B2, c2, d, e2, hc2, rd, q⟩ := asD_ok cr q
  cases d with
  | int n =>
    unfold Rep at rd
    obtain ⟨hn, q⟩ := (show (n ≤ 10000000 ∧ -10000000 ≤ n) ∧ Qd (.new (.lst (rngD 0 n.toNat))) c2 from q)
    refine ⟨n, rd, ⟨by omega, by omega, by omega, by omega, by omega⟩, fun l hl => ?_⟩
    exact hq _ c2 B2 _ _ q (e1.trans e2) (conc_lst hc2 hl (rep_rng n))
  | _ => exact q.elim
end
/-! ### a, b = a list -/
section
variable {X : Cx} {PL : PoolP}
def gL (n : Nat) (gs : DGs) : DG := fun d c Q => match d with
  | .lst l => l.length = n ∧ gs l c Q
  | _ => False
theorem qg_lst {es : List Expr} {k : Nat} {gs : DGs} {n : Nat} {pos : Pos} (hc : X.calm = true) (h : QGs X PL es gs) (hn : (assignEach es X.env).length = n := by rfl) (hst : (assignEach es X.env).findIdx? (·.1) = none := by rfl) : QG X PL (.Tuple es k pos) (gL n gs) :=
  ⟨PG.weak (pg_unl hc h.pgs hn hst) fun v σ H Q ⟨G, B, c, d, Qd, h1, h2, h3, h4⟩ => by
    cases d with
    | lst l =>
      unfold Rep at h2
      obtain ⟨a, xs, e1, r1, r2⟩ := h2
      obtain ⟨g1, g2⟩ := h3
      exact ⟨a, xs, e1, Same.seq h1.same (SqL.of r1), by rw [r2.length]; exact g1, G, B, c, l, Qd, h1, r2, g2, h4⟩
    | _ => exact h3.elim⟩
theorem c_gL {n : Nat} {gs : DGs} {l : List Dt} {c : CEnv} {Q : CEnv → Prop} : gL n gs (.lst l) c Q = (l.length = n ∧ gs l c Q) := propext Iff.rfl
end
def mIndexD : MutF := fun l ds k => oneD ds fun y => shp (.lst l) = true ∧ shp y = true ∧ ∃ (j : Nat) (z : Dt), l[j]? = some z ∧ eqD z y = true ∧ (∀ (m : Nat) (z' : Dt), m < j → l[m]? = some z' → eqD z' y = false) ∧ k (.int (j : Nat)) l
theorem toPys_get : ∀ (l : List Dt) (j : Nat), (toPys l)[j]? = (l[j]?).map toPy
  | [], j => by
    unfold toPys
    simp
  | d :: l, 0 => by
    unfold toPys
    rfl
  | d :: l, j + 1 => by
    unfold toPys
    rw [List.getElem?_cons_succ, List.getElem?_cons_succ]
    exact toPys_get l j
theorem mut_indexD {K : PySem.W.Frag} : MutD K (rIndexD K) mIndexD := by
  intro B H a l xs ds vs k Q h1 h2 h3 h4 h5 hq
  obtain ⟨d, rfl, s1, s2, j, z, z1, z2, z3, z4⟩ := oneD_ok h4
  obtain ⟨v, rfl, h8⟩ := repL1 h3
  have g4 := hq _ _ (.int (j : Int)) _ z4 h2 (by unfold Rep; rfl)
  rw [upd_self h1] at g4
  refine ⟨a, v, toPy d, toPys l, j, toPy z, rfl, rfl, .lst (SqL.of h1) (RepL.dp h5 h2), Rep.dp h5 h8, ?_, s2, ?_, z2, fun m z' hm hz => ?_, g4⟩
  · unfold shp toPy at s1
    exact s1
  · rw [toPys_get, z1]
    rfl
  · rw [toPys_get] at hz
    cases q : l[m]? with
    | none => rw [q] at hz; cases hz
    | some w =>
      rw [q] at hz
      cases hz
      exact z3 m w hm q
end Cl
namespace Cl
open PySem PySem.Spec PyProof.Rows L2
/-! ### equations -/
theorem e_dIsiT {T U : String} {da : DE} {c : CEnv} {Q : Res → CEnv → Prop} : dIsiT T U da c Q = (da c fun r c1 => on1 (hd r) c1 fun x => Q (.dat (.bl (isiB (tyD x) T || isiB (tyD x) U))) c1) := propext Iff.rfl
theorem e_dLstRg {da : DE} {c : CEnv} {Q : Res → CEnv → Prop} : dLstRg da c Q = (da c fun r c1 => asD r c1 fun d c2 => rgL d fun n => (n ≤ 10000000 ∧ -10000000 ≤ n) ∧ Q (.new (.lst (rngD 0 n.toNat))) c2) := propext Iff.rfl
theorem c_rgL {n : Int} {k : Int → Prop} : rgL (.int n) k = k n := propext Iff.rfl
def idxD (l : List Dt) (y : Dt) (k : Dt → List Dt → Prop) : Prop := shp (.lst l) = true ∧ shp y = true ∧ ∃ (j : Nat) (z : Dt), l[j]? = some z ∧ eqD z y = true ∧ (∀ (m : Nat) (z' : Dt), m < j → l[m]? = some z' → eqD z' y = false) ∧ k (.int (j : Nat)) l
theorem c_idxD {l : List Dt} {y : Dt} {k : Dt → List Dt → Prop} : mIndexD l [y] k = idxD l y k := propext Iff.rfl
theorem c_isiD_bool : isiB "bool" "dict" = false := by decide
theorem c_isiD_int : isiB "int" "dict" = false := by decide
theorem c_isiD_str : isiB "str" "dict" = false := by decide
theorem c_isiD_tuple : isiB "tuple" "dict" = false := by decide
theorem c_isiD_list : isiB "list" "dict" = false := by decide
theorem c_isiD_NoneType : isiB "NoneType" "dict" = false := by decide
end Cl
theorem L2.Room.units65 {k : Nat} {A : PySem.Around} (r : L2.Room k A) : A.units + 65 < PySem.cLine := by have := r.un; omega

namespace Cl
open PySem PySem.Spec PyProof.Rows L2 RT RZ
/-! ### zip of two lists or tuples, of three tuples -/
def ItzT3 (K : PySem.W.Frag) (a b c : Addr) (xs ys us : List V) : It :=
  ⟨fun i H => (i < xs.length ∧ i < ys.length ∧ i < us.length) ∧ SqT K H a xs ∧ SqT K H b ys ∧ SqT K H c us,
    fun i H v H' => ∃ T x y u, v = .ref T ∧ H T = none ∧ H' = upd H T (.tup [x, y, u]) ∧ xs[i]? = some x ∧ ys[i]? = some y ∧ us[i]? = some u,
    fun i H => (xs.length ≤ i ∨ ys.length ≤ i ∨ us.length ≤ i) ∧ SqT K H a xs ∧ SqT K H b ys ∧ SqT K H c us⟩
theorem turn_zip3T {P : Program} {w : World} {K : PySem.W.Frag} {elts : List Expr} {kk : Nat} {tpos : Pos} {a b c z TI TO i1 i2 i3 : Addr} {xs ys us : List V} (S : ZipSep3 z TI TO i1 i2 i3 [i1, a] [i2, b] [i3, c]) (m1 : a ≠ i1) (m2 : b ≠ i2) (m3 : c ≠ i3) :
    Turn P w K (.Tuple elts kk tpos) (ItzT3 K a b c xs ys us) [z, TI, TO, i1, i2, i3] z (fun i h => IsZip h z TI TO .none ∧ IsTupOf3 h TI (.ref i1) (.ref i2) (.ref i3) ∧ (∃ x y u, IsTupOf3 h TO x y u) ∧ h.IsTupleIter i1 a i ∧ h.IsTupleIter i2 b i ∧ h.IsTupleIter i3 c i ∧ i ≤ xs.length ∧ i ≤ ys.length ∧ i ≤ us.length) where
  mem := by simp
  obj := fun i h st c hc => by
    obtain ⟨hz, hTI, ⟨x, y, u, hTO⟩, ⟨o1, e1, _, d1⟩, ⟨o2, e2, _, d2⟩, ⟨o3, e3, _, d3⟩, _⟩ := st
    have e' : c = z ∨ c = TI ∨ c = TO ∨ c = i1 ∨ c = i2 ∨ c = i3 := by simpa using hc
    rcases e' with q | q | q | q | q | q
    · rw [q]; exact ⟨_, hz, fun v q => nomatch q⟩
    · rw [q]; exact ⟨_, hTI, fun v q => nomatch q⟩
    · rw [q]; exact ⟨_, hTO, fun v q => nomatch q⟩
    · rw [q]; exact ⟨o1, e1, fun v q => by rw [d1] at q; cases q⟩
    · rw [q]; exact ⟨o2, e2, fun v q => by rw [d2] at q; cases q⟩
    · rw [q]; exact ⟨o3, e3, fun v q => by rw [d3] at q; cases q⟩
  keep := fun i h h' st k => by
    obtain ⟨hz, hTI, ⟨x, y, u, hTO⟩, h1, h2, h3, hl⟩ := st
    exact ⟨k z (by simp) _ hz, k TI (by simp) _ hTI, ⟨x, y, u, k TO (by simp) _ hTO⟩, h1.at fun o q => k i1 (by simp) o q, h2.at fun o q => k i2 (by simp) o q, h3.at fun o q => k i3 (by simp) o q, hl⟩
  item := by
    intro X hP hw hK hc i pins s σ H E I hf st hg
    subst hP hw hK
    obtain ⟨hz, hTI, ⟨x0, y0, u0, hTO⟩, h1, h2, h3, _⟩ := st
    obtain ⟨⟨l1, l2, l3⟩, hqx, hqy, hqu⟩ := hg
    obtain ⟨its, rv, p, _⟩ := I.tuple hqx
    obtain ⟨its2, rv2, p2, _⟩ := I.tuple hqy
    obtain ⟨its3, rv3, p3, _⟩ := I.tuple hqu
    have k1 := rv.length
    have k2 := rv2.length
    have k3 := rv3.length
    have hT1 : s.heap.IsTuple a its.toArray := p
    have hT2 : s.heap.IsTuple b its2.toArray := p2
    have hT3 : s.heap.IsTuple c its3.toArray := p3
    have D1 := Draws.tuple (prog := X.prog) (w := X.w) (A := X.A.in1) (I.ok.hd hc) i1 a m1 its.toArray
    have D2 := Draws.tuple (prog := X.prog) (w := X.w) (A := X.A.in1) (I.ok.hd hc) i2 b m2 its2.toArray
    have D3 := Draws.tuple (prog := X.prog) (w := X.w) (A := X.A.in1) (I.ok.hd hc) i3 c m3 its3.toArray
    have hzl : z < s.heap.objs.size := Heap.lt_size hz
    refine wpAny_pyNext_zipD3_item S D1 D2 D3 hz hTI hTO ⟨h1, hT1⟩ ⟨h2, hT2⟩ ⟨h3, hT3⟩ (by simp only [List.size_toArray]; omega) (by simp only [List.size_toArray]; omega) (by simp only [List.size_toArray]; omega) fun u1 u2 u3 h' tk b1 b2 b3 z' TO' s1' s2' s3' hT hsz hk => ?_
    have hu1 : its[i]? = some u1 := by simpa using b1
    have hu2 : its2[i]? = some u2 := by simpa using b2
    have hu3 : its3[i]? = some u3 := by simpa using b3
    obtain ⟨v1, g1, r1⟩ := rv.get (List.getElem?_eq_getElem l1)
    obtain ⟨v2, g2, r2⟩ := rv2.get (List.getElem?_eq_getElem l2)
    obtain ⟨v3, g3, r3⟩ := rv3.get (List.getElem?_eq_getElem l3)
    rw [hu1] at g1
    rw [hu2] at g2
    rw [hu3] at g3
    cases g1
    cases g2
    cases g3
    refine ⟨_, rfl, wpAny_letOwnedTupleGo_zip (s := { s with heap := h', toks := tk }) z' fun h'' z'' sb => ?_⟩
    have hT2 : h''.get? s.heap.objs.size = some { cls := .type "tuple", data := .seq #[u1, u2, u3] } := (sb.2 _ (Nat.ne_of_gt hzl)).trans hT
    have new : ObjOk X.prog X.w (upd H s.heap.objs.size (.tup [xs[i], ys[i], us[i]])) h'' s.heap.objs.size (.tup [xs[i], ys[i], us[i]]) :=
      ⟨by show 3 ≤ sizeLine; decide, [u1, u2, u3], .cons r1 (.cons r2 (.cons r3 .nil)), ⟨_, hT2, rfl, _, rfl⟩⟩
    have I1 : Inv X pins σ (upd H s.heap.objs.size (.tup [xs[i], ys[i], us[i]])) { s with heap := h'', toks := tk } :=
      I.turnedNew (ch := [z, TI, TO, i1, i2, i3]) (fun c o hb q => (sb.2 c (fun q' => hb (by simp [q']))).trans (hk c o (fun q' => hb (by simp [q'])) (fun q' => hb (by simp [q'])) (fun q' => hb (by simp [q'])) (fun q' => hb (by simp [q'])) (fun q' => hb (by simp [q'])) q)) hf (Nat.le_refl _) new
    refine ⟨.ref s.heap.objs.size, _, I1, rfl, ⟨_, _, _, _, rfl, I.hok.fresh (Nat.le_refl _), rfl, List.getElem?_eq_getElem l1, List.getElem?_eq_getElem l2, List.getElem?_eq_getElem l3⟩, ⟨z'', ?_, ⟨u1, u2, u3, ?_⟩, ?_, ?_, ?_, l1, l2, l3⟩, fun c hcm => ?_⟩
    · exact (sb.2 _ S.TIz).trans (hk _ _ S.TIz S.TITO S.TIi1 S.TIi2 S.TIi3 hTI)
    · exact (sb.2 _ S.TOz).trans TO'
    · exact s1'.1.at fun o q => (sb.2 _ S.zi1.symm).trans q
    · exact s2'.1.at fun o q => (sb.2 _ S.zi2.symm).trans q
    · exact s3'.1.at fun o q => (sb.2 _ S.zi3.symm).trans q
    · have hlt : c < s.heap.objs.size := by
        have e' : c = z ∨ c = TI ∨ c = TO ∨ c = i1 ∨ c = i2 ∨ c = i3 := by simpa using hcm
        rcases e' with q | q | q | q | q | q
        · rw [q]; exact hzl
        · rw [q]; exact Heap.lt_size hTI
        · rw [q]; exact Heap.lt_size hTO
        · rw [q]; obtain ⟨_, e1, _⟩ := h1; exact Heap.lt_size e1
        · rw [q]; obtain ⟨_, e2, _⟩ := h2; exact Heap.lt_size e2
        · rw [q]; obtain ⟨_, e3, _⟩ := h3; exact Heap.lt_size e3
      rw [upd_ne (Nat.ne_of_lt hlt)]
      exact (hf c hcm).1
  done := by
    intro X hP hw hK hc i pins s σ H E I hf st hg
    subst hP hw hK
    obtain ⟨hz, hTI, ⟨x0, y0, u0, hTO⟩, h1, h2, h3, l1, l2, l3⟩ := st
    obtain ⟨hend, hqx, hqy, hqu⟩ := hg
    obtain ⟨its, rv, p, _⟩ := I.tuple hqx
    obtain ⟨its2, rv2, p2, _⟩ := I.tuple hqy
    obtain ⟨its3, rv3, p3, _⟩ := I.tuple hqu
    have k1 := rv.length
    have k2 := rv2.length
    have k3 := rv3.length
    have hT1 : s.heap.IsTuple a its.toArray := p
    have hT2 : s.heap.IsTuple b its2.toArray := p2
    have hT3 : s.heap.IsTuple c its3.toArray := p3
    have D1 := Draws.tuple (prog := X.prog) (w := X.w) (A := X.A.in1) (I.ok.hd hc) i1 a m1 its.toArray
    have D2 := Draws.tuple (prog := X.prog) (w := X.w) (A := X.A.in1) (I.ok.hd hc) i2 b m2 its2.toArray
    have D3 := Draws.tuple (prog := X.prog) (w := X.w) (A := X.A.in1) (I.ok.hd hc) i3 c m3 its3.toArray
    refine wpAny_pyNext_zipD3_end S D1 D2 D3 hz hTI hTO ⟨h1, hT1⟩ ⟨h2, hT2⟩ ⟨h3, hT3⟩ (by simp only [List.size_toArray]; omega) (by simp only [List.size_toArray]; omega) (by simp only [List.size_toArray]; omega) (by simp only [List.size_toArray]; omega) fun h' tk hk => ⟨rfl, I.turnedL (ch := [z, TI, TO, i1, i2, i3]) (fun c o hb q =>
      hk c o (fun q' => hb (by simp [q'])) (fun q' => hb (by simp [q'])) (fun q' => hb (by simp [q'])) (fun q' => hb (by simp [q'])) (fun q' => hb (by simp [q'])) q) hf⟩
  self := fun A i s Q E st h => wpAny_pyIter_zip st.1 h
def iZip3 (K : PySem.W.Frag) (ta : TA) : TI := fun σ H R => ta σ H fun vs H1 => ∃ a b c xs ys us, vs = [.ref a, .ref b, .ref c] ∧ SqT K H1 a xs ∧ SqT K H1 b ys ∧ SqT K H1 c us ∧ R (ItzT3 K a b c xs ys us) H1
theorem pi_zip3 {X : Cx} {e e2 e3 : Expr} {ta : TA} {p pos tpos : Pos} {elts : List Expr} {kk : Nat} (hg : Gl X "zip") (hm : X.mg "zip" = none) (ha : PA X [e, e2, e3] ta)
    (hs : starEach [e, e2, e3] X.env = (false, eval e X.env) :: starEach [e2, e3] X.env := by rfl) (hpl : (backTo pos (starEach [e2, e3] X.env)).any (·.1) = false := by rfl) :
    PI X (.Tuple elts kk tpos) (.Call (.Name "zip" p) [e, e2, e3] [] pos) (iZip3 X.K ta) := by
  refine ⟨fun pins s σ H R I h => ?_⟩
  refine Call_ (ld_blt I hg hm PyProof.Rows.boot_zip (PyProof.Rows.callWith_type1 (thn (ha.run pos pins s σ H _ I h) fun us s1 ⟨vs, H1, I1, r1, q1⟩ => ?_) hs hpl))
  obtain ⟨a, b, c, xs, ys, us, ex, hqx, hqy, hqu, q⟩ := q1
  subst ex
  cases r1 with
  | cons r rr =>
    cases rr with
    | cons r' rr =>
      cases rr with
      | cons r'' rr =>
        cases rr
        cases r
        cases r'
        cases r''
        obtain ⟨its, rv, p1, _⟩ := I1.tuple hqx
        obtain ⟨its2, rv2, p2, _⟩ := I1.tuple hqy
        obtain ⟨its3, rv3, p3, _⟩ := I1.tuple hqu
        have la : a < s1.heap.objs.size := by
          obtain ⟨o, ho, _⟩ := id p1
          exact Heap.lt_size ho
        have lb : b < s1.heap.objs.size := by
          obtain ⟨o, ho, _⟩ := id p2
          exact Heap.lt_size ho
        have lc : c < s1.heap.objs.size := by
          obtain ⟨o, ho, _⟩ := id p3
          exact Heap.lt_size ho
        refine zip_begins3 (begins_tuple a its.toArray) (begins_tuple b its2.toArray) (begins_tuple c its3.toArray) p1 p2 p3 fun h' hz hTI hTO h1 h2 h3 hsz hk => wpAny_pyIter_zip hz ?_
        have fresh6 : ∀ c, c ∈ [s1.heap.objs.size + 5, s1.heap.objs.size + 3, s1.heap.objs.size + 4, s1.heap.objs.size, s1.heap.objs.size + 1, s1.heap.objs.size + 2] → FpOk X pins H1 c := fun c hcm => by
          have e' : c = s1.heap.objs.size + 5 ∨ c = s1.heap.objs.size + 3 ∨ c = s1.heap.objs.size + 4 ∨ c = s1.heap.objs.size ∨ c = s1.heap.objs.size + 1 ∨ c = s1.heap.objs.size + 2 := by simpa using hcm
          have hle : s1.heap.objs.size ≤ c := by
            rcases e' with z | z | z | z | z | z
            · rw [z]; exact Nat.le_add_right _ _
            · rw [z]; exact Nat.le_add_right _ _
            · rw [z]; exact Nat.le_add_right _ _
            · rw [z]; exact Nat.le_refl _
            · rw [z]; exact Nat.le_add_right _ _
            · rw [z]; exact Nat.le_add_right _ _
          exact I1.fpOk hle (I1.hok.fresh hle)
        have I2 : Inv X pins σ H1 { s1 with heap := h' } := I1.kept (t' := s1.toks) hk
        exact ⟨s1.heap.objs.size + 5, [s1.heap.objs.size + 5, s1.heap.objs.size + 3, s1.heap.objs.size + 4, s1.heap.objs.size, s1.heap.objs.size + 1, s1.heap.objs.size + 2], _, _, H1, rfl, I2,
          turn_zip3T (xs := xs) (ys := ys) (us := us) (zip_sep3 (fp1 := [a]) (fp2 := [b]) (fp3 := [c]) (by simpa using la) (by simpa using lb) (by simpa using lc)) (Nat.ne_of_lt la) (Nat.ne_of_lt (Nat.lt_succ_of_lt lb)) (Nat.ne_of_lt (Nat.lt_succ_of_lt (Nat.lt_succ_of_lt lc))),
          ⟨hz, hTI, ⟨_, _, _, hTO⟩, ⟨_, h1, rfl, rfl⟩, ⟨_, h2, rfl, rfl⟩, ⟨_, h3, rfl, rfl⟩, Nat.zero_le _, Nat.zero_le _, Nat.zero_le _⟩, fresh6, q⟩
variable {X : Cx} {PL : PoolP}
def zip2D (l m : List Dt) : List Dt := List.zipWith (fun a b => .tup [a, b]) l m
def zip3D (l m n : List Dt) : List Dt := List.zipWith (fun (p : Dt × Dt) c => .tup [p.1, p.2, c]) (l.zip m) n
theorem zip2D_len (l m : List Dt) : (zip2D l m).length = min l.length m.length := List.length_zipWith
theorem zip3D_len (l m n : List Dt) : (zip3D l m n).length = min (min l.length m.length) n.length := by
  unfold zip3D
  rw [List.length_zipWith, List.length_zip]
theorem zip2D_get {l m : List Dt} {i : Nat} {a b : Dt} (h1 : l[i]? = some a) (h2 : m[i]? = some b) : (zip2D l m)[i]? = some (.tup [a, b]) := by
  unfold zip2D
  rw [List.getElem?_zipWith, h1, h2]
theorem zip3D_get {l m n : List Dt} {i : Nat} {a b c : Dt} (h1 : l[i]? = some a) (h2 : m[i]? = some b) (h3 : n[i]? = some c) : (zip3D l m n)[i]? = some (.tup [a, b, c]) := by
  unfold zip3D
  have h : (l.zip m)[i]? = some (a, b) := by
    rw [List.getElem?_zip_eq_some]
    exact ⟨h1, h2⟩
  rw [List.getElem?_zipWith, h, h3]
def zipQ2 (a b : Dt) (Q : List Dt → Prop) : Prop := (∃ l m, a = .tup l ∧ b = .tup m ∧ Q (zip2D l m)) ∨ (∃ l m, a = .lst l ∧ b = .lst m ∧ Q (zip2D l m))
def zipQ3 (a b c : Dt) (Q : List Dt → Prop) : Prop := ∃ l m n, a = .tup l ∧ b = .tup m ∧ c = .tup n ∧ Q (zip3D l m n)
def twoD {α : Type} (ds : List α) (P : α → α → Prop) : Prop := ∃ a b, ds = [a, b] ∧ P a b
def threeD {α : Type} (ds : List α) (P : α → α → α → Prop) : Prop := ∃ a b c, ds = [a, b, c] ∧ P a b c
theorem c_twoD {α : Type} {a b : α} {P : α → α → Prop} : twoD [a, b] P = P a b := propext ⟨fun ⟨_, _, e, h⟩ => by cases e; exact h, fun h => ⟨_, _, rfl, h⟩⟩
theorem c_threeD {α : Type} {a b c : α} {P : α → α → α → Prop} : threeD [a, b, c] P = P a b c := propext ⟨fun ⟨_, _, _, e, h⟩ => by cases e; exact h, fun h => ⟨_, _, _, rfl, h⟩⟩
theorem c_zip2t {l m : List Dt} {Q : List Dt → Prop} : zipQ2 (.tup l) (.tup m) Q = Q (zip2D l m) := by
  refine propext ⟨fun h => ?_, fun h => .inl ⟨_, _, rfl, rfl, h⟩⟩
  rcases h with ⟨_, _, e1, e2, h⟩ | ⟨_, _, e1, e2, h⟩
  · cases e1
    cases e2
    exact h
  · cases e1
theorem c_zip2l {l m : List Dt} {Q : List Dt → Prop} : zipQ2 (.lst l) (.lst m) Q = Q (zip2D l m) := by
  refine propext ⟨fun h => ?_, fun h => .inr ⟨_, _, rfl, rfl, h⟩⟩
  rcases h with ⟨_, _, e1, e2, h⟩ | ⟨_, _, e1, e2, h⟩
  · cases e1
  · cases e1
    cases e2
    exact h
theorem c_zip3t {l m n : List Dt} {Q : List Dt → Prop} : zipQ3 (.tup l) (.tup m) (.tup n) Q = Q (zip3D l m n) := propext ⟨fun ⟨_, _, _, e1, e2, e3, h⟩ => by cases e1; cases e2; cases e3; exact h, fun h => ⟨_, _, _, rfl, rfl, rfl, h⟩⟩
theorem pair_yld {K : PySem.W.Frag} {B : Hp} {l m : List Dt} {i : Nat} {H H' : Hp} {v : V} {T : Addr} {x y : V} {d e : Dt} (hd : l[i]? = some d) (he : m[i]? = some e) (r1 : Rep K B d x) (r2 : Rep K B e y) (hx : v = .ref T) (hT : H T = none) (hH : H' = upd H T (.tup [x, y])) {G : Ent} {B1 : Hp} {c : CEnv} {σ : L2.St} (e1 : Same B B1) (hc : Conc K PL G B1 c σ H) :
    ∃ B2 d, (zip2D l m)[i]? = some d ∧ Same B1 B2 ∧ Conc K PL G B2 c σ H' ∧ Rep K B2 d v := by
  subst hx hH
  have r : RepL K B1 [d, e] [x, y] := .cons (r1.mono e1) (.one (r2.mono e1))
  obtain ⟨e2, cr⟩ := conc_tup (PL := PL) hc hT r
  exact ⟨_, _, zip2D_get hd he, e2, cr.1, cr.2⟩
theorem items_zipL {K : PySem.W.Frag} {B : Hp} {a b : Addr} {xs ys : List V} {ds es : List Dt} (h : SqL K B a xs) (r : RepL K B ds xs) (h2 : SqL K B b ys) (r2 : RepL K B es ys) : ItemsOf K PL B (Itz K a b) (zip2D ds es) where
  go := fun i H e hi => by
    rw [zip2D_len] at hi
    have l1 := r.length
    have l2 := r2.length
    exact ⟨xs, ys, xs[i]'(by omega), ys[i]'(by omega), e.seq h, e.seq h2, by simp, by simp⟩
  stop := fun H e => ⟨xs, ys, e.seq h, e.seq h2, by rw [zip2D_len, r.length, r2.length]; omega⟩
  yld := fun i H x H' hi y G B1 c σ e1 hc => by
    obtain ⟨T, x1, y1, h1, h3, h4, h5, h6⟩ := y
    obtain ⟨d, f1, f2⟩ := r.getV (h5 xs ((e1.trans hc.same).seq h))
    obtain ⟨d', g1, g2⟩ := r2.getV (h6 ys ((e1.trans hc.same).seq h2))
    exact pair_yld f1 g1 f2 g2 h1 h3 h4 e1 hc
theorem items_zipT {K : PySem.W.Frag} {B : Hp} {a b : Addr} {xs ys : List V} {ds es : List Dt} (h : SqT K B a xs) (r : RepL K B ds xs) (h2 : SqT K B b ys) (r2 : RepL K B es ys) : ItemsOf K PL B (ItzT K a b) (zip2D ds es) where
  go := fun i H e hi => by
    rw [zip2D_len] at hi
    have l1 := r.length
    have l2 := r2.length
    exact ⟨xs, ys, xs[i]'(by omega), ys[i]'(by omega), sameT e h, sameT e h2, by simp, by simp⟩
  stop := fun H e => ⟨xs, ys, sameT e h, sameT e h2, by rw [zip2D_len, r.length, r2.length]; omega⟩
  yld := fun i H x H' hi y G B1 c σ e1 hc => by
    obtain ⟨T, x1, y1, h1, h3, h4, h5, h6⟩ := y
    obtain ⟨d, f1, f2⟩ := r.getV (h5 xs (sameT (e1.trans hc.same) h))
    obtain ⟨d', g1, g2⟩ := r2.getV (h6 ys (sameT (e1.trans hc.same) h2))
    exact pair_yld f1 g1 f2 g2 h1 h3 h4 e1 hc
theorem items_zip3 {K : PySem.W.Frag} {B : Hp} {a b c : Addr} {xs ys us : List V} {ds es fs : List Dt} (h : SqT K B a xs) (r : RepL K B ds xs) (h2 : SqT K B b ys) (r2 : RepL K B es ys) (h3 : SqT K B c us) (r3 : RepL K B fs us) : ItemsOf K PL B (ItzT3 K a b c xs ys us) (zip3D ds es fs) where
  go := fun i H e hi => by
    rw [zip3D_len] at hi
    have l1 := r.length
    have l2 := r2.length
    have l3 := r3.length
    exact ⟨⟨by omega, by omega, by omega⟩, sameT e h, sameT e h2, sameT e h3⟩
  stop := fun H e => ⟨by rw [zip3D_len, r.length, r2.length, r3.length]; omega, sameT e h, sameT e h2, sameT e h3⟩
  yld := fun i H x H' hi y G B1 c σ e1 hc => by
    obtain ⟨T, x1, y1, u1, rfl, k2, rfl, k4, k5, k6⟩ := y
    obtain ⟨d, f1, f2⟩ := r.getV k4
    obtain ⟨d', g1, g2⟩ := r2.getV k5
    obtain ⟨d'', j1, j2⟩ := r3.getV k6
    have rr : RepL K B1 [d, d', d''] [x1, y1, u1] := .cons (f2.mono e1) (.cons (g2.mono e1) (.one (j2.mono e1)))
    obtain ⟨e2, cr⟩ := conc_tup (PL := PL) hc k2 rr
    exact ⟨_, _, zip3D_get f1 g1 j1, e2, cr.1, cr.2⟩
def dZip2 (da : DL) : DI := fun c Q => da c fun ds c1 => twoD ds fun a b => zipQ2 a b fun l => Q l c1
def dZip3 (da : DL) : DI := fun c Q => da c fun ds c1 => threeD ds fun a b e => zipQ3 a b e fun l => Q l c1
theorem e_dZip2 {da : DL} {c : CEnv} {Q : List Dt → CEnv → Prop} : dZip2 da c Q = (da c fun ds c1 => twoD ds fun a b => zipQ2 a b fun l => Q l c1) := propext Iff.rfl
theorem e_dZip3 {da : DL} {c : CEnv} {Q : List Dt → CEnv → Prop} : dZip3 da c Q = (da c fun ds c1 => threeD ds fun a b e => zipQ3 a b e fun l => Q l c1) := propext Iff.rfl
theorem repL2 {K : PySem.W.Frag} {B : Hp} {a b : Dt} {vs : List V} (h : RepL K B [a, b] vs) : ∃ x y, vs = [x, y] ∧ Rep K B a x ∧ Rep K B b y := by
  unfold RepL at h
  obtain ⟨v, r, h1, h2, h3⟩ := h
  obtain ⟨y, rfl, h⟩ := repL1 h3
  exact ⟨_, _, h1, h2, h⟩
theorem repL3 {K : PySem.W.Frag} {B : Hp} {a b c : Dt} {vs : List V} (h : RepL K B [a, b, c] vs) : ∃ x y z, vs = [x, y, z] ∧ Rep K B a x ∧ Rep K B b y ∧ Rep K B c z := by
  unfold RepL at h
  obtain ⟨v, r, h1, h2, h3⟩ := h
  obtain ⟨y, z, rfl, h, h'⟩ := repL2 h3
  exact ⟨_, _, _, h1, h2, h, h'⟩
theorem qi_zip2 {e e2 : Expr} {da : DL} {p pos tpos : Pos} {elts : List Expr} {kk : Nat} (ha : QL X PL [e, e2] da) (hg : Gl X "zip") (hm : X.mg "zip" = none)
    (hs : starEach [e, e2] X.env = (false, eval e X.env) :: starEach [e2] X.env := by rfl) (hpl : (backTo pos (starEach [e2] X.env)).any (·.1) = false := by rfl) :
    QI X PL (.Tuple elts kk tpos) (.Call (.Name "zip" p) [e, e2] [] pos) (dZip2 da) := by
  refine qi_of (pi_zipA hg hm ha.pa hs hpl) fun G B c σ H Qd R hc hd2 hq => ?_
  refine ⟨G, B, c, _, hc, hd2, fun ds c1 B1 H1 vs g1 e1 hc1 rl => ?_⟩
  obtain ⟨d, d', rfl, g1⟩ := g1
  obtain ⟨v, v', rfl, rv, rv'⟩ := repL2 rl
  rcases g1 with ⟨l, m, rfl, rfl, g1⟩ | ⟨l, m, rfl, rfl, g1⟩
  · unfold Rep at rv rv'
    obtain ⟨a, xs, rfl, q1, q2⟩ := rv
    obtain ⟨a', xs', rfl, q1', q2'⟩ := rv'
    exact ⟨a, a', xs, xs', rfl, .inr ⟨sameT hc1.same q1, sameT hc1.same q1', hq _ _ B1 _ _ g1 e1 hc1 (items_zipT q1 q2 q1' q2')⟩⟩
  · unfold Rep at rv rv'
    obtain ⟨a, xs, rfl, q1, q2⟩ := rv
    obtain ⟨a', xs', rfl, q1', q2'⟩ := rv'
    exact ⟨a, a', xs, xs', rfl, .inl ⟨.of (hc1.same _ _ q1), .of (hc1.same _ _ q1'), hq _ _ B1 _ _ g1 e1 hc1 (items_zipL (.of q1) q2 (.of q1') q2')⟩⟩
theorem qi_zip3 {e e2 e3 : Expr} {da : DL} {p pos tpos : Pos} {elts : List Expr} {kk : Nat} (ha : QL X PL [e, e2, e3] da) (hg : Gl X "zip") (hm : X.mg "zip" = none)
    (hs : starEach [e, e2, e3] X.env = (false, eval e X.env) :: starEach [e2, e3] X.env := by rfl) (hpl : (backTo pos (starEach [e2, e3] X.env)).any (·.1) = false := by rfl) :
    QI X PL (.Tuple elts kk tpos) (.Call (.Name "zip" p) [e, e2, e3] [] pos) (dZip3 da) := by
  refine qi_of (pi_zip3 hg hm ha.pa hs hpl) fun G B c σ H Qd R hc hd2 hq => ?_
  refine ⟨G, B, c, _, hc, hd2, fun ds c1 B1 H1 vs g1 e1 hc1 rl => ?_⟩
  obtain ⟨d, d', d'', rfl, g1⟩ := g1
  obtain ⟨v, v', v'', rfl, rv, rv', rv''⟩ := repL3 rl
  obtain ⟨l, m, n, rfl, rfl, rfl, g1⟩ := g1
  unfold Rep at rv rv' rv''
  obtain ⟨a, xs, rfl, q1, q2⟩ := rv
  obtain ⟨a', xs', rfl, q1', q2'⟩ := rv'
  obtain ⟨a'', xs'', rfl, q1'', q2''⟩ := rv''
  exact ⟨a, a', a'', xs, xs', xs'', rfl, sameT hc1.same q1, sameT hc1.same q1', sameT hc1.same q1'', hq _ _ B1 _ _ g1 e1 hc1 (items_zip3 q1 q2 q1' q2' q1'' q2'')⟩
end Cl

namespace Cl
open PySem PySem.Spec PyProof.Rows L2
variable {X : Cx} {PL : PoolP} {K : PySem.W.Frag}
/-! ### + where a tuple may be empty -/
def fAddT : OpF
  | .int i, .int j, k => k (.dat (.int (i + j)))
  | .str s, .str t, k => s.length + t.length ≤ 10000000 ∧ k (.dat (.str (s ++ t)))
  | .lst l, .lst m, k => l.length + m.length ≤ 10000000 ∧ k (.new (.lst (l ++ m)))
  | .tup l, .tup m, k => l.length + m.length ≤ 10000000 ∧ k (.dat (.tup (l ++ m)))
  | _, _, _ => False
def rAddT (K : PySem.W.Frag) : R2 := fun x y H Q => rAdd K x y H Q ∨ rCatA K x y H Q
theorem opr_addT {X : Cx} : OpR X (binaryOp .Add) (rAddT X.K) := OpR.or opr_add op_catA
theorem opd_addT : OpD K PL (rAddT K) fAddT := by
  intro G B c σ H x y v u k Q hc rx ry hf hq
  cases x with
  | int i =>
    cases y with
    | int j => exact .inl (opd_add G B c σ H _ _ v u k Q hc rx ry hf hq)
    | _ => exact hf.elim
  | str s =>
    cases y with
    | str t => exact .inl (opd_add G B c σ H _ _ v u k Q hc rx ry hf hq)
    | _ => exact hf.elim
  | lst l =>
    cases y with
    | lst m => exact .inl (opd_add G B c σ H _ _ v u k Q hc rx ry hf hq)
    | _ => exact hf.elim
  | tup l =>
    cases y with
    | tup m =>
      obtain ⟨h1, h2⟩ := hf
      obtain ⟨a, xs, rfl, e1, e2⟩ := rx
      obtain ⟨b, ys, rfl, e3, e4⟩ := ry
      refine .inr ⟨a, b, xs, ys, rfl, rfl, sameT hc.same e1, sameT hc.same e3, by rw [e2.length, e4.length]; exact sz7 h1, fun z => ?_, fun z1 z => ?_, fun _ z p hp => ?_⟩
      · have hm : l = [] := by
          have := e2.length
          rw [z] at this
          exact List.length_eq_zero_iff.mp this.symm
        subst hm
        rw [List.nil_append] at h2
        exact hq _ _ B H h2 (Same.refl B) ⟨hc, by unfold Rep; exact ⟨b, ys, rfl, e3, e4⟩⟩
      · have hm : m = [] := by
          have := e4.length
          rw [z] at this
          exact List.length_eq_zero_iff.mp this.symm
        subst hm
        subst z
        rw [List.append_nil] at h2
        exact hq _ _ B H h2 (Same.refl B) ⟨hc, by unfold Rep; exact ⟨a, xs, rfl, e1, e2⟩⟩
      · obtain ⟨h3, h4⟩ := conc_tup hc hp (e2.app e4)
        exact hq _ _ _ _ h2 h3 h4
    | _ => exact hf.elim
  | _ => exact hf.elim
theorem c_addT_int {k : Res → Prop} {i j : Int} : fAddT (.int i) (.int j) k = k (.dat (.int (i + j))) := propext Iff.rfl
theorem c_addT_str {k : Res → Prop} {s t : List Nat} : fAddT (.str s) (.str t) k = (s.length + t.length ≤ 10000000 ∧ k (.dat (.str (s ++ t)))) := propext Iff.rfl
theorem c_addT_lst {k : Res → Prop} {l m : List Dt} : fAddT (.lst l) (.lst m) k = (l.length + m.length ≤ 10000000 ∧ k (.new (.lst (l ++ m)))) := propext Iff.rfl
theorem c_addT_tup {k : Res → Prop} {l m : List Dt} : fAddT (.tup l) (.tup m) k = (l.length + m.length ≤ 10000000 ∧ k (.dat (.tup (l ++ m)))) := propext Iff.rfl
/-! ### slices where a tuple's may be the whole -/
def fSlT (x : Dt) (lo hi : Option Int) (k : Res → Prop) : Prop := match x with
  | .lst l => k (.new (.lst (cut l lo hi)))
  | .tup l => k (.dat (.tup (cut l lo hi)))
  | .str s => s.length ≤ 10000000 ∧ k (.dat (.str (cut s lo hi)))
  | _ => False
theorem c_slT_lst {k : Res → Prop} {l : List Dt} {a b : Option Int} : fSlT (.lst l) a b k = k (.new (.lst (cut l a b))) := propext Iff.rfl
theorem c_slT_tup {k : Res → Prop} {l : List Dt} {a b : Option Int} : fSlT (.tup l) a b k = k (.dat (.tup (cut l a b))) := propext Iff.rfl
theorem c_slT_str {k : Res → Prop} {l : List Nat} {a b : Option Int} : fSlT (.str l) a b k = (l.length ≤ 10000000 ∧ k (.dat (.str (cut l a b)))) := propext Iff.rfl
def dSlT (da : DE) (dl dh : CEnv → (Option Int → CEnv → Prop) → Prop) : DE := fun c Q => da c fun r c1 => dl c1 fun lo c2 => dh c2 fun hi c3 => on1 (hd r) c3 fun x => fSlT x lo hi fun z => Q z c3
theorem e_dSlT {da : DE} {dl dh : CEnv → (Option Int → CEnv → Prop) → Prop} {c : CEnv} {Q : Res → CEnv → Prop} : dSlT da dl dh c Q = (da c fun r c1 => dl c1 fun lo c2 => dh c2 fun hi c3 => on1 (hd r) c3 fun x => fSlT x lo hi fun z => Q z c3) := propext Iff.rfl
theorem cut_whole {α : Type} {l : List α} {lo hi : Option Int} (h : HT.sIx l.length 0 lo = 0 ∧ HT.sIx l.length l.length hi = l.length) : cut l lo hi = l := by
  unfold cut
  rw [h.1, h.2, List.drop_zero, Nat.sub_zero, List.take_length]
theorem qe_slT {e : Expr} {lo hi : Option Expr} {p2 pos : Pos} {da : DE} {dl dh : CEnv → (Option Int → CEnv → Prop) → Prop} (h : QE X PL e da) (h1 : QO X PL lo dl) (h2 : QO X PL hi dh) : QE X PL (.Subscript e (.Slice lo hi none p2) pos) (dSlT da dl dh) := by
  refine q_of (pe_slice (SlR.or sl_list (SlR.or sl_tupA sl_str)) h.pe h1.po h2.po) fun G B c σ H Qd Q hc hd2 hq => ?_
  refine ⟨G, B, c, _, hc, hd2, fun r c1 B1 H1 v g1 e1 cr => ?_⟩
  obtain ⟨B2, e2, hc2, hh⟩ := cr.hold
  refine ⟨G, B2, c1, _, hc2, g1, fun o1 c2 B3 H2 g2 e3 hc3 => ?_⟩
  refine ⟨G, B3, c2, _, hc3, g2, fun o2 c3 B4 H3 g3 e4 hc4 => ?_⟩
  obtain ⟨x, rx, hf⟩ := on1_ok hc4 (hh.mono (e3.trans e4)) g3
  have ee : Same B B4 := ((e1.trans e2).trans e3).trans e4
  cases x with
  | lst l =>
    obtain ⟨a, xs, rfl, q1, q2⟩ := rx
    exact .inl ⟨a, xs, rfl, .of q1, fun p hp => hq _ _ B4 _ _ hf ee (conc_lst hc4 hp (cut_rep q2 _ _))⟩
  | tup l =>
    obtain ⟨a, xs, rfl, q1, q2⟩ := rx
    refine .inr (.inl ⟨a, xs, rfl, sameT hc4.same q1, fun z => ?_, fun _ p hp => ?_⟩)
    · rw [q2.length] at z
      have hf : Qd (.dat (.tup (cut l o1 o2))) c3 := hf
      rw [cut_whole z] at hf
      exact hq _ _ _ _ _ hf ee ⟨hc4, by unfold Rep; exact ⟨a, xs, rfl, q1, q2⟩⟩
    · obtain ⟨e5, cr5⟩ := conc_tup hc4 hp (cut_rep q2 o1 o2)
      exact hq _ _ _ _ _ hf (ee.trans e5) cr5
  | str s =>
    have q : v = .str (S s) := rx
    subst q
    obtain ⟨f1, f2⟩ := hf
    refine .inr (.inr ⟨S s, rfl, by rw [S_len]; exact sz7 f1, hq _ _ B4 _ _ f2 ee ⟨hc4, ?_⟩⟩)
    unfold Rep cutS cut
    rw [S_len]
    rfl
  | _ => exact hf.elim
/-! ### x is not True, x is not False, x a bool -/
def fNtB (v : Bool) : OpF := fun x y k => y = .bl v ∧ ∃ b, x = .bl b ∧ k (.dat (.bl (b != v)))
theorem opd_ntB {v : Bool} : OpD K PL (fun x y H Q => ∃ a b, x = .bl a ∧ y = .bl b ∧ Q (.bl (!decide (a = b))) H) (fNtB v) := by
  intro G B c σ H x y a u k Q hc rx ry hf hq
  obtain ⟨rfl, b, rfl, hf⟩ := hf
  exact ⟨b, v, rx, ry, hq _ _ B H hf (Same.refl B) ⟨hc, by unfold Rep; cases b <;> cases v <;> rfl⟩⟩
theorem c_ntB {k : Res → Prop} {b v : Bool} : fNtB v (.bl b) (.bl v) k = k (.dat (.bl (b != v))) := propext ⟨fun ⟨_, _, e, h⟩ => by cases e; exact h, fun h => ⟨rfl, _, rfl, h⟩⟩
end Cl

namespace Cl
open PySem PySem.Spec PyProof.Rows L2 HT
/-! ### t[::-1], t a tuple or a list -/
section
variable {prog : Program} {w : World} {A : Around} {E : Value → Shared → Prop} {s : Shared}
theorem rev_applied {sl : Addr} {vl vu vs : Value} {n : Nat} {Q : Int × Int × Nat → Shared → Prop} (hs : s.heap.IsSliceOf sl vl vu vs) (pl : IsPart vl none) (pu : IsPart vu none) (ps : IsPart vs (some (-1)))
    (h : Q ((n : Int) - 1, -1, n) s) : wpAny (model prog w) A (Builtin.Slice.sliceApplied (.ref sl) (pure (n : Int))) Q E s := by
  obtain ⟨os, hos, hcs, hds⟩ := id hs
  unfold Builtin.Slice.sliceApplied Builtin.Slice.sliceFields
  refine wpAny_bind (wpAny_bind (wpAny_field hos hds (x := vl) rfl (wpAny_bind (wpAny_field hos hds (x := vu) rfl (wpAny_bind (wpAny_field hos hds (x := vs) rfl (wpAny_pure ?_)))))))
  refine wpAny_bind (slicePart_ ps ?_)
  show wpAny _ _ (if ((-1 : Int) == 0) = true then _ else _) _ _ s
  rw [if_neg (by decide)]
  refine wpAny_bind (slicePart_ pl (wpAny_bind (slicePart_ pu (wpAny_bind (wpAny_pure ?_)))))
  have e1 : Builtin.Slice.sliceAdjust none none (-1) (n : Int) = ((n : Int) - 1, -1) := rfl
  have e2 : Builtin.Slice.slicePlaces ((n : Int) - 1) (-1) (-1) = n := by
    unfold Builtin.Slice.slicePlaces
    rw [if_neg (by decide)]
    by_cases q : (n : Int) - 1 > -1
    · rw [if_pos q, show (- -1 : Int) = 1 by decide, Int.ediv_one]
      omega
    · rw [if_neg q]
      omega
  show wpAny _ _ (match Builtin.Slice.sliceAdjust none none (-1) (n : Int) with | (lo, hi) => pure (lo, (-1 : Int), Builtin.Slice.slicePlaces lo hi (-1))) _ _ s
  rw [e1]
  show wpAny _ _ (pure ((n : Int) - 1, (-1 : Int), Builtin.Slice.slicePlaces ((n : Int) - 1) (-1) (-1))) _ _ s
  rw [e2]
  exact wpAny_pure h
theorem fm_congr {α β : Type} {f g : α → Option β} : ∀ {l : List α}, (∀ x ∈ l, f x = g x) → l.filterMap f = l.filterMap g
  | [], _ => rfl
  | a :: l, h => by
    rw [List.filterMap_cons, List.filterMap_cons, h a (List.mem_cons_self ..), fm_congr fun x hx => h x (List.mem_cons_of_mem _ hx)]
theorem rev_pick (xs : Array Value) : ((List.range xs.size).filterMap fun (m : Nat) => xs[(((xs.size : Int) - 1) + (m : Int) * (-1)).toNat]?).toArray = xs.toList.reverse.toArray := by
  have e : (List.range xs.size).filterMap (fun (m : Nat) => xs[(((xs.size : Int) - 1) + (m : Int) * (-1)).toNat]?) = ((List.range xs.size).map fun k => xs.size - 1 - k).filterMap (xs[·]?) := by
    rw [List.filterMap_map]
    refine fm_congr fun m hm => ?_
    have hm := List.mem_range.mp hm
    show _ = xs[xs.size - 1 - m]?
    congr 1
    omega
  rw [e, PySem.W.krv_range, List.filterMap_reverse, PySem.W.krv_all]
theorem getItem_tuple_rev {t sl : Addr} {items : Array Value} {vl vu vs : Value} {Q : Value → Shared → Prop} (ht : IsTup s.heap t items) (hs : s.heap.IsSliceOf sl vl vu vs) (pl : IsPart vl none) (pu : IsPart vu none) (ps : IsPart vs (some (-1)))
    (h : Q (.ref s.heap.objs.size) { s with heap := s.heap.push { cls := .type "tuple", data := .seq items.toList.reverse.toArray } })
    (hsz : items.size ≤ sizeLine) : wpAny (model prog w) A (getItem (.ref t) (.ref sl)) Q E s := by
  have htake : sizeOk (.seq items.toList.reverse.toArray) := by
    show items.toList.reverse.toArray.size ≤ sizeLine
    rw [List.size_toArray, List.length_reverse, Array.length_toList]
    exact hsz
  obtain ⟨os, hos, hcs, hds⟩ := id hs
  have hTs : s.TypeIs (.ref sl) "slice" := ⟨os, hos, hcs⟩
  unfold getItem
  try with_reducible refine wpAny_holding ?_
  first | refine wpAny_bind (wpAny_pure ?_) | skip
  refine wpAny_bind (wpAny_sequenceKey ht.typeIs (by decide) ?_)
  refine wpAny_bind (wpAny_callSpecial?_slot (name := Str.ofString "__getitem__") ht.typeIs PyProof.Rows.slot_tuple_getitem
    (wpAny_call_entry PyProof.Rows.slot_tuple_getitem ht.typeIs entry_tuple_getitem ?_ (args_tuple_getitem _ _)))
  show wpAny _ _ (Builtin.Tuple.tupleItemsOf (.ref t) >>= _) _ _ s
  refine wpAny_bind (tupleItemsOf_ ht ?_)
  refine wpAny_bind (wpAny_typeOf hTs ?_)
  rw [if_pos (by decide)]
  refine wpAny_bind (rev_applied hs pl pu ps ?_)
  show wpAny _ _ (if (((items.size : Int) - 1) == 0 && (-1 : Int) == 1 && items.size == items.size) = true then _ else _) _ _ s
  rw [if_neg (by intro q; rw [Bool.and_eq_true, Bool.and_eq_true] at q; exact absurd q.1.2 (by decide)), rev_pick]
  first
    | exact wpAny_bind (m := Builtin.Tuple.tupleExact _) (wpAny_newObj_type (wpAny_pure ⟨_, rfl, wpAny_pure h⟩) htake)
    | exact wpAny_bind (m := Builtin.Tuple.tupleExact _) (wpAny_newObj_type (wpAny_bind (wpAny_pure (wpAny_pure ⟨_, rfl, wpAny_pure h⟩))) htake)
    | exact wpAny_bind (wpAny_bind (m := Builtin.Tuple.tupleExact _) (wpAny_newObj_type (wpAny_pure (wpAny_pure ⟨_, rfl, wpAny_pure h⟩)) htake))
    | exact wpAny_bind (wpAny_bind (m := Builtin.Tuple.tupleExact _) (wpAny_newObj_type (wpAny_pure ⟨_, rfl, wpAny_pure h⟩) htake))
end
variable {X : Cx} {PL : PoolP}
def tRevT (K : PySem.W.Frag) (te : TE) : TE := fun σ H Q => te σ H fun x H1 => ∃ a xs, x = .ref a ∧ SqT K H1 a xs ∧ ∀ p, H1 p = none → Q (.ref p) (upd H1 p (.tup xs.reverse))
theorem pe_revT {e : Expr} {te : TE} {k : Nat} {p1 p2 p3 pos : Pos} (he : PE X e te) : PE X (.Subscript e (.Slice none none (some (.UnaryOp .USub (.Constant (.int 1) k p1) p2)) p3) pos) (tRevT X.K te) := by
  refine ⟨fun pins s σ H Q I h => ?_⟩
  refine Subscript_ (thn (he.run pins s σ H _ I h) fun v s1 ⟨x, H1, I1, r1, q1⟩ => ?_)
  obtain ⟨a, xs, ex, hx, q⟩ := q1
  subst ex
  cases r1
  have hst : PO X (some (.UnaryOp .USub (.Constant (.int 1) k p1) p2)) (tPart (tUn (rU fun i => .int (-i)) (tC (.int 1)))) := po_some (pe_un un_neg pe_int)
  refine wpAny_Slice (thn (po_none.run pins s1 σ H1 (fun o H2 => o = none ∧ H2 = H1) I1 ⟨rfl, rfl⟩) fun vl s2 ⟨l, H2, I2, pl, el, e2⟩ => ?_)
  subst el e2
  refine thn (po_none.run pins s2 σ H2 (fun o H3 => o = none ∧ H3 = H2) I2 ⟨rfl, rfl⟩) fun vu s3 ⟨u, H3, I3, pu, eu, e3⟩ => ?_
  subst eu e3
  refine thn (hst.run pins s3 σ H3 (fun o H4 => o = some (-1) ∧ H4 = H3) I3 ⟨1, rfl, -1, rfl, rfl, rfl⟩) fun vs s4 ⟨o, H4, I4, ps, eo, e4⟩ => ?_
  subst eo e4
  have I5 : Inv X pins σ H4 { s4 with heap := s4.heap.push { cls := .type "slice", data := .fields #[vl, vu, vs] } } := I4.kept (t' := s4.toks) fun b ob q => Heap.get?_push_of_some _ q
  obtain ⟨its, r, ht, hz⟩ := I5.tuple hx
  have hlen := r.length
  show wpAny (model X.prog X.w) X.A (subscriptTail e (.Slice none none (some (.UnaryOp .USub (.Constant (.int 1) k p1) p2)) p3) (.ref a) (.ref s4.heap.objs.size)) (EP X pins σ Q) X.xe { s4 with heap := s4.heap.push { cls := .type "slice", data := .fields #[vl, vu, vs] } }
  refine tail_any (ops := [.ref a, .ref s4.heap.objs.size]) ht.typeIs (PyProof.Rows.slot_tuple_getitem.lookup) ?_ (by with_unfolding_all rfl)
  refine getItem_tuple_rev ht (Heap.IsSliceOf.new _ vl vu vs) pl pu ps ?_ (by rw [List.size_toArray]; omega)
  refine ⟨.ref _, _, I5.laid (t' := s4.toks) (o := .tup xs.reverse) (fun b ob q => Heap.get?_push_of_some _ q) (Nat.le_refl _) ?_, rfl, q _ (I5.hok.fresh (Nat.le_refl _))⟩
  exact ⟨by rw [List.length_reverse]; exact hz, _, r.reverse, IsTup.new _ _⟩
def fRvT (x : Dt) (k : Res → Prop) : Prop := ∃ l, x = .tup l ∧ k (.dat (.tup l.reverse))
def dRvT (da : DE) : DE := fun c Q => da c fun r c1 => on1 (hd r) c1 fun x => fRvT x fun z => Q z c1
theorem e_dRvT {da : DE} {c : CEnv} {Q : Res → CEnv → Prop} : dRvT da c Q = (da c fun r c1 => on1 (hd r) c1 fun x => fRvT x fun z => Q z c1) := propext Iff.rfl
theorem c_rvT {l : List Dt} {k : Res → Prop} : fRvT (.tup l) k = k (.dat (.tup l.reverse)) := propext ⟨fun ⟨_, e, h⟩ => by cases e; exact h, fun h => ⟨_, rfl, h⟩⟩
theorem repL_rev {K : PySem.W.Frag} {B : Hp} : ∀ {l : List Dt} {xs : List V}, RepL K B l xs → RepL K B l.reverse xs.reverse
  | [], xs, h => by
    unfold RepL at h
    subst h
    unfold RepL
    rfl
  | d :: l, xs, h => by
    unfold RepL at h
    obtain ⟨x, r, rfl, h2, h3⟩ := h
    rw [List.reverse_cons, List.reverse_cons]
    exact (repL_rev h3).app (.one h2)
theorem qe_rvT {e : Expr} {k : Nat} {p1 p2 p3 pos : Pos} {da : DE} (h : QE X PL e da) : QE X PL (.Subscript e (.Slice none none (some (.UnaryOp .USub (.Constant (.int 1) k p1) p2)) p3) pos) (dRvT da) := by
  refine q_of (pe_revT h.pe) fun G B c σ H Qd Q hc hd2 hq => ?_
  refine ⟨G, B, c, _, hc, hd2, fun r c1 B1 H1 v g1 e1 cr => ?_⟩
  obtain ⟨B2, e2, hc2, hh⟩ := cr.hold
  obtain ⟨x, rx, hf⟩ := on1_ok hc2 hh g1
  obtain ⟨l, rfl, hf⟩ := hf
  obtain ⟨a, xs, rfl, q1, q2⟩ := rx
  refine ⟨a, xs, rfl, sameT hc2.same q1, fun p hp => ?_⟩
  obtain ⟨e5, cr5⟩ := conc_tup hc2 hp (repL_rev q2)
  exact hq _ _ _ _ _ hf ((e1.trans e2).trans e5) cr5
end Cl

namespace Cl
open PySem PySem.Spec PyProof.Rows L2
variable {X : Cx} {PL : PoolP} {K : PySem.W.Frag}
/-! ### x in l, l a list of data of any depth -/
def fInD (neg : Bool) : OpF := fun x y k => ∃ l, y = .lst l ∧ shp (.lst l) = true ∧ shp x = true ∧ k (.dat (.bl ((l.any fun z => eqD z x) != neg)))
theorem toPys_any (x : Dt) : ∀ l : List Dt, ((toPys l).any fun z => PyData.eqv z (toPy x)) = l.any fun z => eqD z x
  | [] => by
    unfold toPys
    rfl
  | d :: l => by
    unfold toPys
    rw [List.any_cons, List.any_cons, toPys_any x l]
    rfl
theorem inD_rep {B H : Hp} {l : List Dt} {x : Dt} {v u : V} (s : Same B H) (rx : RepH K B H x v) (ry : RepH K B H (.lst l) u) (s1 : shp (.lst l) = true) (s2 : shp x = true) :
    Dp K H v (toPy x) ∧ Dp K H u (.list (toPys l)) ∧ SeqAt.shaped (toPy x) = true ∧ SeqAt.shaped (.list (toPys l)) = true := by
  have h := ry.dp s
  refine ⟨rx.dp s, ?_, s2, ?_⟩
  · unfold toPy at h
    exact h
  · unfold shp toPy at s1
    exact s1
theorem opd_inD : OpD K PL (rInD K) (fInD false) := by
  intro G B c σ H x y v u k Q hc rx ry hf hq
  obtain ⟨l, rfl, s1, s2, hf⟩ := hf
  obtain ⟨a1, a2, a3, a4⟩ := inD_rep hc.same rx ry s1 s2
  refine ⟨_, _, a1, a2, a3, a4, ?_⟩
  rw [toPys_any]
  rw [Bool.bne_false] at hf
  exact hq _ _ B H hf (Same.refl B) ⟨hc, by unfold Rep; rfl⟩
theorem opd_notInD : OpD K PL (rNotInD K) (fInD true) := by
  intro G B c σ H x y v u k Q hc rx ry hf hq
  obtain ⟨l, rfl, s1, s2, hf⟩ := hf
  obtain ⟨a1, a2, a3, a4⟩ := inD_rep hc.same rx ry s1 s2
  refine ⟨_, _, a1, a2, a3, a4, ?_⟩
  rw [toPys_any]
  rw [Bool.bne_true] at hf
  exact hq _ _ B H hf (Same.refl B) ⟨hc, by unfold Rep; rfl⟩
theorem c_finD {neg : Bool} {x : Dt} {l : List Dt} {k : Res → Prop} : fInD neg x (.lst l) k = ((shp (.lst l) = true ∧ shp x = true) ∧ k (.dat (.bl ((l.any fun z => eqD z x) != neg)))) :=
  propext ⟨fun ⟨_, e, h1, h2, h⟩ => by cases e; exact ⟨⟨h1, h2⟩, h⟩, fun h => ⟨_, rfl, h.1.1, h.1.2, h.2⟩⟩
end Cl

namespace Cl
open PySem PySem.Spec PyProof.Rows L2
variable {X : Cx} {PL : PoolP} {K : PySem.W.Frag}
/-! ### l.index(x), l a list handed in -/
def dIdxL (i : Nat) (dl : DL) : DE := fun c Q => ∃ l, gt c i = .dat (.lst l) ∧ dl c fun ds c1 => oneD ds fun y => idxD l y fun d _ => Q (.dat d) c1
theorem qe_idxL {i : Nat} {e : Expr} {apos cpos : Pos} {x : Str} {xpos : Pos} {dl : DL} (hu : X.A.units + 65 < cLine)
    (ho : PE X (.Name x xpos) (tVar i)) (ha : QL X PL [e] dl) (hbase : attributeBase (.Name x xpos) "index" X.env (eval (.Name x xpos) X.env) = eval (.Name x xpos) X.env := by rfl)
    (hfew : ((backTo cpos (starEach [e] X.env)).all (fun x => !x.1) && (backToKw cpos (keywordEach [] X.env)).all (fun x => x.1.isSome) && decide ([e].length + ([] : List Keyword).length + (if ([] : List Keyword).isEmpty then 0 else 1) < 30)) = true := by rfl)
    (hline : (apos.endLine == cpos.line) = true := by rfl) (hs : starEach [e] X.env = (false, eval e X.env) :: starEach [] X.env := by rfl) (hplain : (backTo cpos (starEach [] X.env)).any (·.1) = false := by rfl) :
    QE X PL (.Call (.Attribute (.Name x xpos) "index" apos) [e] [] cpos) (dIdxL i dl) := by
  refine q_of (pe_bm PySem.F.plainAttrs_list PySem.F.slot_list_index PySem.F.type_list_index (mt_indexD hu) ho ha.pa hbase hfew hline hs hplain) fun G B c σ H Qd Q hc hd2 hq => ?_
  obtain ⟨l, hs', hd3⟩ := hd2
  obtain ⟨v, h1, h2⟩ := hc.getDat hs'
  have h2' := h2
  unfold Rep at h2'
  obtain ⟨a, xs, rfl, b1, b2⟩ := h2'
  refine ⟨.ref a, h1, .inl ⟨rfl, xs, .of (hc.same _ _ b1)⟩, G, B, c, _, hc, hd3, fun ds c1 B1 H1 vs q ee hc1 rl => ?_⟩
  obtain ⟨y, rfl, q⟩ := oneD_ok q
  obtain ⟨s1, s2, j, z, z1, z2, z3, z4⟩ := q
  obtain ⟨w, rfl, rw_⟩ := repL1 rl
  have hl := (h2.mono ee).dp hc1.same
  unfold toPy at hl
  refine ⟨a, w, toPy y, toPys l, j, toPy z, rfl, rfl, hl, rw_.dp hc1.same, ?_, s2, ?_, z2, fun m z' hm hz => ?_, hq (.dat (.int (j : Nat))) c1 B1 H1 _ z4 ee ⟨hc1, by unfold Rep; rfl⟩⟩
  · unfold shp toPy at s1
    exact s1
  · rw [toPys_get, z1]
    rfl
  · rw [toPys_get] at hz
    cases q : l[m]? with
    | none =>
      rw [q] at hz
      cases hz
    | some w =>
      rw [q] at hz
      cases hz
      exact z3 m w hm q
theorem e_dIdxL {i : Nat} {dl : DL} {c : CEnv} {Q : Res → CEnv → Prop} : dIdxL i dl c Q = (∃ l, gt c i = .dat (.lst l) ∧ dl c fun ds c1 => oneD ds fun y => idxD l y fun d _ => Q (.dat d) c1) := propext Iff.rfl
def slL (s : Slot) (k : List Dt → Prop) : Prop := ∃ l, s = .dat (.lst l) ∧ k l
theorem e_dIdxS {i : Nat} {dl : DL} {c : CEnv} {Q : Res → CEnv → Prop} : dIdxL i dl c Q = slL (gt c i) fun l => dl c fun ds c1 => oneD ds fun y => idxD l y fun d _ => Q (.dat d) c1 := propext Iff.rfl
theorem c_slL {l : List Dt} {k : List Dt → Prop} : slL (.dat (.lst l)) k = k l := propext ⟨fun ⟨_, e, h⟩ => by cases e; exact h, fun h => ⟨_, rfl, h⟩⟩
end Cl

namespace Bo
/-! ### signs, births, what is told ahead -/
abbrev Sg := Nat × Nat
abbrev Bs := List (Sg × Sg)
def lf (b : Bs) (c : Nat) : Sg := (b.getD c ((0, 0), (0, 0))).1
def rt (b : Bs) (c : Nat) : Sg := (b.getD c ((0, 0), (0, 0))).2
def Wf (b : Bs) : Prop := ∀ c, 1 ≤ c → c < b.length → (lf b c).1 < c ∧ (rt b c).1 < c
/-- told ahead, with fuel -/
def ah (b : Bs) : Nat → Sg → Sg → Bool
  | 0, _, _ => false
  | n + 1, x, y => if x.1 = y.1 then decide (x.2 < y.2) else if x.1 < y.1 then (decide (x = lf b y.1) || ah b n x (lf b y.1)) else (decide (y = rt b x.1) || ah b n (rt b x.1) y)
theorem ah_fuel {b : Bs} (hw : Wf b) : ∀ (n m : Nat) (x y : Sg), x.1 < b.length → y.1 < b.length → x.1 + y.1 < n → x.1 + y.1 < m → ah b n x y = ah b m x y
  | 0, _, _, _, _, _, h, _ => absurd h (Nat.not_lt_zero _)
  | _ + 1, 0, _, _, _, _, _, h => absurd h (Nat.not_lt_zero _)
  | n + 1, m + 1, x, y, hx, hy, h1, h2 => by
    unfold ah
    split
    · rfl
    · split
      · rename_i _ h
        have := hw y.1 (by omega) hy
        rw [ah_fuel hw n m x (lf b y.1) hx (by omega) (by omega) (by omega)]
      · rename_i h h'
        have := hw x.1 (by omega) hx
        rw [ah_fuel hw n m (rt b x.1) y (by omega) hy (by omega) (by omega)]
/-- told ahead -/
def Ah (b : Bs) (x y : Sg) : Prop := ah b (x.1 + y.1 + 1) x y = true
theorem Ah_eq {b : Bs} {x y : Sg} (h : x.1 = y.1) : Ah b x y ↔ x.2 < y.2 := by
  unfold Ah ah
  rw [if_pos h, decide_eq_true_eq]
theorem Ah_lt {b : Bs} (hw : Wf b) {x y : Sg} (hy : y.1 < b.length) (h : x.1 < y.1) : Ah b x y ↔ x = lf b y.1 ∨ Ah b x (lf b y.1) := by
  have := hw y.1 (by omega) hy
  unfold Ah
  rw [ah, if_neg (by omega), if_pos h, Bool.or_eq_true, decide_eq_true_eq, ah_fuel hw (x.1 + y.1) (x.1 + (lf b y.1).1 + 1) x (lf b y.1) (by omega) (by omega) (by omega) (by omega)]
theorem Ah_gt {b : Bs} (hw : Wf b) {x y : Sg} (hx : x.1 < b.length) (h : y.1 < x.1) : Ah b x y ↔ y = rt b x.1 ∨ Ah b (rt b x.1) y := by
  have := hw x.1 (by omega) hx
  unfold Ah
  rw [ah, if_neg (by omega), if_neg (by omega), Bool.or_eq_true, decide_eq_true_eq, ah_fuel hw (x.1 + y.1) ((rt b x.1).1 + y.1 + 1) (rt b x.1) y (by omega) (by omega) (by omega) (by omega)]
theorem Ah_irr {b : Bs} {x : Sg} : ¬ Ah b x x := by
  rw [Ah_eq rfl]
  omega
/-- the left of a chunk is told ahead of its right -/
def Lr (b : Bs) : Prop := ∀ c, 1 ≤ c → c < b.length → Ah b (lf b c) (rt b c)
theorem Ah_tr {b : Bs} (hw : Wf b) (hl : Lr b) : ∀ (N : Nat) (x y z : Sg), x.1 < N → y.1 < N → z.1 < N → N ≤ b.length → Ah b x y → Ah b y z → Ah b x z
  | 0, _, _, _, h, _, _, _, _, _ => absurd h (Nat.not_lt_zero _)
  | N + 1, x, y, z, hx, hy, hz, hN, h1, h2 => by
    have ih := Ah_tr hw hl N
    by_cases x0 : x.1 = N
    · by_cases y0 : y.1 = N
      · by_cases z0 : z.1 = N
        · rw [Ah_eq (by omega)] at h1 h2 ⊢
          omega
        · rw [Ah_gt hw (by omega) (by omega)] at h2 ⊢
          rw [show x.1 = y.1 by omega]
          exact h2
      · by_cases z0 : z.1 = N
        · -- y lies between two of one chunk
          have w := hw x.1 (by omega) (by omega)
          have l := hl x.1 (by omega) (by omega)
          rw [Ah_gt hw (by omega) (by omega)] at h1
          rw [Ah_lt hw (by omega) (by omega)] at h2
          rw [show z.1 = x.1 by omega] at h2
          have h3 : Ah b (lf b x.1) y := by
            rcases h1 with e | h1
            · rw [e]
              exact l
            · exact ih _ _ _ (by omega) (by omega) (by omega) (by omega) l h1
          rcases h2 with e | h2
          · rw [← e] at h3
            exact absurd h3 Ah_irr
          · exact absurd (ih _ _ _ (by omega) (by omega) (by omega) (by omega) h2 h3) (fun h => Ah_irr h)
        · have w := hw x.1 (by omega) (by omega)
          rw [Ah_gt hw (by omega) (by omega)] at h1 ⊢
          rcases h1 with e | h1
          · rw [← e]
            exact .inr h2
          · exact .inr (ih _ _ _ (by omega) (by omega) (by omega) (by omega) h1 h2)
    · by_cases z0 : z.1 = N
      · by_cases y0 : y.1 = N
        · rw [Ah_lt hw (by omega) (by omega)] at h1 ⊢
          rw [show z.1 = y.1 by omega]
          exact h1
        · have w := hw z.1 (by omega) (by omega)
          rw [Ah_lt hw (by omega) (by omega)] at h2 ⊢
          rcases h2 with e | h2
          · rw [← e]
            exact .inr h1
          · exact .inr (ih _ _ _ (by omega) (by omega) (by omega) (by omega) h1 h2)
      · by_cases y0 : y.1 = N
        · have w := hw y.1 (by omega) (by omega)
          have l := hl y.1 (by omega) (by omega)
          rw [Ah_lt hw (by omega) (by omega)] at h1
          rw [Ah_gt hw (by omega) (by omega)] at h2
          have h3 : Ah b x (rt b y.1) := by
            rcases h1 with e | h1
            · rw [e]
              exact l
            · exact ih _ _ _ (by omega) (by omega) (by omega) (by omega) h1 l
          rcases h2 with e | h2
          · rw [e]
            exact h3
          · exact ih _ _ _ (by omega) (by omega) (by omega) (by omega) h3 h2
        · exact ih x y z (by omega) (by omega) (by omega) (by omega) h1 h2
theorem Ah_asy {b : Bs} (hw : Wf b) (hl : Lr b) {x y : Sg} (hx : x.1 < b.length) (hy : y.1 < b.length) (h : Ah b x y) : ¬ Ah b y x := fun h' => Ah_irr (Ah_tr hw hl b.length x y x hx hy hx (Nat.le_refl _) h h')
/-! ### births go on -/
theorem lf_app {b : Bs} {p : Sg × Sg} {c : Nat} (h : c < b.length) : lf (b ++ [p]) c = lf b c := by
  unfold lf
  rw [List.getD_eq_getElem?_getD, List.getD_eq_getElem?_getD, List.getElem?_append_left h]
theorem rt_app {b : Bs} {p : Sg × Sg} {c : Nat} (h : c < b.length) : rt (b ++ [p]) c = rt b c := by
  unfold rt
  rw [List.getD_eq_getElem?_getD, List.getD_eq_getElem?_getD, List.getElem?_append_left h]
theorem lf_new {b : Bs} {p : Sg × Sg} : lf (b ++ [p]) b.length = p.1 := by
  unfold lf
  rw [List.getD_eq_getElem?_getD]
  simp
theorem rt_new {b : Bs} {p : Sg × Sg} : rt (b ++ [p]) b.length = p.2 := by
  unfold rt
  rw [List.getD_eq_getElem?_getD]
  simp
theorem ah_app {b : Bs} {p : Sg × Sg} (hw : Wf b) : ∀ (n : Nat) (x y : Sg), x.1 < b.length → y.1 < b.length → ah (b ++ [p]) n x y = ah b n x y
  | 0, _, _, _, _ => rfl
  | n + 1, x, y, hx, hy => by
    unfold ah
    split
    · rfl
    · split
      · have := hw y.1 (by omega) hy
        rw [lf_app hy, ah_app hw n x (lf b y.1) hx (by omega)]
      · have := hw x.1 (by omega) hx
        rw [rt_app hx, ah_app hw n (rt b x.1) y (by omega) hy]
theorem Ah_app {b : Bs} {p : Sg × Sg} (hw : Wf b) {x y : Sg} (hx : x.1 < b.length) (hy : y.1 < b.length) : Ah (b ++ [p]) x y ↔ Ah b x y := by
  unfold Ah
  rw [ah_app hw _ _ _ hx hy]
theorem wf_app {b : Bs} {p : Sg × Sg} (hw : Wf b) (h1 : p.1.1 < b.length) (h2 : p.2.1 < b.length) : Wf (b ++ [p]) := by
  intro c hc hcl
  rw [List.length_append, List.length_singleton] at hcl
  by_cases e : c = b.length
  · subst e
    rw [lf_new, rt_new]
    exact ⟨h1, h2⟩
  · rw [lf_app (by omega), rt_app (by omega)]
    exact hw c hc (by omega)
theorem lr_app {b : Bs} {p : Sg × Sg} (hw : Wf b) (hl : Lr b) (h1 : p.1.1 < b.length) (h2 : p.2.1 < b.length) (h : Ah b p.1 p.2) : Lr (b ++ [p]) := by
  intro c hc hcl
  rw [List.length_append, List.length_singleton] at hcl
  by_cases e : c = b.length
  · subst e
    rw [lf_new, rt_new, Ah_app hw h1 h2]
    exact h
  · have := hw c hc (by omega)
    rw [lf_app (by omega), rt_app (by omega), Ah_app hw (by omega) (by omega)]
    exact hl c hc (by omega)

abbrev HD : Sg := (0, 0)
abbrev EN : Sg := (0, 1)
/-! ### worlds: who, left, right, text -/
abbrev Bt := Int × Sg × Sg × List Nat
abbrev Wd := List Bt
def bsOf (W : Wd) : Bs := W.map fun b => (b.2.1, b.2.2.1)
theorem bs_len (W : Wd) : (bsOf W).length = W.length := by simp [bsOf]
def txt (W : Wd) (c : Nat) : List Nat := (W.getD c (0, HD, EN, [])).2.2.2
def sz (W : Wd) (c : Nat) : Nat := if c = 0 then 2 else (txt W c).length
def Sn (W : Wd) (x : Sg) : Prop := x.1 < W.length ∧ x.2 < sz W x.1
abbrev Lf (W : Wd) (c : Nat) : Sg := lf (bsOf W) c
abbrev Rt (W : Wd) (c : Nat) : Sg := rt (bsOf W) c
abbrev Aw (W : Wd) (x y : Sg) : Prop := Ah (bsOf W) x y
structure WOk (W : Wd) : Prop where
  one : 1 ≤ W.length
  wf : Wf (bsOf W)
  lr : Lr (bsOf W)
  sn : ∀ c, 1 ≤ c → c < W.length → Sn W (Lf W c) ∧ Sn W (Rt W c)
  ne : ∀ c, 1 ≤ c → c < W.length → 1 ≤ sz W c
theorem Lf_at {W : Wd} {c : Nat} {b : Bt} (h : W[c]? = some b) : Lf W c = b.2.1 := by
  unfold Lf lf bsOf
  rw [List.getD_eq_getElem?_getD, List.getElem?_map, h]
  rfl
theorem Rt_at {W : Wd} {c : Nat} {b : Bt} (h : W[c]? = some b) : Rt W c = b.2.2.1 := by
  unfold Rt rt bsOf
  rw [List.getD_eq_getElem?_getD, List.getElem?_map, h]
  rfl
theorem txt_at {W : Wd} {c : Nat} {b : Bt} (h : W[c]? = some b) : txt W c = b.2.2.2 := by
  unfold txt
  rw [List.getD_eq_getElem?_getD, h]
  rfl
theorem hd_sn {W : Wd} (h : 1 ≤ W.length) : Sn W HD := ⟨h, by show 0 < 2; decide⟩
theorem en_sn {W : Wd} (h : 1 ≤ W.length) : Sn W EN := ⟨h, by show 1 < 2; decide⟩
theorem sz_app {W : Wd} {b : Bt} {c : Nat} (h : c < W.length) : sz (W ++ [b]) c = sz W c := by
  unfold sz txt
  rw [List.getD_eq_getElem?_getD, List.getD_eq_getElem?_getD, List.getElem?_append_left h]
theorem sz_new {W : Wd} {b : Bt} (h : 1 ≤ W.length) : sz (W ++ [b]) W.length = b.2.2.2.length := by
  unfold sz txt
  rw [if_neg (by omega), List.getD_eq_getElem?_getD]
  simp
theorem bs_app (W : Wd) (b : Bt) : bsOf (W ++ [b]) = bsOf W ++ [(b.2.1, b.2.2.1)] := by simp [bsOf]
theorem Sn.app {W : Wd} {b : Bt} {x : Sg} (h : Sn W x) : Sn (W ++ [b]) x := by
  refine ⟨by rw [List.length_append, List.length_singleton]; have := h.1; omega, ?_⟩
  rw [sz_app h.1]
  exact h.2
theorem Aw_app {W : Wd} (h : WOk W) {b : Bt} {x y : Sg} (hx : x.1 < W.length) (hy : y.1 < W.length) : Aw (W ++ [b]) x y ↔ Aw W x y := by
  unfold Aw
  rw [bs_app]
  exact Ah_app h.wf (by rw [bs_len]; exact hx) (by rw [bs_len]; exact hy)
theorem WOk.app {W : Wd} (h : WOk W) {b : Bt} (hl : Sn W b.2.1) (hr : Sn W b.2.2.1) (ha : Aw W b.2.1 b.2.2.1) (ht : 1 ≤ b.2.2.2.length) : WOk (W ++ [b]) where
  one := by rw [List.length_append]; have := h.one; omega
  wf := by
    rw [bs_app]
    exact wf_app h.wf (by rw [bs_len]; exact hl.1) (by rw [bs_len]; exact hr.1)
  lr := by
    rw [bs_app]
    exact lr_app h.wf h.lr (by rw [bs_len]; exact hl.1) (by rw [bs_len]; exact hr.1) ha
  sn := fun c h1 h2 => by
    rw [List.length_append, List.length_singleton] at h2
    unfold Lf Rt
    rw [bs_app]
    by_cases e : c = W.length
    · subst e
      have e1 := @lf_new (bsOf W) (b.2.1, b.2.2.1)
      have e2 := @rt_new (bsOf W) (b.2.1, b.2.2.1)
      rw [bs_len] at e1 e2
      rw [e1, e2]
      exact ⟨hl.app, hr.app⟩
    · have hc : c < W.length := by omega
      rw [lf_app (by rw [bs_len]; exact hc), rt_app (by rw [bs_len]; exact hc)]
      have := h.sn c h1 hc
      exact ⟨this.1.app, this.2.app⟩
  ne := fun c h1 h2 => by
    rw [List.length_append, List.length_singleton] at h2
    by_cases e : c = W.length
    · subst e
      rw [sz_new h.one]
      exact ht
    · rw [sz_app (by omega)]
      exact h.ne c h1 (by omega)
def W0 : Wd := [(0, HD, EN, [])]
theorem ok0 : WOk W0 where
  one := by decide
  wf := fun c h1 h2 => by have : c < 1 := h2; omega
  lr := fun c h1 h2 => by have : c < 1 := h2; omega
  sn := fun c h1 h2 => by have : c < 1 := h2; omega
  ne := fun c h1 h2 => by have : c < 1 := h2; omega
theorem sz_take {W : Wd} {k c : Nat} (h : c < k) : sz (W.take k) c = sz W c := by
  unfold sz txt
  rw [List.getD_eq_getElem?_getD, List.getD_eq_getElem?_getD, List.getElem?_take_of_lt h]
theorem WOk.take {W : Wd} (h : WOk W) : ∀ d k, W.length = k + d → 1 ≤ k → WOk (W.take k)
  | 0, k, e, _ => by
    rw [List.take_of_length_le (by omega)]
    exact h
  | d + 1, k, e, h1 => by
    have ih := WOk.take h d (k + 1) (by omega) (by omega)
    have hk : k < W.length := by omega
    have e1 : W.take (k + 1) = W.take k ++ [W[k]] := by rw [List.take_add_one, List.getElem?_eq_getElem hk]; rfl
    have lk : (W.take k).length = k := by rw [List.length_take]; omega
    have lb : (bsOf (W.take k)).length = k := by rw [bs_len, lk]
    rw [e1] at ih
    have hb : bsOf (W.take k ++ [W[k]]) = bsOf (W.take k) ++ [(W[k].2.1, W[k].2.2.1)] := bs_app _ _
    have wf := ih.wf
    have lr := ih.lr
    have sn := ih.sn
    have ne := ih.ne
    rw [hb] at wf lr
    have wf' : Wf (bsOf (W.take k)) := fun c c1 c2 => by
      have := wf c c1 (by rw [List.length_append, lb, List.length_singleton]; rw [lb] at c2; omega)
      rw [lf_app c2, rt_app c2] at this
      exact this
    refine ⟨by omega, wf', fun c c1 c2 => ?_, fun c c1 c2 => ?_, fun c c1 c2 => ?_⟩
    · have w := wf' c c1 c2
      have := lr c c1 (by rw [List.length_append, lb, List.length_singleton]; rw [lb] at c2; omega)
      rw [lf_app c2, rt_app c2, Ah_app wf' (by omega) (by omega)] at this
      exact this
    · have c2' : c < (bsOf (W.take k)).length := by rw [lb]; omega
      have w := wf' c c1 c2'
      have := sn c c1 (by rw [List.length_append, lk, List.length_singleton]; omega)
      unfold Lf Rt at this
      rw [hb, lf_app c2', rt_app c2'] at this
      obtain ⟨⟨_, q1⟩, ⟨_, q2⟩⟩ := this
      rw [sz_app (by omega)] at q1
      rw [sz_app (by omega)] at q2
      exact ⟨⟨by rw [lk]; rw [lb] at c2'; have := w.1; show (lf (bsOf (W.take k)) c).1 < k; omega, q1⟩, ⟨by rw [lk]; rw [lb] at c2'; have := w.2; show (rt (bsOf (W.take k)) c).1 < k; omega, q2⟩⟩
    · have := ne c c1 (by rw [List.length_append, lk, List.length_singleton]; omega)
      rw [sz_app c2] at this
      exact this
/-! ### all signs in a row -/
def offs (W : Wd) : Nat → Nat
  | 0 => 0
  | c + 1 => offs W c + sz W c
def chunk (c n : Nat) : List Sg := (List.range n).map fun i => (c, i)
def marksTo (W : Wd) : Nat → List Sg
  | 0 => []
  | c + 1 => marksTo W c ++ chunk c (sz W c)
abbrev marks (W : Wd) : List Sg := marksTo W W.length
abbrev ix (W : Wd) (x : Sg) : Nat := offs W x.1 + x.2
abbrev NN (W : Wd) : Nat := offs W W.length
theorem chunk_len (c n : Nat) : (chunk c n).length = n := by simp [chunk]
theorem chunk_get {c n i : Nat} (h : i < n) : (chunk c n)[i]? = some (c, i) := by
  unfold chunk
  rw [List.getElem?_map, List.getElem?_range h]
  rfl
theorem marksTo_len (W : Wd) : ∀ c, (marksTo W c).length = offs W c
  | 0 => rfl
  | c + 1 => by
    unfold marksTo offs
    rw [List.length_append, marksTo_len W c, chunk_len]
theorem marks_get {W : Wd} {c i : Nat} (hi : i < sz W c) : ∀ {k : Nat}, c < k → (marksTo W k)[offs W c + i]? = some (c, i)
  | 0, h => absurd h (Nat.not_lt_zero _)
  | k + 1, h => by
    unfold marksTo
    by_cases e : c = k
    · subst e
      rw [List.getElem?_append_right (by rw [marksTo_len]; omega), marksTo_len, Nat.add_sub_cancel_left, chunk_get hi]
    · have := marks_get hi (show c < k by omega)
      have hl := (List.getElem?_eq_some_iff.mp this).1
      rw [List.getElem?_append_left hl, this]
theorem marks_at {W : Wd} {x : Sg} {m : Nat} : ∀ {k : Nat}, (marksTo W k)[m]? = some x → x.1 < k ∧ x.2 < sz W x.1 ∧ m = ix W x
  | 0, h => by simp [marksTo] at h
  | k + 1, h => by
    unfold marksTo at h
    by_cases q : m < (marksTo W k).length
    · rw [List.getElem?_append_left q] at h
      have := marks_at h
      exact ⟨by omega, this.2⟩
    · rw [List.getElem?_append_right (by omega), marksTo_len] at h
      have hl := (List.getElem?_eq_some_iff.mp h).1
      rw [chunk_len] at hl
      rw [chunk_get hl] at h
      rw [marksTo_len] at q
      cases h
      exact ⟨by show k < k + 1; omega, hl, by show m = offs W k + (m - offs W k); omega⟩
theorem mk_get {W : Wd} {x : Sg} (h : Sn W x) : (marks W)[ix W x]? = some x := marks_get h.2 h.1
theorem mk_at {W : Wd} {x : Sg} {m : Nat} (h : (marks W)[m]? = some x) : Sn W x ∧ m = ix W x := ⟨⟨(marks_at h).1, (marks_at h).2.1⟩, (marks_at h).2.2⟩
theorem ix_lt {W : Wd} {x : Sg} (h : Sn W x) : ix W x < NN W := by
  have := (List.getElem?_eq_some_iff.mp (mk_get h)).1
  rw [marksTo_len] at this
  exact this
theorem ix_inj {W : Wd} {x y : Sg} (hx : Sn W x) (hy : Sn W y) (e : ix W x = ix W y) : x = y := by
  have h1 := mk_get hx
  rw [e, mk_get hy] at h1
  exact (Option.some.inj h1).symm
/-! ### the steps -/
def inner (c n : Nat) : List (Sg × Sg) := (List.range (n - 1)).map fun i => ((c, i), (c, i + 1))
def stepsTo (W : Wd) : Nat → List (Sg × Sg)
  | 0 => []
  | c + 1 => stepsTo W c ++ (if c = 0 then [(HD, EN)] else (Lf W c, (c, 0)) :: inner c (sz W c) ++ [((c, sz W c - 1), Rt W c)])
abbrev steps (W : Wd) : List (Sg × Sg) := stepsTo W W.length
theorem steps_mem {W : Wd} {x y : Sg} : ∀ {k : Nat}, (x, y) ∈ stepsTo W k ↔ ∃ c, c < k ∧ ((c = 0 ∧ x = HD ∧ y = EN) ∨ (c ≠ 0 ∧ ((x = Lf W c ∧ y = (c, 0)) ∨ (∃ i, i + 1 < sz W c ∧ x = (c, i) ∧ y = (c, i + 1)) ∨ (x = (c, sz W c - 1) ∧ y = Rt W c))))
  | 0 => by simp [stepsTo]
  | k + 1 => by
    unfold stepsTo
    rw [List.mem_append, steps_mem]
    constructor
    · rintro (⟨c, h1, h2⟩ | h)
      · exact ⟨c, by omega, h2⟩
      · refine ⟨k, by omega, ?_⟩
        split at h
        · rename_i e
          have := List.mem_singleton.mp h
          cases this
          exact .inl ⟨e, rfl, rfl⟩
        · rename_i e
          refine .inr ⟨e, ?_⟩
          rcases List.mem_append.mp h with h | h
          · rcases List.mem_cons.mp h with h | h
            · cases h
              exact .inl ⟨rfl, rfl⟩
            · obtain ⟨i, hi, h⟩ := List.mem_map.mp h
              cases h
              have := List.mem_range.mp hi
              exact .inr (.inl ⟨i, by omega, rfl, rfl⟩)
          · have := List.mem_singleton.mp h
            cases this
            exact .inr (.inr ⟨rfl, rfl⟩)
    · rintro ⟨c, h1, h2⟩
      by_cases e : c = k
      · subst e
        refine .inr ?_
        rcases h2 with ⟨e, rfl, rfl⟩ | ⟨e, h2⟩
        · rw [if_pos e]
          exact List.mem_singleton.mpr rfl
        · rw [if_neg e]
          rcases h2 with ⟨rfl, rfl⟩ | ⟨i, hi, rfl, rfl⟩ | ⟨rfl, rfl⟩
          · exact List.mem_append_left _ List.mem_cons_self
          · exact List.mem_append_left _ (List.mem_cons_of_mem _ (List.mem_map.mpr ⟨i, List.mem_range.mpr (by omega), rfl⟩))
          · exact List.mem_append_right _ (List.mem_singleton.mpr rfl)
      · exact .inl ⟨c, by omega, h2⟩
theorem steps_len {W : Wd} (h : ∀ c, 1 ≤ c → c < W.length → 1 ≤ sz W c) : ∀ k, 1 ≤ k → k ≤ W.length → offs W k ≤ (stepsTo W k).length + 1
  | 0, h1, _ => absurd h1 (by decide)
  | k + 1, _, h2 => by
    unfold stepsTo offs
    rw [List.length_append]
    by_cases e : k = 0
    · subst e
      rw [if_pos rfl]
      show 0 + 2 ≤ 0 + 1 + 1
      omega
    · have ih := steps_len h k (by omega) (by omega)
      have := h k (by omega) (by omega)
      rw [if_neg e, List.length_append, List.length_cons, List.length_singleton]
      unfold inner
      rw [List.length_map, List.length_range]
      omega
theorem filter_le {α : Type} {p q : α → Bool} : ∀ {l : List α}, (∀ z ∈ l, p z = true → q z = true) → (l.filter p).length ≤ (l.filter q).length
  | [], _ => Nat.le_refl _
  | z :: l, h => by
    have ih := filter_le (l := l) fun y hy => h y (List.mem_cons_of_mem _ hy)
    have h0 := h z List.mem_cons_self
    rw [List.filter_cons, List.filter_cons]
    cases e : p z with
    | true =>
      rw [if_pos rfl, if_pos (h0 e), List.length_cons, List.length_cons]
      omega
    | false =>
      rw [if_neg (by simp)]
      split
      · rw [List.length_cons]
        omega
      · exact ih
theorem filter_lt {α : Type} {p q : α → Bool} {x : α} : ∀ {l : List α}, (∀ z ∈ l, p z = true → q z = true) → x ∈ l → p x = false → q x = true → (l.filter p).length < (l.filter q).length
  | [], _, h, _, _ => by cases h
  | z :: l, h, hm, h1, h2 => by
    have ht := fun y hy => h y (List.mem_cons_of_mem z hy)
    rw [List.filter_cons, List.filter_cons]
    rcases List.mem_cons.mp hm with e | hm
    · rw [← e, if_neg (by rw [h1]; simp), if_pos h2, List.length_cons]
      have := filter_le ht
      omega
    · have ih := filter_lt ht hm h1 h2
      have h0 := h z List.mem_cons_self
      cases e : p z with
      | true =>
        rw [if_pos rfl, if_pos (h0 e), List.length_cons, List.length_cons]
        omega
      | false =>
        rw [if_neg (by simp)]
        split
        · rw [List.length_cons]
          omega
        · exact ih
def tb (T : List Nat) (j k : Nat) : Bool := (T.getD j 0).testBit k
def wide (T : List Nat) (a b : Nat) : Nat := T.getD a 0 ||| 2 ^ b ||| T.getD b 0
def rel (T : List Nat) (a b : Nat) : List Nat := T.set a (wide T a b)
theorem getD_set {T : List Nat} {a v j : Nat} (h : a < T.length) : (T.set a v).getD j 0 = if a = j then v else T.getD j 0 := by
  rw [List.getD_eq_getElem?_getD, List.getElem?_set, List.getD_eq_getElem?_getD]
  split
  · rename_i e
    subst e
    first
      | rfl
      | (rw [if_pos h]; rfl)
  · rfl
theorem wide_bit {T : List Nat} {a b m : Nat} : (wide T a b).testBit m = (tb T a m || decide (b = m) || tb T b m) := by
  unfold wide tb
  rw [Nat.testBit_or, Nat.testBit_or, Nat.testBit_two_pow]
theorem rel_bit {T : List Nat} {a b j m : Nat} (h : a < T.length) : tb (rel T a b) j m = if a = j then (tb T a m || decide (b = m) || tb T b m) else tb T j m := by
  unfold rel
  have e : tb (T.set a (wide T a b)) j m = ((T.set a (wide T a b)).getD j 0).testBit m := rfl
  rw [e, getD_set h]
  split
  · exact wide_bit
  · rfl
/-- a way of n steps -/
inductive Rch (W : Wd) : Nat → Sg → Sg → Prop where
  | one {x y : Sg} : (x, y) ∈ steps W → Rch W 1 x y
  | cons {n : Nat} {x y z : Sg} : (x, y) ∈ steps W → Rch W n y z → Rch W (n + 1) x z
theorem Rch.trans {W : Wd} {n m : Nat} {x y z : Sg} (h : Rch W n x y) (h2 : Rch W m y z) : ∃ l, Rch W l x z := by
  induction h with
  | one h => exact ⟨_, .cons h h2⟩
  | cons h _ ih =>
    obtain ⟨l, hl⟩ := ih h2
    exact ⟨_, .cons h hl⟩
section
variable {W : Wd} (ok : WOk W)
include ok
theorem Aw_tr {x y z : Sg} (hx : x.1 < W.length) (hy : y.1 < W.length) (hz : z.1 < W.length) : Aw W x y → Aw W y z → Aw W x z :=
  Ah_tr ok.wf ok.lr W.length x y z hx hy hz (by rw [bs_len]; exact Nat.le_refl _)
theorem step_ok {x y : Sg} (h : (x, y) ∈ steps W) : Sn W x ∧ Sn W y ∧ Aw W x y := by
  obtain ⟨c, hc, h⟩ := steps_mem.mp h
  rcases h with ⟨_, rfl, rfl⟩ | ⟨e, h⟩
  · exact ⟨hd_sn ok.one, en_sn ok.one, (Ah_eq (x := HD) (y := EN) rfl).mpr (by decide)⟩
  · have c1 : 1 ≤ c := by omega
    have sn := ok.sn c c1 hc
    have ne := ok.ne c c1 hc
    have w := ok.wf c c1 (by rw [bs_len]; exact hc)
    rcases h with ⟨rfl, rfl⟩ | ⟨i, hi, rfl, rfl⟩ | ⟨rfl, rfl⟩
    · refine ⟨sn.1, ⟨hc, by show 0 < sz W c; omega⟩, (Ah_lt ok.wf (by rw [bs_len]; exact hc) w.1).mpr (.inl rfl)⟩
    · exact ⟨⟨hc, by show i < sz W c; omega⟩, ⟨hc, hi⟩, (Ah_eq (x := (c, i)) (y := (c, i + 1)) rfl).mpr (by show i < i + 1; omega)⟩
    · exact ⟨⟨hc, by show sz W c - 1 < sz W c; omega⟩, sn.2, (Ah_gt ok.wf (by rw [bs_len]; exact hc) w.2).mpr (.inl rfl)⟩
theorem rch_ok {n : Nat} {x y : Sg} (h : Rch W n x y) : Sn W x ∧ Sn W y ∧ Aw W x y := by
  induction h with
  | one h => exact step_ok ok h
  | cons h _ ih =>
    have h1 := step_ok ok h
    exact ⟨h1.1, ih.2.1, Aw_tr ok h1.1.1 h1.2.1.1 ih.2.1.1 h1.2.2 ih.2.2⟩
theorem in_chunk {c i : Nat} (c1 : c ≠ 0) (hc : c < W.length) : ∀ d, 1 ≤ d → i + d < sz W c → ∃ n, Rch W n (c, i) (c, i + d)
  | 0, h, _ => absurd h (by decide)
  | d + 1, _, h2 => by
    have e : (((c, i + d) : Sg), ((c, i + (d + 1)) : Sg)) ∈ steps W := steps_mem.mpr ⟨c, hc, .inr ⟨c1, .inr (.inl ⟨i + d, (by omega : i + d + 1 < sz W c), rfl, rfl⟩)⟩⟩
    by_cases d0 : d = 0
    · subst d0
      exact ⟨_, .one e⟩
    · obtain ⟨n, hn⟩ := in_chunk (i := i) c1 hc d (by omega) (by omega)
      exact hn.trans (.one e)
theorem ah_rch : ∀ (n : Nat) (x y : Sg), x.1 + y.1 < n → Sn W x → Sn W y → Aw W x y → ∃ m, Rch W m x y
  | 0, _, _, h, _, _, _ => absurd h (Nat.not_lt_zero _)
  | n + 1, x, y, hn, hx, hy, h => by
    by_cases e : x.1 = y.1
    · have h1 := (Ah_eq e).mp h
      by_cases c0 : x.1 = 0
      · have hx2 := hx.2
        have hy2 := hy.2
        rw [← e] at hy2
        unfold sz at hx2 hy2
        rw [if_pos c0] at hx2 hy2
        have ex : x = HD := Prod.ext c0 (by show x.2 = 0; omega)
        have ey : y = EN := Prod.ext (by show y.1 = 0; omega) (by show y.2 = 1; omega)
        rw [ex, ey]
        exact ⟨_, .one (steps_mem.mpr ⟨0, ok.one, .inl ⟨rfl, rfl, rfl⟩⟩)⟩
      · obtain ⟨m, hm⟩ := in_chunk ok (i := x.2) c0 hx.1 (y.2 - x.2) (by omega) (by rw [e]; have := hy.2; omega)
        rw [show x.2 + (y.2 - x.2) = y.2 by omega] at hm
        exact ⟨m, by rw [show y = (x.1, y.2) from Prod.ext e.symm rfl]; exact hm⟩
    · rcases Nat.lt_or_ge x.1 y.1 with q | q
      · have c1 : 1 ≤ y.1 := by omega
        have sn := ok.sn y.1 c1 hy.1
        have w : (Lf W y.1).1 < y.1 ∧ (Rt W y.1).1 < y.1 := ok.wf y.1 c1 (by rw [bs_len]; exact hy.1)
        have s1 : Rch W 1 (Lf W y.1) (y.1, 0) := .one (steps_mem.mpr ⟨y.1, hy.1, .inr ⟨by omega, .inl ⟨rfl, rfl⟩⟩⟩)
        have s2 : ∃ l, Rch W l (Lf W y.1) y := by
          by_cases y0 : y.2 = 0
          · exact ⟨_, by rw [show y = (y.1, 0) from Prod.ext rfl y0]; exact s1⟩
          · obtain ⟨l, hl⟩ := in_chunk ok (c := y.1) (i := 0) (by omega) hy.1 y.2 (by omega) (by rw [Nat.zero_add]; exact hy.2)
            rw [Nat.zero_add] at hl
            exact s1.trans hl
        rcases (Ah_lt ok.wf (by rw [bs_len]; exact hy.1) q).mp h with e2 | h2
        · rw [e2]
          exact s2
        · obtain ⟨m, hm⟩ := ah_rch n x (Lf W y.1) (by have := w.1; omega) hx sn.1 h2
          obtain ⟨l, hl⟩ := s2
          exact hm.trans hl
      · have q : y.1 < x.1 := by omega
        have c1 : 1 ≤ x.1 := by omega
        have sn := ok.sn x.1 c1 hx.1
        have w : (Lf W x.1).1 < x.1 ∧ (Rt W x.1).1 < x.1 := ok.wf x.1 c1 (by rw [bs_len]; exact hx.1)
        have s1 : Rch W 1 (x.1, sz W x.1 - 1) (Rt W x.1) := .one (steps_mem.mpr ⟨x.1, hx.1, .inr ⟨by omega, .inr (.inr ⟨rfl, rfl⟩)⟩⟩)
        have s2 : ∃ l, Rch W l x (Rt W x.1) := by
          by_cases y0 : x.2 = sz W x.1 - 1
          · exact ⟨_, by conv => { arg 3; rw [show x = (x.1, sz W x.1 - 1) from Prod.ext rfl y0] }; exact s1⟩
          · obtain ⟨l, hl⟩ := in_chunk ok (c := x.1) (i := x.2) (by omega) hx.1 (sz W x.1 - 1 - x.2) (by have := hx.2; omega) (by have := hx.2; omega)
            rw [show x.2 + (sz W x.1 - 1 - x.2) = sz W x.1 - 1 by have := hx.2; omega] at hl
            exact hl.trans s1
        rcases (Ah_gt ok.wf (by rw [bs_len]; exact hx.1) q).mp h with e2 | h2
        · rw [e2]
          exact s2
        · obtain ⟨m, hm⟩ := ah_rch n (Rt W x.1) y (by have := w.2; omega) sn.2 hy h2
          obtain ⟨l, hl⟩ := s2
          exact hl.trans hm
/-! ### a rank -/
def rk (W : Wd) (x : Sg) : Nat := ((marks W).filter fun y => ah (bsOf W) (y.1 + x.1 + 1) y x).length
theorem rk_lt {x y : Sg} (hx : Sn W x) (hy : Sn W y) (h : Aw W x y) : rk W x < rk W y := by
  refine filter_lt (x := x) (fun z hz hzx => ?_) (List.mem_of_getElem? (mk_get hx)) ?_ h
  · obtain ⟨m, hm⟩ := List.mem_iff_getElem?.mp hz
    have hz := (mk_at hm).1
    exact Aw_tr ok hz.1 hx.1 hy.1 hzx h
  · rw [Bool.eq_false_iff]
    intro z
    exact Ah_irr (b := bsOf W) (x := x) z
theorem rk_le (x : Sg) : rk W x ≤ NN W := by
  have := List.length_filter_le (fun y => ah (bsOf W) (y.1 + x.1 + 1) y x) (marks W)
  rw [marksTo_len] at this
  exact this
theorem rch_len {n : Nat} {x y : Sg} (h : Rch W n x y) : rk W x + n ≤ rk W y := by
  induction h with
  | one h =>
    have := step_ok ok h
    have := rk_lt ok this.1 this.2.1 this.2.2
    omega
  | cons h _ ih =>
    have := step_ok ok h
    have := rk_lt ok this.1 this.2.1 this.2.2
    omega
theorem rch_le {n : Nat} {x y : Sg} (h : Rch W n x y) : n ≤ NN W := by
  have h1 := rch_len ok h
  have h2 := rk_le ok y
  omega
theorem steps_many : NN W ≤ (steps W).length + 1 := steps_len ok.ne W.length ok.one (Nat.le_refl _)
/-! ### the table -/
structure Snd (W : Wd) (T : List Nat) : Prop where
  len : T.length = NN W
  ok : ∀ x m, Sn W x → tb T (ix W x) m = true → ∃ y, Sn W y ∧ m = ix W y ∧ Aw W x y
def Lev (W : Wd) (t : Nat) (T : List Nat) : Prop := ∀ n x y, n ≤ t → Rch W n x y → tb T (ix W x) (ix W y) = true
/-- within a turn: T0 at its begin, the steps es done -/
structure Pas (W : Wd) (T0 : List Nat) (es : List (Sg × Sg)) (T : List Nat) : Prop where
  snd : Snd W T
  grow : ∀ j m, tb T0 j m = true → tb T j m = true
  done : ∀ x y, (x, y) ∈ es → tb T (ix W x) (ix W y) = true ∧ ∀ m, tb T0 (ix W y) m = true → tb T (ix W x) m = true
theorem Pas.start {T : List Nat} (h : Snd W T) : Pas W T [] T := ⟨h, fun _ _ h => h, fun _ _ h => by cases h⟩
theorem Pas.step {T0 T : List Nat} {es : List (Sg × Sg)} {x y : Sg} (h : Pas W T0 es T) (hs : (x, y) ∈ steps W) : Pas W T0 (es ++ [(x, y)]) (rel T (ix W x) (ix W y)) := by
  obtain ⟨sx, sy, axy⟩ := step_ok ok hs
  have hl : ix W x < T.length := by rw [h.snd.len]; exact ix_lt sx
  have gr : ∀ j m, tb T j m = true → tb (rel T (ix W x) (ix W y)) j m = true := fun j m hj => by
    rw [rel_bit hl]
    split
    · rename_i e
      rw [e, hj]
      rfl
    · exact hj
  refine ⟨⟨by unfold rel; rw [List.length_set]; exact h.snd.len, fun z m hz hb => ?_⟩, fun j m hj => gr j m (h.grow j m hj), fun a b hab => ?_⟩
  · rw [rel_bit hl] at hb
    split at hb
    · rename_i e
      have e := ix_inj sx hz e
      subst e
      rw [Bool.or_eq_true, Bool.or_eq_true, decide_eq_true_eq] at hb
      rcases hb with (hb | hb) | hb
      · exact h.snd.ok x m hz hb
      · exact ⟨y, sy, hb.symm, axy⟩
      · obtain ⟨u, hu, e, hyu⟩ := h.snd.ok y m sy hb
        exact ⟨u, hu, e, Aw_tr ok sx.1 sy.1 hu.1 axy hyu⟩
    · exact h.snd.ok z m hz hb
  · rcases List.mem_append.mp hab with hab | hab
    · have := h.done a b hab
      exact ⟨gr _ _ this.1, fun m hm => gr _ _ (this.2 m hm)⟩
    · cases List.mem_singleton.mp hab
      refine ⟨?_, fun m hm => ?_⟩
      · rw [rel_bit hl, if_pos rfl]
        simp
      · rw [rel_bit hl, if_pos rfl, h.grow _ _ hm]
        simp
theorem Pas.lev {T0 T : List Nat} {t : Nat} (h : Pas W T0 (steps W) T) (hl : Lev W t T0) : Lev W (t + 1) T := by
  intro n x y hn hr
  cases hr with
  | one hs => exact (h.done x y hs).1
  | cons hs hr => exact (h.done _ _ hs).2 _ (hl _ _ _ (by omega) hr)
/-- nothing changed in a whole turn -/
theorem still_lev {T : List Nat} (hl : T.length = NN W) (h : ∀ x y, (x, y) ∈ steps W → wide T (ix W x) (ix W y) = T.getD (ix W x) 0) : ∀ t, Lev W t T := by
  intro t n x y _ hr
  induction hr with
  | one hs =>
    have e := h _ _ hs
    unfold tb
    rw [← e, wide_bit]
    simp
  | cons hs _ ih =>
    have e := h _ _ hs
    unfold tb
    rw [← e, wide_bit, ih (by rename_i z; omega)]
    simp
/-- the closed table -/
structure TbOk (W : Wd) (T : List Nat) : Prop where
  len : T.length = NN W
  iff : ∀ x y, Sn W x → Sn W y → (tb T (ix W x) (ix W y) = true ↔ Aw W x y)
  rng : ∀ x m, Sn W x → tb T (ix W x) m = true → m < NN W
theorem tb_ok {T : List Nat} (h : Snd W T) (hl : Lev W (NN W) T) : TbOk W T := by
  refine ⟨h.len, fun x y hx hy => ⟨fun hb => ?_, fun ha => ?_⟩, fun x m hx hb => ?_⟩
  · obtain ⟨z, hz, e, h1⟩ := h.ok x _ hx hb
    rw [ix_inj hy hz e]
    exact h1
  · obtain ⟨n, hn⟩ := ah_rch ok (x.1 + y.1 + 1) x y (Nat.lt_succ_self _) hx hy ha
    exact hl n x y (rch_le ok hn) hn
  · obtain ⟨z, hz, e, _⟩ := h.ok x m hx hb
    rw [e]
    exact ix_lt hz
theorem snd0 : Snd W (List.replicate (NN W) 0) := by
  refine ⟨List.length_replicate, fun x m hx hb => ?_⟩
  unfold tb at hb
  rw [List.getD_eq_getElem?_getD, List.getElem?_replicate] at hb
  split at hb <;> simp at hb
theorem lev0 (T : List Nat) : Lev W 0 T := by
  intro n x y hn hr
  cases hr <;> omega
end
/-! ### at or ahead, hops -/
def Ao (b : Bs) (x y : Sg) : Prop := x = y ∨ Ah b x y
def hop (b : Bs) (x y : Sg) : Sg × Sg := if x.1 < y.1 then (x, lf b y.1) else (rt b x.1, y)
theorem ao_same {b : Bs} {x y : Sg} (e : x.1 = y.1) : Ao b x y ↔ x.2 ≤ y.2 := by
  unfold Ao
  rw [Ah_eq e]
  constructor
  · rintro (rfl | h) <;> omega
  · intro h
    rcases Nat.lt_or_ge x.2 y.2 with q | q
    · exact .inr q
    · exact .inl (Prod.ext e (by omega))
theorem hop_lt {b : Bs} (hw : Wf b) {x y : Sg} (hx : x.1 < b.length) (hy : y.1 < b.length) (e : x.1 ≠ y.1) : (hop b x y).1.1 < b.length ∧ (hop b x y).2.1 < b.length ∧ (hop b x y).1.1 + (hop b x y).2.1 < x.1 + y.1 ∧ max (hop b x y).1.1 (hop b x y).2.1 < max x.1 y.1 := by
  unfold hop
  by_cases q : x.1 < y.1
  · rw [if_pos q]
    have := hw y.1 (by omega) hy
    show x.1 < _ ∧ (lf b y.1).1 < _ ∧ x.1 + (lf b y.1).1 < _ ∧ max x.1 (lf b y.1).1 < _
    omega
  · rw [if_neg q]
    have := hw x.1 (by omega) hx
    show (rt b x.1).1 < _ ∧ y.1 < _ ∧ (rt b x.1).1 + y.1 < _ ∧ max (rt b x.1).1 y.1 < _
    omega
theorem ao_hop {b : Bs} (hw : Wf b) {x y : Sg} (hx : x.1 < b.length) (hy : y.1 < b.length) (e : x.1 ≠ y.1) : Ao b x y ↔ Ao b (hop b x y).1 (hop b x y).2 := by
  have ne : x ≠ y := fun z => e (by rw [z])
  unfold hop Ao
  by_cases q : x.1 < y.1
  · rw [if_pos q, Ah_lt hw hy q]
    exact ⟨fun h => h.elim (fun z => absurd z ne) id, .inr⟩
  · rw [if_neg q, Ah_gt hw hx (by omega)]
    refine ⟨fun h => h.elim (fun z => absurd z ne) fun h => h.elim (fun z => .inl z.symm) .inr, fun h => .inr (h.elim (fun z => .inl z.symm) .inr)⟩
theorem ah_ao {b : Bs} {x y : Sg} : Ah b x y ↔ x ≠ y ∧ Ao b x y := by
  constructor
  · intro h
    exact ⟨fun e => by rw [e] at h; exact Ah_irr h, .inr h⟩
  · rintro ⟨h1, h2 | h2⟩
    · exact absurd h2 h1
    · exact h2
def hops (b : Bs) : Nat → Sg → Sg → List (Sg × Sg)
  | 0, x, y => [(x, y)]
  | n + 1, x, y => (x, y) :: (if x.1 = y.1 then [] else hops b n (hop b x y).1 (hop b x y).2)
theorem hops_fuel {b : Bs} (hw : Wf b) : ∀ (n m : Nat) (x y : Sg), x.1 < b.length → y.1 < b.length → x.1 + y.1 ≤ n → x.1 + y.1 ≤ m → hops b n x y = hops b m x y
  | 0, 0, _, _, _, _, _, _ => rfl
  | 0, m + 1, x, y, _, _, h, _ => by
    unfold hops
    rw [if_pos (by omega)]
  | n + 1, 0, x, y, _, _, _, h => by
    unfold hops
    rw [if_pos (by omega)]
  | n + 1, m + 1, x, y, hx, hy, h1, h2 => by
    unfold hops
    split
    · rfl
    · rename_i e
      have := hop_lt hw hx hy e
      rw [hops_fuel hw n m _ _ this.1 this.2.1 (by omega) (by omega)]
def hopsT (b : Bs) (x y : Sg) : List (Sg × Sg) := hops b (x.1 + y.1) x y
theorem hopsT_same {b : Bs} {x y : Sg} (e : x.1 = y.1) : hopsT b x y = [(x, y)] := by
  unfold hopsT
  cases x.1 + y.1 with
  | zero => rfl
  | succ n =>
    unfold hops
    rw [if_pos e]
theorem hopsT_step {b : Bs} (hw : Wf b) {x y : Sg} (hx : x.1 < b.length) (hy : y.1 < b.length) (e : x.1 ≠ y.1) : hopsT b x y = (x, y) :: hopsT b (hop b x y).1 (hop b x y).2 := by
  have h := hop_lt hw hx hy e
  have e1 : hopsT b x y = hops b (x.1 + y.1 - 1 + 1) x y := by
    unfold hopsT
    rw [Nat.sub_add_cancel (by omega)]
  rw [e1]
  conv => lhs; unfold hops
  rw [if_neg e]
  unfold hopsT
  rw [hops_fuel hw _ _ _ _ h.1 h.2.1 (by omega) (Nat.le_refl _)]
theorem hopsT_len {b : Bs} (hw : Wf b) : ∀ (n : Nat) (x y : Sg), x.1 + y.1 ≤ n → x.1 < b.length → y.1 < b.length → (hopsT b x y).length ≤ max x.1 y.1 + 1
  | n, x, y, hn, hx, hy => by
    by_cases e : x.1 = y.1
    · rw [hopsT_same e]
      simp
    · have h := hop_lt hw hx hy e
      rw [hopsT_step hw hx hy e, List.length_cons]
      cases n with
      | zero => omega
      | succ n =>
        have := hopsT_len hw n _ _ (by omega) h.1 h.2.1
        omega
theorem least {α : Type} (f : α → Nat) : ∀ (l : List α), l ≠ [] → ∃ y ∈ l, ∀ z ∈ l, f y ≤ f z
  | [], h => absurd rfl h
  | [a], _ => ⟨a, by simp, fun z hz => by rw [List.mem_singleton.mp hz]; exact Nat.le_refl _⟩
  | a :: b :: l, _ => by
    obtain ⟨y, h1, h2⟩ := least f (b :: l) (by simp)
    by_cases q : f y ≤ f a
    · refine ⟨y, List.mem_cons_of_mem _ h1, fun z hz => ?_⟩
      rcases List.mem_cons.mp hz with rfl | hz
      · exact q
      · exact h2 z hz
    · refine ⟨a, List.mem_cons_self, fun z hz => ?_⟩
      rcases List.mem_cons.mp hz with rfl | hz
      · exact Nat.le_refl _
      · have := h2 z hz
        omega
/-! ### one long row -/
structure LRow (W : Wd) (row : List Sg) : Prop where
  ok : WOk W
  two : 2 ≤ row.length
  sn : ∀ x ∈ row, Sn W x
  srt : row.Pairwise (Aw W)
theorem LRow.start : LRow W0 [HD, EN] where
  ok := ok0
  two := by decide
  sn := fun x hx => by
    rcases List.mem_cons.mp hx with rfl | hx
    · exact hd_sn (by decide)
    · rw [List.mem_singleton.mp hx]
      exact en_sn (by decide)
  srt := List.pairwise_cons.mpr ⟨fun x hx => by
    rw [List.mem_singleton.mp hx]
    exact (Ah_eq (x := HD) (y := EN) rfl).mpr (by decide), List.pairwise_singleton _ _⟩
theorem LRow.put {W : Wd} {row : List Sg} (h : LRow W row) {a : Nat} {lo hi : Sg} (h1 : row[a]? = some lo) (h2 : row[a + 1]? = some hi) (who : Int) (ch : Nat) : LRow (W ++ [(who, lo, hi, [ch])]) (row.take (a + 1) ++ [(W.length, 0)] ++ row.drop (a + 1)) := by
  have slo := h.sn lo (List.mem_of_getElem? h1)
  have shi := h.sn hi (List.mem_of_getElem? h2)
  obtain ⟨l1, e1⟩ := List.getElem?_eq_some_iff.mp h1
  obtain ⟨l2, e2⟩ := List.getElem?_eq_some_iff.mp h2
  have srt := List.pairwise_iff_getElem.mp h.srt
  have alh : Aw W lo hi := by rw [← e1, ← e2]; exact srt a (a + 1) l1 l2 (by omega)
  have ok' : WOk (W ++ [(who, lo, hi, [ch])]) := h.ok.app slo shi alh (by show 1 ≤ 1; decide)
  have nl : (W ++ [(who, lo, hi, [ch])]).length = W.length + 1 := by simp
  have ef : Lf (W ++ [(who, lo, hi, [ch])]) W.length = lo := by
    have := Lf_at (W := W ++ [(who, lo, hi, [ch])]) (c := W.length) (b := (who, lo, hi, [ch])) (by simp)
    exact this
  have er : Rt (W ++ [(who, lo, hi, [ch])]) W.length = hi := by
    have := Rt_at (W := W ++ [(who, lo, hi, [ch])]) (c := W.length) (b := (who, lo, hi, [ch])) (by simp)
    exact this
  have sn' : ∀ x ∈ row, Sn (W ++ [(who, lo, hi, [ch])]) x := fun x hx => (h.sn x hx).app
  have ap : ∀ x ∈ row, ∀ y ∈ row, (Aw (W ++ [(who, lo, hi, [ch])]) x y ↔ Aw W x y) := fun x hx y hy => Aw_app h.ok (h.sn x hx).1 (h.sn y hy).1
  have q1 : ∀ x ∈ row.take (a + 1), Aw (W ++ [(who, lo, hi, [ch])]) x (W.length, 0) := by
    intro x hx
    have hxr := List.mem_of_mem_take hx
    have hxl := (h.sn x hxr).1
    refine (Ah_lt ok'.wf (by rw [bs_len, nl]; show W.length < _; omega) hxl).mpr ?_
    show x = Lf _ W.length ∨ Ah _ x (Lf _ W.length)
    rw [ef]
    obtain ⟨j, hj⟩ := List.mem_iff_getElem?.mp hx
    have hjl := (List.getElem?_eq_some_iff.mp hj).1
    rw [List.length_take] at hjl
    rw [List.getElem?_take_of_lt (by omega)] at hj
    obtain ⟨l3, e3⟩ := List.getElem?_eq_some_iff.mp hj
    by_cases ja : j = a
    · subst ja
      rw [h1] at hj
      exact .inl (Option.some.inj hj).symm
    · refine .inr ((ap x hxr lo (List.mem_of_getElem? h1)).mpr ?_)
      rw [← e1, ← e3]
      exact srt j a l3 l1 (by omega)
  have q2 : ∀ y ∈ row.drop (a + 1), Aw (W ++ [(who, lo, hi, [ch])]) (W.length, 0) y := by
    intro y hy
    have hyr := List.mem_of_mem_drop hy
    have hyl := (h.sn y hyr).1
    refine (Ah_gt ok'.wf (by rw [bs_len, nl]; show W.length < _; omega) hyl).mpr ?_
    show y = Rt _ W.length ∨ Ah _ (Rt _ W.length) y
    rw [er]
    obtain ⟨j, hj⟩ := List.mem_iff_getElem?.mp hy
    rw [List.getElem?_drop] at hj
    obtain ⟨l3, e3⟩ := List.getElem?_eq_some_iff.mp hj
    by_cases j0 : j = 0
    · subst j0
      rw [Nat.add_zero, h2] at hj
      exact .inl (Option.some.inj hj).symm
    · refine .inr ((ap hi (List.mem_of_getElem? h2) y hyr).mpr ?_)
      rw [← e2, ← e3]
      exact srt (a + 1) (a + 1 + j) l2 l3 (by omega)
  have srt' : row.Pairwise (Aw (W ++ [(who, lo, hi, [ch])])) := h.srt.imp_of_mem fun hx hy r => (ap _ hx _ hy).mpr r
  have cut : row = row.take (a + 1) ++ row.drop (a + 1) := (List.take_append_drop _ _).symm
  have srt2 := srt'
  rw [cut] at srt2
  obtain ⟨p1, p2, p3⟩ := List.pairwise_append.mp srt2
  refine ⟨ok', ?_, fun x hx => ?_, ?_⟩
  · rw [List.length_append, List.length_append, List.length_take, List.length_drop, List.length_singleton]
    omega
  · rcases List.mem_append.mp hx with hx | hx
    · rcases List.mem_append.mp hx with hx | hx
      · exact sn' x (List.mem_of_mem_take hx)
      · rw [List.mem_singleton.mp hx]
        refine ⟨by rw [nl]; show W.length < _; omega, ?_⟩
        show 0 < sz _ W.length
        rw [sz_new h.ok.one]
        show 0 < 1
        decide
    · exact sn' x (List.mem_of_mem_drop hx)
  · refine List.pairwise_append.mpr ⟨List.pairwise_append.mpr ⟨p1, List.pairwise_singleton _ _, fun x hx y hy => ?_⟩, p2, fun x hx y hy => ?_⟩
    · rw [List.mem_singleton.mp hy]
      exact q1 x hx
    · rcases List.mem_append.mp hx with hx | hx
      · exact p3 x hx y hy
      · rw [List.mem_singleton.mp hx]
        exact q2 y hy
end Bo

namespace Bo
/-! ### meets and joins -/
abbrev Aq (W : Wd) (x y : Sg) : Prop := Ao (bsOf W) x y
theorem aq_refl {W : Wd} (x : Sg) : Aq W x x := .inl rfl
structure IsMeet (W : Wd) (x y m : Sg) : Prop where
  sn : Sn W m
  le1 : Aq W m x
  le2 : Aq W m y
  gr : ∀ z, Sn W z → Aq W z x → Aq W z y → Aq W z m
structure IsJoin (W : Wd) (x y m : Sg) : Prop where
  sn : Sn W m
  le1 : Aq W x m
  le2 : Aq W y m
  gr : ∀ z, Sn W z → Aq W x z → Aq W y z → Aq W m z
section
variable {W : Wd} (ok : WOk W)
include ok
theorem aq_tr {x y z : Sg} (hx : x.1 < W.length) (hy : y.1 < W.length) (hz : z.1 < W.length) (h1 : Aq W x y) (h2 : Aq W y z) : Aq W x z := by
  rcases h1 with rfl | h1
  · exact h2
  · rcases h2 with rfl | h2
    · exact .inr h1
    · exact .inr (Aw_tr ok hx hy hz h1 h2)
theorem aq_anti {x y : Sg} (hx : x.1 < W.length) (hy : y.1 < W.length) (h1 : Aq W x y) (h2 : Aq W y x) : x = y := by
  rcases h1 with rfl | h1
  · rfl
  · rcases h2 with e | h2
    · exact e.symm
    · exact absurd (Aw_tr ok hx hy hx h1 h2) Ah_irr
theorem lf_lt {c : Nat} (c1 : 1 ≤ c) (hc : c < W.length) : (Lf W c).1 < c ∧ (Rt W c).1 < c := ok.wf c c1 (by rw [bs_len]; exact hc)
theorem aw_up {x y : Sg} (hy : y.1 < W.length) (h : x.1 < y.1) : Aw W x y ↔ Aq W x (Lf W y.1) := by
  rw [Aw, Ah_lt ok.wf (by rw [bs_len]; exact hy) h]
  exact Iff.rfl
theorem aw_dn {x y : Sg} (hx : x.1 < W.length) (h : y.1 < x.1) : Aw W x y ↔ Aq W (Rt W x.1) y := by
  rw [Aw, Ah_gt ok.wf (by rw [bs_len]; exact hx) h]
  exact ⟨fun h => h.elim (fun e => .inl e.symm) .inr, fun h => h.elim (fun e => .inl e.symm) .inr⟩
theorem aq_up {x y : Sg} (hy : y.1 < W.length) (h : x.1 < y.1) : Aq W x y ↔ Aq W x (Lf W y.1) := by
  rw [← aw_up ok hy h]
  exact ⟨fun z => z.elim (fun e => by rw [e] at h; omega) id, .inr⟩
theorem aq_dn {x y : Sg} (hx : x.1 < W.length) (h : y.1 < x.1) : Aq W x y ↔ Aq W (Rt W x.1) y := by
  rw [← aw_dn ok hx h]
  exact ⟨fun z => z.elim (fun e => by rw [e] at h; omega) id, .inr⟩
theorem lf_self {x : Sg} (hx : x.1 < W.length) (c1 : 1 ≤ x.1) : Aw W (Lf W x.1) x := (aw_up ok hx (lf_lt ok c1 hx).1).mpr (aq_refl _)
theorem rt_self {x : Sg} (hx : x.1 < W.length) (c1 : 1 ≤ x.1) : Aw W x (Rt W x.1) := (aw_dn ok hx (lf_lt ok c1 hx).2).mpr (aq_refl _)
theorem glb_step {x y : Sg} (hx : Sn W x) (hy : Sn W y) (h : y.1 < x.1) (hn : ¬ Aq W (Rt W x.1) y) : ∀ (n : Nat) (z : Sg), z.1 < n → Sn W z → Aq W z x → Aq W z y → Aq W z (Lf W x.1)
  | 0, _, hz, _, _, _ => absurd hz (Nat.not_lt_zero _)
  | n + 1, z, hz, sz, h1, h2 => by
    rcases Nat.lt_trichotomy z.1 x.1 with q | q | q
    · exact (aq_up ok hx.1 q).mp h1
    · rw [aq_dn ok sz.1 (by omega), q] at h2
      exact absurd h2 hn
    · have w := lf_lt ok (show 1 ≤ z.1 by omega) sz.1
      have sr := (ok.sn z.1 (by omega) sz.1).2
      rw [aq_dn ok sz.1 q] at h1
      rw [aq_dn ok sz.1 (by omega)] at h2
      have ih := glb_step hx hy h hn n (Rt W z.1) (by omega) sr h1 h2
      have sl := (ok.sn x.1 (by omega) hx.1).1
      exact aq_tr ok sz.1 sr.1 sl.1 (.inr (rt_self ok sz.1 (by omega))) ih
theorem lub_step {x y : Sg} (hx : Sn W x) (hy : Sn W y) (h : y.1 < x.1) (hn : ¬ Aq W y (Lf W x.1)) : ∀ (n : Nat) (z : Sg), z.1 < n → Sn W z → Aq W x z → Aq W y z → Aq W (Rt W x.1) z
  | 0, _, hz, _, _, _ => absurd hz (Nat.not_lt_zero _)
  | n + 1, z, hz, sz, h1, h2 => by
    rcases Nat.lt_trichotomy z.1 x.1 with q | q | q
    · exact (aq_dn ok hx.1 q).mp h1
    · rw [aq_up ok sz.1 (by omega), q] at h2
      exact absurd h2 hn
    · have w := lf_lt ok (show 1 ≤ z.1 by omega) sz.1
      have sr := (ok.sn z.1 (by omega) sz.1).1
      rw [aq_up ok sz.1 q] at h1
      rw [aq_up ok sz.1 (by omega)] at h2
      have ih := lub_step hx hy h hn n (Lf W z.1) (by omega) sr h1 h2
      have sl := (ok.sn x.1 (by omega) hx.1).2
      exact aq_tr ok sl.1 sr.1 sz.1 ih (.inr (lf_self ok sz.1 (by omega)))
theorem meet_here {x y : Sg} (hx : Sn W x) (hy : Sn W y) (h : y.1 < x.1) (hr : Aq W (Rt W x.1) y) : IsMeet W x y x := ⟨hx, aq_refl _, (aq_dn ok hx.1 h).mpr hr, fun _ _ h1 _ => h1⟩
theorem meet_on {x y m : Sg} (hx : Sn W x) (hy : Sn W y) (h : y.1 < x.1) (hn : ¬ Aq W (Rt W x.1) y) (hm : IsMeet W (Lf W x.1) y m) : IsMeet W x y m := by
  have sl := (ok.sn x.1 (by omega) hx.1).1
  exact ⟨hm.sn, aq_tr ok hm.sn.1 sl.1 hx.1 hm.le1 (.inr (lf_self ok hx.1 (by omega))), hm.le2, fun z sz h1 h2 => hm.gr z sz (glb_step ok hx hy h hn _ z (Nat.lt_succ_self _) sz h1 h2) h2⟩
theorem join_here {x y : Sg} (hx : Sn W x) (hy : Sn W y) (h : y.1 < x.1) (hl : Aq W y (Lf W x.1)) : IsJoin W x y x := ⟨hx, aq_refl _, (aq_up ok hx.1 h).mpr hl, fun _ _ h1 _ => h1⟩
theorem join_on {x y m : Sg} (hx : Sn W x) (hy : Sn W y) (h : y.1 < x.1) (hn : ¬ Aq W y (Lf W x.1)) (hm : IsJoin W (Rt W x.1) y m) : IsJoin W x y m := by
  have sl := (ok.sn x.1 (by omega) hx.1).2
  exact ⟨hm.sn, aq_tr ok hx.1 sl.1 hm.sn.1 (.inr (rt_self ok hx.1 (by omega))) hm.le1, hm.le2, fun z sz h1 h2 => hm.gr z sz (lub_step ok hx hy h hn _ z (Nat.lt_succ_self _) sz h1 h2) h2⟩
end
theorem IsMeet.comm {W : Wd} {x y m : Sg} (h : IsMeet W x y m) : IsMeet W y x m := ⟨h.sn, h.le2, h.le1, fun z sz h1 h2 => h.gr z sz h2 h1⟩
theorem IsJoin.comm {W : Wd} {x y m : Sg} (h : IsJoin W x y m) : IsJoin W y x m := ⟨h.sn, h.le2, h.le1, fun z sz h1 h2 => h.gr z sz h2 h1⟩
theorem meet_same {W : Wd} {x y : Sg} (hx : Sn W x) (hy : Sn W y) (e : x.1 = y.1) : IsMeet W x y (if x.2 < y.2 then x else y) := by
  split
  · exact ⟨hx, aq_refl _, (ao_same e).mpr (by omega), fun z _ h _ => h⟩
  · exact ⟨hy, (ao_same e.symm).mpr (by omega), aq_refl _, fun z _ _ h => h⟩
theorem join_same {W : Wd} {x y : Sg} (hx : Sn W x) (hy : Sn W y) (e : x.1 = y.1) : IsJoin W x y (if x.2 < y.2 then y else x) := by
  split
  · exact ⟨hy, (ao_same e).mpr (by omega), aq_refl _, fun z _ _ h => h⟩
  · exact ⟨hx, aq_refl _, (ao_same e.symm).mpr (by omega), fun z _ h _ => h⟩
theorem IsMeet.uniq {W : Wd} (ok : WOk W) {x y m n : Sg} (h : IsMeet W x y m) (h2 : IsMeet W x y n) : m = n := aq_anti ok h.sn.1 h2.sn.1 (h2.gr m h.sn h.le1 h.le2) (h.gr n h2.sn h2.le1 h2.le2)
theorem IsJoin.uniq {W : Wd} (ok : WOk W) {x y m n : Sg} (h : IsJoin W x y m) (h2 : IsJoin W x y n) : m = n := aq_anti ok h.sn.1 h2.sn.1 (h.gr n h2.sn h2.le1 h2.le2) (h2.gr m h.sn h.le1 h.le2)
theorem meet_ex {W : Wd} (ok : WOk W) : ∀ (n : Nat) (x y : Sg), x.1 + y.1 < n → Sn W x → Sn W y → ∃ m, IsMeet W x y m
  | 0, _, _, h, _, _ => absurd h (Nat.not_lt_zero _)
  | n + 1, x, y, h, hx, hy => by
    rcases Nat.lt_trichotomy x.1 y.1 with q | q | q
    · by_cases g : Aq W (Rt W y.1) x
      · exact ⟨_, (meet_here ok hy hx q g).comm⟩
      · have w := lf_lt ok (show 1 ≤ y.1 by omega) hy.1
        obtain ⟨m, hm⟩ := meet_ex ok n (Lf W y.1) x (by omega) (ok.sn y.1 (by omega) hy.1).1 hx
        exact ⟨m, (meet_on ok hy hx q g hm).comm⟩
    · exact ⟨_, meet_same hx hy q⟩
    · by_cases g : Aq W (Rt W x.1) y
      · exact ⟨_, meet_here ok hx hy q g⟩
      · have w := lf_lt ok (show 1 ≤ x.1 by omega) hx.1
        obtain ⟨m, hm⟩ := meet_ex ok n (Lf W x.1) y (by omega) (ok.sn x.1 (by omega) hx.1).1 hy
        exact ⟨m, meet_on ok hx hy q g hm⟩
theorem join_ex {W : Wd} (ok : WOk W) : ∀ (n : Nat) (x y : Sg), x.1 + y.1 < n → Sn W x → Sn W y → ∃ m, IsJoin W x y m
  | 0, _, _, h, _, _ => absurd h (Nat.not_lt_zero _)
  | n + 1, x, y, h, hx, hy => by
    rcases Nat.lt_trichotomy x.1 y.1 with q | q | q
    · by_cases g : Aq W x (Lf W y.1)
      · exact ⟨_, (join_here ok hy hx q g).comm⟩
      · have w := lf_lt ok (show 1 ≤ y.1 by omega) hy.1
        obtain ⟨m, hm⟩ := join_ex ok n (Rt W y.1) x (by omega) (ok.sn y.1 (by omega) hy.1).2 hx
        exact ⟨m, (join_on ok hy hx q g hm).comm⟩
    · exact ⟨_, join_same hx hy q⟩
    · by_cases g : Aq W y (Lf W x.1)
      · exact ⟨_, join_here ok hx hy q g⟩
      · have w := lf_lt ok (show 1 ≤ x.1 by omega) hx.1
        obtain ⟨m, hm⟩ := join_ex ok n (Rt W x.1) y (by omega) (ok.sn x.1 (by omega) hx.1).2 hy
        exact ⟨m, join_on ok hx hy q g hm⟩
/-! ### a chunk more -/
theorem Aq_app {W : Wd} (h : WOk W) {b : Bt} {x y : Sg} (hx : x.1 < W.length) (hy : y.1 < W.length) : Aq (W ++ [b]) x y ↔ Aq W x y := by
  unfold Aq Ao
  rw [show Ah (bsOf (W ++ [b])) x y ↔ Ah (bsOf W) x y from Aw_app h hx hy]
theorem sn_app {W : Wd} {b : Bt} {z : Sg} (h : Sn (W ++ [b]) z) : Sn W z ∨ z.1 = W.length := by
  have h1 := h.1
  rw [List.length_append, List.length_singleton] at h1
  by_cases e : z.1 = W.length
  · exact .inr e
  · refine .inl ⟨by omega, ?_⟩
    have := h.2
    rw [sz_app (by omega)] at this
    exact this
theorem new_ends {W : Wd} {b : Bt} : Lf (W ++ [b]) W.length = b.2.1 ∧ Rt (W ++ [b]) W.length = b.2.2.1 := ⟨Lf_at (by simp), Rt_at (by simp)⟩
theorem IsMeet.app {W : Wd} (ok : WOk W) {b : Bt} (ok' : WOk (W ++ [b])) (hr : Sn W b.2.2.1) {x y m : Sg} (hx : Sn W x) (hy : Sn W y) (h : IsMeet W x y m) : IsMeet (W ++ [b]) x y m := by
  refine ⟨h.sn.app, (Aq_app ok h.sn.1 hx.1).mpr h.le1, (Aq_app ok h.sn.1 hy.1).mpr h.le2, fun z sz h1 h2 => ?_⟩
  rcases sn_app sz with s | e
  · exact (Aq_app ok s.1 h.sn.1).mpr (h.gr z s ((Aq_app ok s.1 hx.1).mp h1) ((Aq_app ok s.1 hy.1).mp h2))
  · have hxl := hx.1
    have hyl := hy.1
    have hml := h.sn.1
    rw [aq_dn ok' sz.1 (by omega), e, new_ends.2, Aq_app ok hr.1 (by omega)] at h1 h2
    rw [aq_dn ok' sz.1 (by omega), e, new_ends.2, Aq_app ok hr.1 (by omega)]
    exact h.gr _ hr h1 h2
theorem IsJoin.app {W : Wd} (ok : WOk W) {b : Bt} (ok' : WOk (W ++ [b])) (hr : Sn W b.2.1) {x y m : Sg} (hx : Sn W x) (hy : Sn W y) (h : IsJoin W x y m) : IsJoin (W ++ [b]) x y m := by
  refine ⟨h.sn.app, (Aq_app ok hx.1 h.sn.1).mpr h.le1, (Aq_app ok hy.1 h.sn.1).mpr h.le2, fun z sz h1 h2 => ?_⟩
  rcases sn_app sz with s | e
  · exact (Aq_app ok h.sn.1 s.1).mpr (h.gr z s ((Aq_app ok hx.1 s.1).mp h1) ((Aq_app ok hy.1 s.1).mp h2))
  · have hxl := hx.1
    have hyl := hy.1
    have hml := h.sn.1
    rw [aq_up ok' sz.1 (by omega), e, new_ends.1, Aq_app ok (by omega) hr.1] at h1 h2
    rw [aq_up ok' sz.1 (by omega), e, new_ends.1, Aq_app ok (by omega) hr.1]
    exact h.gr _ hr h1 h2
/-! ### the last of all, on bits -/
def dnB (M : List Nat) (a : Nat) : Nat := M.getD a 0 ||| 2 ^ a
def comB (M : List Nat) (a b : Nat) : Nat := dnB M a &&& dnB M b
def lastL (M : List Nat) (n a b : Nat) : List Nat := (List.range n).filter fun k => (comB M a b).testBit k && decide (comB M a b &&& dnB M k = comB M a b)
theorem dnB_bit {M : List Nat} {a k : Nat} : (dnB M a).testBit k = (tb M a k || decide (a = k)) := by
  unfold dnB tb
  rw [Nat.testBit_or, Nat.testBit_two_pow]
theorem range_one {p : Nat → Bool} {m : Nat} : ∀ {n : Nat}, m < n → (∀ k, k < n → (p k = true ↔ k = m)) → (List.range n).filter p = [m]
  | 0, h, _ => absurd h (Nat.not_lt_zero _)
  | n + 1, h, hp => by
    rw [List.range_succ, List.filter_append]
    by_cases e : m = n
    · subst e
      have e1 : (List.range m).filter p = [] := by
        rw [List.filter_eq_nil_iff]
        intro k hk hpk
        have hk := List.mem_range.mp hk
        have := (hp k (by omega)).mp hpk
        omega
      rw [e1, List.filter_cons, if_pos ((hp m (by omega)).mpr rfl)]
      rfl
    · rw [range_one (m := m) (by omega) fun k hk => hp k (by omega), List.filter_cons, if_neg (fun z => by have := (hp n (by omega)).mp z; omega)]
      rfl
theorem and_eq {a b : Nat} : a &&& b = a ↔ ∀ k, a.testBit k = true → b.testBit k = true := by
  constructor
  · intro h k hk
    rw [← h, Nat.testBit_and, Bool.and_eq_true] at hk
    exact hk.2
  · intro h
    apply Nat.eq_of_testBit_eq
    intro k
    rw [Nat.testBit_and]
    cases q : a.testBit k with
    | true => rw [h k q]; rfl
    | false => rfl
theorem last_meet {W : Wd} (ok : WOk W) {M : List Nat} (h : ∀ x y, Sn W x → Sn W y → (tb M (ix W x) (ix W y) = true ↔ Aw W y x)) (hr : ∀ x m, Sn W x → tb M (ix W x) m = true → m < NN W) {x y m : Sg} (hx : Sn W x) (hy : Sn W y) (hm : IsMeet W x y m) : lastL M (NN W) (ix W x) (ix W y) = [ix W m] := by
  have dn : ∀ u v, Sn W u → Sn W v → ((dnB M (ix W u)).testBit (ix W v) = true ↔ Aq W v u) := fun u v hu hv => by
    rw [dnB_bit, Bool.or_eq_true, h u v hu hv, decide_eq_true_eq]
    exact ⟨fun z => z.elim .inr fun e => .inl (ix_inj hu hv e).symm, fun z => z.elim (fun e => .inr (by rw [e])) .inl⟩
  have rg : ∀ u k, Sn W u → (dnB M (ix W u)).testBit k = true → k < NN W := fun u k hu hk => by
    rw [dnB_bit, Bool.or_eq_true, decide_eq_true_eq] at hk
    rcases hk with hk | hk
    · exact hr u k hu hk
    · rw [← hk]
      exact ix_lt hu
  have cm : ∀ v, Sn W v → ((comB M (ix W x) (ix W y)).testBit (ix W v) = true ↔ Aq W v x ∧ Aq W v y) := fun v hv => by
    unfold comB
    rw [Nat.testBit_and, Bool.and_eq_true, dn x v hx hv, dn y v hy hv]
  have mex : ∀ a, a < NN W → ∃ u, Sn W u ∧ a = ix W u := fun a ha => by
    have hl : a < (marks W).length := by rw [marksTo_len]; exact ha
    obtain ⟨h1, h2⟩ := mk_at (List.getElem?_eq_getElem hl)
    exact ⟨_, h1, h2⟩
  unfold lastL
  refine range_one (ix_lt hm.sn) fun k hk => ?_
  obtain ⟨u, hu, rfl⟩ := mex k hk
  rw [Bool.and_eq_true, decide_eq_true_eq, cm u hu, and_eq]
  constructor
  · rintro ⟨⟨h1, h2⟩, h3⟩
    have h4 := h3 (ix W m) ((cm m hm.sn).mpr ⟨hm.le1, hm.le2⟩)
    rw [dn u m hu hm.sn] at h4
    rw [aq_anti ok hu.1 hm.sn.1 (hm.gr u hu h1 h2) h4]
  · intro e
    rw [ix_inj hu hm.sn e]
    refine ⟨⟨hm.le1, hm.le2⟩, fun k hk => ?_⟩
    have hk' := hk
    unfold comB at hk'
    rw [Nat.testBit_and, Bool.and_eq_true] at hk'
    obtain ⟨v, hv, rfl⟩ := mex k (rg x k hx hk'.1)
    rw [dn m v hm.sn hv]
    obtain ⟨h1, h2⟩ := (cm v hv).mp hk
    exact hm.gr v hv h1 h2
theorem last_join {W : Wd} (ok : WOk W) {M : List Nat} (h : ∀ x y, Sn W x → Sn W y → (tb M (ix W x) (ix W y) = true ↔ Aw W x y)) (hr : ∀ x m, Sn W x → tb M (ix W x) m = true → m < NN W) {x y m : Sg} (hx : Sn W x) (hy : Sn W y) (hm : IsJoin W x y m) : lastL M (NN W) (ix W x) (ix W y) = [ix W m] := by
  have dn : ∀ u v, Sn W u → Sn W v → ((dnB M (ix W u)).testBit (ix W v) = true ↔ Aq W u v) := fun u v hu hv => by
    rw [dnB_bit, Bool.or_eq_true, h u v hu hv, decide_eq_true_eq]
    exact ⟨fun z => z.elim .inr fun e => .inl (ix_inj hu hv e), fun z => z.elim (fun e => .inr (by rw [e])) .inl⟩
  have rg : ∀ u k, Sn W u → (dnB M (ix W u)).testBit k = true → k < NN W := fun u k hu hk => by
    rw [dnB_bit, Bool.or_eq_true, decide_eq_true_eq] at hk
    rcases hk with hk | hk
    · exact hr u k hu hk
    · rw [← hk]
      exact ix_lt hu
  have cm : ∀ v, Sn W v → ((comB M (ix W x) (ix W y)).testBit (ix W v) = true ↔ Aq W x v ∧ Aq W y v) := fun v hv => by
    unfold comB
    rw [Nat.testBit_and, Bool.and_eq_true, dn x v hx hv, dn y v hy hv]
  have mex : ∀ a, a < NN W → ∃ u, Sn W u ∧ a = ix W u := fun a ha => by
    have hl : a < (marks W).length := by rw [marksTo_len]; exact ha
    obtain ⟨h1, h2⟩ := mk_at (List.getElem?_eq_getElem hl)
    exact ⟨_, h1, h2⟩
  unfold lastL
  refine range_one (ix_lt hm.sn) fun k hk => ?_
  obtain ⟨u, hu, rfl⟩ := mex k hk
  rw [Bool.and_eq_true, decide_eq_true_eq, cm u hu, and_eq]
  constructor
  · rintro ⟨⟨h1, h2⟩, h3⟩
    have h4 := h3 (ix W m) ((cm m hm.sn).mpr ⟨hm.le1, hm.le2⟩)
    rw [dn u m hu hm.sn] at h4
    rw [aq_anti ok hu.1 hm.sn.1 h4 (hm.gr u hu h1 h2)]
  · intro e
    rw [ix_inj hu hm.sn e]
    refine ⟨⟨hm.le1, hm.le2⟩, fun k hk => ?_⟩
    have hk' := hk
    unfold comB at hk'
    rw [Nat.testBit_and, Bool.and_eq_true] at hk'
    obtain ⟨v, hv, rfl⟩ := mex k (rg x k hx hk'.1)
    rw [dn m v hm.sn hv]
    obtain ⟨h1, h2⟩ := (cm v hv).mp hk
    exact hm.gr v hv h1 h2
end Bo

namespace Bo
/-! ### walks of two signs, papers of chains -/
abbrev Pr := Sg × Sg
def ahB (W : Wd) (x y : Sg) : Bool := ah (bsOf W) (x.1 + y.1 + 1) x y
theorem ahB_iff {W : Wd} {x y : Sg} : ahB W x y = true ↔ Aw W x y := Iff.rfl
abbrev hp (W : Wd) (x y : Sg) : Sg × Sg := hop (bsOf W) x y
abbrev hpT (W : Wd) (x y : Sg) : List (Sg × Sg) := hopsT (bsOf W) x y
def InP (W : Wd) (p : Pr) : Prop := p.1.1 < W.length ∧ p.2.1 < W.length
def SnP (W : Wd) (p : Pr) : Prop := Sn W p.1 ∧ Sn W p.2
def exch (W : Wd) (p : Pr) : List Pr := (if 1 ≤ p.2.1 then [(p.1, Lf W p.2.1)] else []) ++ (if 1 ≤ p.1.1 then [(Rt W p.1.1, p.2)] else [])
def stepsF (W : Wd) : List Pr → Bool
  | [] => true
  | [_] => true
  | p :: q :: r => decide (q ∈ exch W p) && stepsF W (q :: r)
def endF (p : Pr) (n : Nat) : Bool := decide (p.1.1 = p.2.1 ∧ (p.1.2 < p.2.2 ∨ (1 < n ∧ p.1.2 = p.2.2)))
def lastP : Pr → List Pr → Pr
  | p, [] => p
  | _, q :: r => lastP q r
def entF (W : Wd) (x y : Sg) : List Pr → Bool
  | [] => false
  | p :: r => decide (p = (x, y)) && (stepsF W (p :: r) && endF (lastP p r) (r.length + 1))
def nb (row : List Sg) : List Pr := row.zip row.tail
def chP (W : Wd) (row : List Sg) : List (List Pr) := (nb row).map fun p => hpT W p.1 p.2
def chained (W : Wd) (row : List Sg) : Bool := (nb row).all fun p => ahB W p.1 p.2
def fitsB (W : Wd) (row : List Sg) (paper : List (List Pr)) : Bool := decide (paper.length = row.length - 1) && ((nb row).zip paper).all fun q => entF W q.1.1 q.1.2 q.2
theorem nb_len (row : List Sg) : (nb row).length = row.length - 1 := by
  unfold nb
  rw [List.length_zip, List.length_tail]
  omega
theorem lastP_get : ∀ (p : Pr) (r : List Pr), (p :: r)[r.length]? = some (lastP p r)
  | p, [] => rfl
  | p, q :: r => by
    show (q :: r)[r.length]? = _
    exact lastP_get q r
section
variable {W : Wd} (ok : WOk W)
include ok
theorem exch_in {p q : Pr} (hp : InP W p) (h : q ∈ exch W p) : InP W q := by
  unfold exch at h
  rcases List.mem_append.mp h with h | h
  · split at h
    · rename_i c
      rw [List.mem_singleton.mp h]
      have := lf_lt ok c hp.2
      exact ⟨hp.1, by show (Lf W p.2.1).1 < W.length; have := hp.2; omega⟩
    · cases h
  · split at h
    · rename_i c
      rw [List.mem_singleton.mp h]
      have := lf_lt ok c hp.1
      exact ⟨by show (Rt W p.1.1).1 < W.length; have := hp.1; omega, hp.2⟩
    · cases h
theorem exch_sn {p q : Pr} (hp : SnP W p) (h : q ∈ exch W p) : SnP W q := by
  unfold exch at h
  rcases List.mem_append.mp h with h | h
  · split at h
    · rename_i c
      rw [List.mem_singleton.mp h]
      exact ⟨hp.1, (ok.sn _ c hp.2.1).1⟩
    · cases h
  · split at h
    · rename_i c
      rw [List.mem_singleton.mp h]
      exact ⟨(ok.sn _ c hp.1.1).2, hp.2⟩
    · cases h
theorem exch_le {p q : Pr} (hp : InP W p) (h : q ∈ exch W p) (hq : Aq W q.1 q.2) : Aw W p.1 p.2 := by
  have hi := exch_in ok hp h
  unfold exch at h
  rcases List.mem_append.mp h with h | h
  · split at h
    · rename_i c
      rw [List.mem_singleton.mp h] at hq hi
      have s := lf_self ok hp.2 c
      rcases hq with e | hq
      · have e : p.1 = Lf W p.2.1 := e
        rw [e]
        exact s
      · exact Aw_tr ok hp.1 hi.2 hp.2 hq s
    · cases h
  · split at h
    · rename_i c
      rw [List.mem_singleton.mp h] at hq hi
      have s := rt_self ok hp.1 c
      rcases hq with e | hq
      · have e : Rt W p.1.1 = p.2 := e
        rw [← e]
        exact s
      · exact Aw_tr ok hp.1 hi.1 hp.2 s hq
    · cases h
theorem walk_le : ∀ (r : List Pr) (p : Pr), InP W p → stepsF W (p :: r) = true → (lastP p r).1.1 = (lastP p r).2.1 → (lastP p r).1.2 ≤ (lastP p r).2.2 → Aq W p.1 p.2
  | [], p, hp, _, h1, h2 => by
    have h1 : p.1.1 = p.2.1 := h1
    have h2 : p.1.2 ≤ p.2.2 := h2
    rcases Nat.lt_or_ge p.1.2 p.2.2 with h | h
    · exact .inr ((Ah_eq h1).mpr h)
    · exact .inl (Prod.ext h1 (by omega))
  | q :: r, p, hp, hs, h1, h2 => by
    unfold stepsF at hs
    rw [Bool.and_eq_true, decide_eq_true_eq] at hs
    exact .inr (exch_le ok hp hs.1 (walk_le r q (exch_in ok hp hs.1) hs.2 h1 h2))
theorem ent_sound {x y : Sg} (hx : x.1 < W.length) (hy : y.1 < W.length) {e : List Pr} (h : entF W x y e = true) : Aw W x y := by
  cases e with
  | nil => cases h
  | cons p r =>
    unfold entF at h
    rw [Bool.and_eq_true, Bool.and_eq_true, decide_eq_true_eq] at h
    obtain ⟨e, h1, h2⟩ := h
    unfold endF at h2
    rw [decide_eq_true_eq] at h2
    have hp : InP W p := by rw [e]; exact ⟨hx, hy⟩
    cases r with
    | nil =>
      have h3 : p.1.1 = p.2.1 := h2.1
      have h4 : p.1.2 < p.2.2 := by
        rcases h2.2 with z | z
        · exact z
        · exact absurd z.1 (by decide)
      rw [e] at h3 h4
      exact (Ah_eq h3).mpr h4
    | cons q r =>
      unfold stepsF at h1
      rw [Bool.and_eq_true, decide_eq_true_eq] at h1
      have := exch_le ok hp h1.1 (walk_le ok r q (exch_in ok hp h1.1) h1.2 h2.1 (by rcases h2.2 with z | z; exact Nat.le_of_lt z; exact Nat.le_of_eq z.2))
      rw [e] at this
      exact this
theorem hop_exch {x y : Sg} (e : x.1 ≠ y.1) : hp W x y ∈ exch W (x, y) := by
  unfold hp hop exch
  refine List.mem_append.mpr ?_
  by_cases q : x.1 < y.1
  · rw [if_pos q]
    left
    rw [if_pos (show 1 ≤ (x, y).2.1 by show 1 ≤ y.1; omega)]
    exact List.mem_singleton.mpr rfl
  · rw [if_neg q]
    right
    rw [if_pos (show 1 ≤ (x, y).1.1 by show 1 ≤ x.1; omega)]
    exact List.mem_singleton.mpr rfl
theorem hops_walk : ∀ (n : Nat) (x y : Sg), x.1 + y.1 < n → x.1 < W.length → y.1 < W.length → ∃ r, hpT W x y = (x, y) :: r ∧ stepsF W (hpT W x y) = true ∧ (lastP (x, y) r).1.1 = (lastP (x, y) r).2.1 ∧ ((lastP (x, y) r).1.2 ≤ (lastP (x, y) r).2.2 ↔ Aq W x y) ∧ (x.1 = y.1 → r = []) ∧ (x.1 ≠ y.1 → 1 ≤ r.length)
  | 0, _, _, h, _, _ => absurd h (Nat.not_lt_zero _)
  | n + 1, x, y, h, hx, hy => by
    by_cases e : x.1 = y.1
    · refine ⟨[], hopsT_same e, by rw [show hpT W x y = [(x, y)] from hopsT_same e]; rfl, e, ?_, fun _ => rfl, fun z => absurd e z⟩
      show x.2 ≤ y.2 ↔ _
      refine ⟨fun z => ?_, fun z => ?_⟩
      · rcases Nat.lt_or_ge x.2 y.2 with q | q
        · exact .inr ((Ah_eq e).mpr q)
        · exact .inl (Prod.ext e (by omega))
      · rcases z with z | z
        · rw [z]
          exact Nat.le_refl _
        · exact Nat.le_of_lt ((Ah_eq e).mp z)
    · have hs : hpT W x y = (x, y) :: hpT W (hp W x y).1 (hp W x y).2 := hopsT_step ok.wf (by rw [bs_len]; exact hx) (by rw [bs_len]; exact hy) e
      have ex := hop_exch ok e
      have hin := exch_in ok (p := (x, y)) ⟨hx, hy⟩ ex
      have lt : (hp W x y).1.1 + (hp W x y).2.1 < x.1 + y.1 := by
        unfold hp hop
        split
        · have := lf_lt ok (show 1 ≤ y.1 by omega) hy
          show x.1 + (lf (bsOf W) y.1).1 < _
          have : (lf (bsOf W) y.1).1 < y.1 := this.1
          omega
        · have := lf_lt ok (show 1 ≤ x.1 by omega) hx
          show (rt (bsOf W) x.1).1 + y.1 < _
          have : (rt (bsOf W) x.1).1 < x.1 := this.2
          omega
      obtain ⟨r, h1, h2, h3, h4, _⟩ := hops_walk n (hp W x y).1 (hp W x y).2 (by omega) hin.1 hin.2
      refine ⟨((hp W x y).1, (hp W x y).2) :: r, by rw [hs, h1], ?_, h3, ?_, fun z => absurd z e, fun _ => by rw [List.length_cons]; omega⟩
      · rw [hs, h1]
        rw [h1] at h2
        unfold stepsF
        rw [h2, Bool.and_true, decide_eq_true_eq]
        exact ex
      · refine h4.trans ?_
        unfold hp hop
        by_cases q : x.1 < y.1
        · rw [if_pos q]
          exact (aq_up ok (x := x) (y := y) hy q).symm
        · rw [if_neg q]
          exact (aq_dn ok (x := x) (y := y) hx (by omega)).symm
theorem ent_hops {x y : Sg} (hx : x.1 < W.length) (hy : y.1 < W.length) : entF W x y (hpT W x y) = ahB W x y := by
  obtain ⟨r, h1, h2, h3, h4, h5, h6⟩ := hops_walk ok _ x y (Nat.lt_succ_self _) hx hy
  rw [Bool.eq_iff_iff, ahB_iff, h1]
  rw [h1] at h2
  show (decide ((x, y) = (x, y)) && (stepsF W ((x, y) :: r) && endF (lastP (x, y) r) (r.length + 1))) = true ↔ _
  rw [decide_eq_true rfl, Bool.true_and, h2, Bool.true_and]
  unfold endF
  rw [decide_eq_true_eq]
  by_cases e : x.1 = y.1
  · rw [h5 e]
    show (x.1 = y.1 ∧ (x.2 < y.2 ∨ 1 < 1 ∧ x.2 = y.2)) ↔ _
    refine ⟨fun z => (Ah_eq e).mpr (z.2.resolve_right fun q => absurd q.1 (by decide)), fun z => ⟨e, .inl ((Ah_eq e).mp z)⟩⟩
  · have l := h6 e
    have ne : x ≠ y := fun z => e (by rw [z])
    refine ⟨fun z => ?_, fun z => ⟨h3, ?_⟩⟩
    · exact (h4.mp (by rcases z.2 with q | q; exact Nat.le_of_lt q; exact Nat.le_of_eq q.2)).resolve_left ne
    · rcases Nat.lt_or_eq_of_le (h4.mpr (.inr z)) with q | q
      · exact .inl q
      · exact .inr ⟨by omega, q⟩
theorem nb_in {row : List Sg} (h : ∀ x ∈ row, x.1 < W.length) : ∀ p ∈ nb row, InP W p := fun p hp => by
  have := List.of_mem_zip (show (p.1, p.2) ∈ row.zip row.tail from hp)
  exact ⟨h _ this.1, h _ (List.mem_of_mem_tail this.2)⟩
theorem fits_made {row : List Sg} (h : ∀ x ∈ row, x.1 < W.length) : fitsB W row (chP W row) = chained W row := by
  unfold fitsB chP chained
  rw [List.length_map, nb_len, decide_eq_true rfl, Bool.true_and]
  have key : ∀ l : List Pr, (∀ p ∈ l, InP W p) → ((l.zip (l.map fun p => hpT W p.1 p.2)).all fun q => entF W q.1.1 q.1.2 q.2) = l.all fun p => ahB W p.1 p.2 := by
    intro l
    induction l with
    | nil => intro _; rfl
    | cons p l ih =>
      intro hl
      rw [List.map_cons, List.zip_cons_cons, List.all_cons, List.all_cons, ih fun q hq => hl q (List.mem_cons_of_mem _ hq)]
      have := hl p (List.mem_cons_self ..)
      rw [ent_hops ok this.1 this.2]
  exact key _ (nb_in ok h)
theorem fits_sound {row : List Sg} (h : ∀ x ∈ row, x.1 < W.length) {paper : List (List Pr)} (hf : fitsB W row paper = true) : chained W row = true := by
  unfold fitsB at hf
  unfold chained
  rw [Bool.and_eq_true, decide_eq_true_eq] at hf
  have key : ∀ (l : List Pr) (ps : List (List Pr)), ps.length = l.length → (∀ p ∈ l, InP W p) → ((l.zip ps).all fun q => entF W q.1.1 q.1.2 q.2) = true → (l.all fun p => ahB W p.1 p.2) = true := by
    intro l
    induction l with
    | nil => intro _ _ _ _; rfl
    | cons p l ih =>
      intro ps hlen hl ha
      cases ps with
      | nil => cases hlen
      | cons e ps =>
        rw [List.zip_cons_cons, List.all_cons, Bool.and_eq_true] at ha
        rw [List.all_cons, Bool.and_eq_true]
        have := hl p (List.mem_cons_self ..)
        exact ⟨ent_sound ok this.1 this.2 ha.1, ih ps (by simpa using hlen) (fun q hq => hl q (List.mem_cons_of_mem _ hq)) ha.2⟩
  exact key _ _ (by rw [nb_len]; exact hf.1) (nb_in ok h) hf.2
end
end Bo

namespace Bo
/-! ### one long row, chunks of several signs; chains in it -/
theorem LRow.putT {W : Wd} {row : List Sg} (h : LRow W row) {a : Nat} {lo hi : Sg} (h1 : row[a]? = some lo) (h2 : row[a + 1]? = some hi) (who : Int) (t : List Nat) (ht : 1 ≤ t.length) : LRow (W ++ [(who, lo, hi, t)]) (row.take (a + 1) ++ chunk W.length t.length ++ row.drop (a + 1)) := by
  have ok := h.ok
  obtain ⟨l1, e1⟩ := List.getElem?_eq_some_iff.mp h1
  obtain ⟨l2, e2⟩ := List.getElem?_eq_some_iff.mp h2
  have slo := h.sn lo (List.mem_of_getElem? h1)
  have shi := h.sn hi (List.mem_of_getElem? h2)
  have srt := List.pairwise_iff_getElem.mp h.srt
  have alh : Aw W lo hi := by rw [← e1, ← e2]; exact srt a (a + 1) l1 l2 (by omega)
  have ok' : WOk (W ++ [(who, lo, hi, t)]) := ok.app slo shi alh ht
  have ap : ∀ x y, Sn W x → Sn W y → (Aw (W ++ [(who, lo, hi, t)]) x y ↔ Aw W x y) := fun x y hx hy => Aw_app ok hx.1 hy.1
  have nl : (W ++ [(who, lo, hi, t)]).length = W.length + 1 := by simp
  have ef : Lf (W ++ [(who, lo, hi, t)]) W.length = lo := new_ends.1
  have er : Rt (W ++ [(who, lo, hi, t)]) W.length = hi := new_ends.2
  have fsn : ∀ z ∈ chunk W.length t.length, Sn (W ++ [(who, lo, hi, t)]) z ∧ z.1 = W.length := by
    intro z hz
    obtain ⟨i, hi', rfl⟩ := List.mem_map.mp hz
    refine ⟨⟨by rw [nl]; show W.length < _; omega, ?_⟩, rfl⟩
    show i < sz _ W.length
    rw [sz_new ok.one]
    exact List.mem_range.mp hi'
  have q1 : ∀ x ∈ row.take (a + 1), ∀ z ∈ chunk W.length t.length, Aw (W ++ [(who, lo, hi, t)]) x z := by
    intro x hx z hz
    have hxr : x ∈ row := List.mem_of_mem_take hx
    obtain ⟨sz', ez⟩ := fsn z hz
    rw [aw_up ok' sz'.1 (by rw [ez]; exact (h.sn x hxr).1), ez, ef, Aq_app ok (h.sn x hxr).1 slo.1]
    obtain ⟨j, hj⟩ := List.mem_iff_getElem?.mp hx
    have hjl := (List.getElem?_eq_some_iff.mp hj).1
    rw [List.length_take] at hjl
    rw [List.getElem?_take_of_lt (by omega)] at hj
    obtain ⟨l3, e3⟩ := List.getElem?_eq_some_iff.mp hj
    by_cases ja : j = a
    · subst ja
      rw [h1] at hj
      exact .inl (Option.some.inj hj).symm
    · refine .inr ?_
      rw [← e1, ← e3]
      exact srt j a l3 l1 (by omega)
  have q2 : ∀ y ∈ row.drop (a + 1), ∀ z ∈ chunk W.length t.length, Aw (W ++ [(who, lo, hi, t)]) z y := by
    intro y hy z hz
    have hyr : y ∈ row := List.mem_of_mem_drop hy
    obtain ⟨sz', ez⟩ := fsn z hz
    rw [aw_dn ok' sz'.1 (by rw [ez]; exact (h.sn y hyr).1), ez, er, Aq_app ok shi.1 (h.sn y hyr).1]
    obtain ⟨j, hj⟩ := List.mem_iff_getElem?.mp hy
    rw [List.getElem?_drop] at hj
    obtain ⟨l3, e3⟩ := List.getElem?_eq_some_iff.mp hj
    by_cases j0 : j = 0
    · subst j0
      rw [Nat.add_zero, h2] at hj
      exact .inl (Option.some.inj hj)
    · refine .inr ?_
      rw [← e2, ← e3]
      exact srt (a + 1) (a + 1 + j) l2 l3 (by omega)
  have srt' : row.Pairwise (Aw (W ++ [(who, lo, hi, t)])) := h.srt.imp_of_mem fun hx hy r => (ap _ _ (h.sn _ hx) (h.sn _ hy)).mpr r
  have cut : row = row.take (a + 1) ++ row.drop (a + 1) := (List.take_append_drop _ _).symm
  have srt2 := srt'
  rw [cut] at srt2
  obtain ⟨p1, p2, p3⟩ := List.pairwise_append.mp srt2
  have two := h.two
  refine ⟨ok', ?_, fun x hx => ?_, ?_⟩
  · rw [List.length_append, List.length_append, List.length_take, List.length_drop]
    omega
  · rcases List.mem_append.mp hx with hx | hx
    · rcases List.mem_append.mp hx with hx | hx
      · exact (h.sn x (List.mem_of_mem_take hx)).app
      · exact (fsn x hx).1
    · exact (h.sn x (List.mem_of_mem_drop hx)).app
  · refine List.pairwise_append.mpr ⟨List.pairwise_append.mpr ⟨p1, ?_, fun x hx z hz => q1 x hx z hz⟩, p2, fun x hx y hy => ?_⟩
    · refine List.pairwise_iff_getElem.mpr fun i j hi' hj hij => ?_
      have hi2 : i < t.length := by rw [chunk_len] at hi'; exact hi'
      have hj2 : j < t.length := by rw [chunk_len] at hj; exact hj
      have ei := List.getElem?_eq_getElem hi'
      have ej := List.getElem?_eq_getElem hj
      rw [chunk_get hi2] at ei
      rw [chunk_get hj2] at ej
      rw [← Option.some.inj ei, ← Option.some.inj ej]
      exact (Ah_eq (x := (W.length, i)) (y := (W.length, j)) rfl).mpr hij
    · rcases List.mem_append.mp hx with hx | hx
      · exact p3 x hx y hy
      · exact q2 y hy x hx
theorem nb_get2 {row : List Sg} {k : Nat} {p : Pr} (h : (nb row)[k]? = some p) : row[k]? = some p.1 ∧ row[k + 1]? = some p.2 := by
  unfold nb at h
  have := List.getElem?_zip_eq_some.mp (show (row.zip row.tail)[k]? = some (p.1, p.2) from h)
  exact ⟨this.1, by have := this.2; rw [List.getElem?_tail] at this; exact this⟩
theorem LRow.aw {W : Wd} {row : List Sg} (h : LRow W row) {j k : Nat} {x y : Sg} (hx : row[j]? = some x) (hy : row[k]? = some y) (hjk : j < k) : Aw W x y := by
  obtain ⟨l1, e1⟩ := List.getElem?_eq_some_iff.mp hx
  obtain ⟨l2, e2⟩ := List.getElem?_eq_some_iff.mp hy
  rw [← e1, ← e2]
  exact List.pairwise_iff_getElem.mp h.srt j k l1 l2 hjk
theorem LRow.chain {W : Wd} {row : List Sg} (h : LRow W row) : chained W row = true := by
  unfold chained
  rw [List.all_eq_true]
  intro p hp
  obtain ⟨k, hk⟩ := List.mem_iff_getElem?.mp hp
  obtain ⟨h1, h2⟩ := nb_get2 hk
  exact ahB_iff.mpr (h.aw h1 h2 (by omega))
theorem not_ahB {W : Wd} (ok : WOk W) {x y : Sg} (hx : x.1 < W.length) (hy : y.1 < W.length) (h : Aw W x y) : ahB W y x = false := by
  cases q : ahB W y x with
  | false => rfl
  | true => exact absurd (ahB_iff.mp q) (Ah_asy ok.wf ok.lr (by rw [bs_len]; exact hx) (by rw [bs_len]; exact hy) h)
/-- a row with two neighbours turned is no chain -/
theorem turned_not {W : Wd} (ok : WOk W) {a b : List Sg} {x y : Sg} (hx : x.1 < W.length) (hy : y.1 < W.length) (h : Aw W x y) : chained W (a ++ y :: x :: b) = false := by
  unfold chained
  rw [List.all_eq_false]
  refine ⟨(y, x), ?_, by rw [not_ahB ok hx hy h]; decide⟩
  refine List.mem_iff_getElem?.mpr ⟨a.length, ?_⟩
  unfold nb
  refine List.getElem?_zip_eq_some.mpr ⟨?_, ?_⟩
  · rw [List.getElem?_append_right (Nat.le_refl _), Nat.sub_self]
    rfl
  · rw [List.getElem?_tail, List.getElem?_append_right (by omega), show a.length + 1 - a.length = 1 by omega]
    rfl
end Bo

namespace K26
open PySem PySem.Spec PyProof.Rows L2 Cl Bo
def sgD (x : Sg) : Dt := .tup [.int x.1, .int x.2]
def btD (b : Bt) : Dt := .tup [.int b.1, sgD b.2.1, sgD b.2.2.1, .str b.2.2.2]
def wD (W : Wd) : Dt := .tup (W.map btD)
def marksD (W : Wd) : Dt := .lst ((marks W).map sgD)
def tabL (T : List Nat) : List Dt := T.map fun n : Nat => .int n
def prD (p : Sg × Sg) : Dt := .tup [sgD p.1, sgD p.2]
def hopsD (l : List (Sg × Sg)) : Dt := .tup (l.map prD)
def behind (T : List Nat) (j : Nat) : List Nat := (List.range T.length).filter (tb T j)
def aheadL (T : List Nat) (j : Nat) : List Nat := (List.range T.length).filter fun k => tb T k j
def closeL (T : List Nat) (j : Nat) : List Nat := (behind T j).filter fun k => ((behind T j).filter fun m => tb T m k).length == 0
def F_hopped : FS := fun as R => ∃ (W : Wd) (x y : Sg), as = [.dat (wD W), .dat (sgD x), .dat (sgD y)] ∧ x.1 < W.length ∧ y.1 < W.length ∧ R (.dat (prD (hp W x y))) as
def F_hops_of : FS := fun as R => ∃ (W : Wd) (x y : Sg), as = [.dat (wD W), .dat (sgD x), .dat (sgD y)] ∧ WOk W ∧ W.length ≤ 1000 ∧ x.1 < W.length ∧ y.1 < W.length ∧ R (.dat (hopsD (hpT W x y))) as
abbrev F_law_draws : FS := F_boxNew
abbrev F_law_pick : FS := F_boxPick
def F_law_say : FS := fun as R => ∃ most : Nat, as = [.ob .pool, .dat (.int most)] ∧ 1 ≤ most ∧ most ≤ 1000 ∧ ∀ t : List Nat, 1 ≤ t.length → t.length ≤ most → R (.dat (.str t)) [.ob .pool, .dat (.int most)]
def F_law_all : FS := fun as R => ∃ W : Wd, as = [.dat (wD W)] ∧ 1 ≤ W.length ∧ W.length ≤ 1000 ∧ NN W ≤ 10000 ∧ R (.new (.lst ((marks W).map sgD))) as
def F_law_closed : FS := fun as R => ∃ W : Wd, as = [.dat (wD W)] ∧ WOk W ∧ W.length ≤ 1000 ∧ NN W ≤ 10000 ∧ ∀ T, TbOk W T → R (.new (.lst (tabL T))) as
def F_law_behind : FS := fun as R => ∃ (T : List Nat) (j : Nat), as = [.dat (.lst (tabL T)), .dat (.int j)] ∧ T.length ≤ 10000 ∧ j < T.length ∧ R (.new (.lst (tabL (behind T j)))) as
def F_law_ahead : FS := fun as R => ∃ (T : List Nat) (j : Nat), as = [.dat (.lst (tabL T)), .dat (.int j)] ∧ T.length ≤ 10000 ∧ j < T.length ∧ R (.new (.lst (tabL (aheadL T j)))) as
def F_law_close : FS := fun as R => ∃ (T : List Nat) (j : Nat), as = [.dat (.lst (tabL T)), .dat (.int j)] ∧ T.length ≤ 10000 ∧ j < T.length ∧ R (.new (.lst (tabL (closeL T j)))) as
def F_law_pair : FS := fun as R => ∃ (W : Wd) (T : List Nat) (mode : Int), as = [.ob .pool, .dat (.lst (tabL T)), .dat (.int mode)] ∧ WOk W ∧ TbOk W T ∧ NN W ≤ 10000 ∧ ∀ x y, Sn W x → Sn W y → Aw W x y → R (.dat (.tup [.int (ix W x : Nat), .int (ix W y : Nat)])) [.ob .pool, .dat (.lst (tabL T)), .dat (.int mode)]
def F_law_world : FS := fun as R => as = [.ob .pool] ∧ ∀ W, WOk W → W.length ≤ 50 → NN W ≤ 100 → R (.dat (wD W)) [.ob .pool]
def sv : Nat → Dt → Prop
  | _, .bl _ => True
  | _, .int _ => True
  | n + 1, .tup l => l.length ≤ 10000 ∧ ∀ x ∈ l, sv n x
  | _, _ => False
def F_same (n : Nat) : FS := fun as R => ∃ d : Dt, as = [.dat d, .dat d] ∧ sv n d ∧ R (.dat (.bl true)) as
def F_law_same : FS := F_same 4
def F_law_hops : FS := fun as R => ∃ (W : Wd) (x y : Sg), as = [.dat (wD W), .dat (sgD x), .dat (sgD y)] ∧ WOk W ∧ W.length ≤ 1000 ∧ x.1 < W.length ∧ y.1 < W.length ∧ R (.dat (hopsD (hpT W x y))) as
def rowD (r : List Sg) : Dt := .tup (r.map sgD)
def papD (p : List (List Pr)) : Dt := .tup (p.map hopsD)
def F_chain_paper : FS := fun as R => ∃ (W : Wd) (row : List Sg), as = [.dat (wD W), .dat (rowD row)] ∧ WOk W ∧ W.length ≤ 1000 ∧ row.length ≤ 10000 ∧ (∀ x ∈ row, x.1 < W.length) ∧ R (.dat (papD (chP W row))) as
def F_law_paper : FS := F_chain_paper
def F_exchanges : FS := fun as R => ∃ (W : Wd) (p : Pr), as = [.dat (wD W), .dat (prD p)] ∧ InP W p ∧ R (.new (.lst ((exch W p).map prD))) as
def F_law_next : FS := F_exchanges
def F_entry_fits : FS := fun as R => ∃ (W : Wd) (x y : Sg) (e : List Pr), as = [.dat (wD W), .dat (sgD x), .dat (sgD y), .dat (hopsD e)] ∧ WOk W ∧ x.1 < W.length ∧ y.1 < W.length ∧ e.length ≤ 10000 ∧ R (.dat (.bl (entF W x y e))) as
def F_law_entry_fits : FS := F_entry_fits
def F_chain_fits : FS := fun as R => ∃ (W : Wd) (row : List Sg) (paper : List (List Pr)), as = [.dat (wD W), .dat (rowD row), .dat (papD paper)] ∧ WOk W ∧ (∀ x ∈ row, x.1 < W.length) ∧ row.length ≤ 10000 ∧ paper.length ≤ 10000 ∧ (∀ e ∈ paper, e.length ≤ 10000) ∧ R (.dat (.bl (fitsB W row paper))) as
def F_law_fits : FS := F_chain_fits
def F_law_ends : FS := fun as R => ∃ (p : Pr) (n : Nat), as = [.dat (prD p), .dat (.int n)] ∧ R (.dat (.bl (endF p n))) as
def F_law_told : FS := fun as R => ∃ (W : Wd) (T : List Nat) (x y : Sg), as = [.dat (marksD W), .dat (.lst (tabL T)), .dat (sgD x), .dat (sgD y)] ∧ WOk W ∧ NN W ≤ 10000 ∧ TbOk W T ∧ Sn W x ∧ Sn W y ∧ R (.dat (.bl (ahB W x y))) as
def F_law_chained : FS := fun as R => ∃ (W : Wd) (T : List Nat) (row : List Sg), as = [.dat (marksD W), .dat (.lst (tabL T)), .dat (rowD row)] ∧ WOk W ∧ NN W ≤ 10000 ∧ TbOk W T ∧ (∀ x ∈ row, Sn W x) ∧ row.length ≤ 10000 ∧ R (.dat (.bl (chained W row))) as
def F_law_row : FS := fun as R => ∃ (W : Wd) (T : List Nat), as = [.ob .pool, .dat (marksD W), .dat (.lst (tabL T))] ∧ WOk W ∧ NN W ≤ 10000 ∧ TbOk W T ∧ ∀ row : List Sg, (∀ x ∈ row, Sn W x) → row.length ≤ 10 → R (.dat (rowD row)) [.ob .pool, .dat (marksD W), .dat (.lst (tabL T))]
def F_law_rich : FS := fun as R => ∃ (W : Wd) (T : List Nat), as = [.dat (wD W), .dat (marksD W), .dat (.lst (tabL T))] ∧ WOk W ∧ NN W ≤ 500 ∧ TbOk W T ∧ ∀ l : List Pr, (∀ p ∈ l, SnP W p) → l.length ≤ 1000000 → R (.new (.lst (l.map prD))) as
def F_law_walk : FS := fun as R => ∃ (W : Wd) (T : List Nat) (x y : Sg), as = [.ob .pool, .dat (wD W), .dat (marksD W), .dat (.lst (tabL T)), .dat (sgD x), .dat (sgD y)] ∧ WOk W ∧ NN W ≤ 10000 ∧ TbOk W T ∧ Sn W x ∧ Sn W y ∧ ∀ e : List Pr, e ≠ [] → e.length ≤ 100 → (∀ p ∈ e, SnP W p) → R (.dat (hopsD e)) [.ob .pool, .dat (wD W), .dat (marksD W), .dat (.lst (tabL T)), .dat (sgD x), .dat (sgD y)]
def F_law_walks : FS := fun as R => ∃ (W : Wd) (x y : Sg), as = [.dat (wD W), .dat (sgD x), .dat (sgD y)] ∧ WOk W ∧ x.1 < W.length ∧ y.1 < W.length ∧ ∀ es : List (List Pr), (∀ e ∈ es, ∃ r, e = (x, y) :: r ∧ stepsF W e = true ∧ e.length ≤ 100) → es.length ≤ 100 → R (.new (.lst (es.map hopsD))) as
def F_law_bent : FS := fun as R => ∃ (W : Wd) (paper : List (List Pr)), as = [.ob .pool, .dat (wD W), .dat (marksD W), .dat (papD paper)] ∧ WOk W ∧ W.length ≤ 1000 ∧ NN W ≤ 10000 ∧ paper ≠ [] ∧ paper.length ≤ 1000 ∧ (∀ e ∈ paper, e ≠ [] ∧ e.length ≤ 2000 ∧ ∀ p ∈ e, InP W p) ∧
  ∀ ps : List (List (List Pr)), (∀ q ∈ ps, q.length ≤ 2000 ∧ ∀ e ∈ q, e.length ≤ 4000) → ps.length ≤ 100 → R (.new (.lst (ps.map papD))) [.ob .pool, .dat (wD W), .dat (marksD W), .dat (papD paper)]
def F_law_holds : FS := fun as R => ∃ (W : Wd) (T : List Nat) (row : List Sg), as = [.ob .pool, .dat (wD W), .dat (marksD W), .dat (.lst (tabL T)), .dat (rowD row)] ∧ WOk W ∧ W.length ≤ 1000 ∧ NN W ≤ 10000 ∧ TbOk W T ∧ (∀ x ∈ row, Sn W x) ∧ row.length ≤ 10 ∧ R (.dat (.bl true)) [.ob .pool, .dat (wD W), .dat (marksD W), .dat (.lst (tabL T)), .dat (rowD row)]
def F_law_pair_holds : FS := fun as R => ∃ (W : Wd) (T : List Nat) (x y : Sg), as = [.dat (wD W), .dat (marksD W), .dat (.lst (tabL T)), .dat (sgD x), .dat (sgD y)] ∧ WOk W ∧ W.length ≤ 1000 ∧ NN W ≤ 10000 ∧ TbOk W T ∧ Sn W x ∧ Sn W y ∧ R (.dat (.bl true)) as
def F_law_long_row : FS := fun as R => as = [.ob .pool] ∧ R (.dat (.bl true)) [.ob .pool]
def F_law : FS := fun as R => ∃ ns : List Int, as = [.dat (.frz (ns.map .int))] ∧ ns.length ≤ 63 ∧ R (.dat (.bl true)) as
end K26

namespace K26
open PySem PySem.Spec PyProof.Rows L2 Cl Bo
def topS (i : Nat) : Stmt := PySem.Challenge.pw_deedstand_k26_whole_chain_papers.main.body.getD i (.Pass ⟨0, 0, 0, 0⟩)
abbrev s_hopped : Stmt := topS 1
abbrev N_hopped : List Str := ["births", "one", "other"]
abbrev P_hopped : List Str := ["births", "one", "other"]
theorem sc_hopped : FnScope N_hopped P_hopped (defScope s_hopped) := ⟨rfl, rfl, rfl, by decide +kernel, rfl, by decide +kernel, by decide +kernel⟩
abbrev s_hops_of : Stmt := topS 2
abbrev N_hops_of : List Str := ["births", "one", "other", "pairs"]
abbrev P_hops_of : List Str := ["births", "one", "other"]
theorem sc_hops_of : FnScope N_hops_of P_hops_of (defScope s_hops_of) := ⟨rfl, rfl, rfl, by decide +kernel, rfl, by decide +kernel, by decide +kernel⟩
abbrev s_chain_paper : Stmt := topS 4
abbrev N_chain_paper : List Str := ["births", "row", "one", "other"]
abbrev P_chain_paper : List Str := ["births", "row"]
theorem sc_chain_paper : FnScope N_chain_paper P_chain_paper (defScope s_chain_paper) := ⟨rfl, rfl, rfl, by decide +kernel, rfl, by decide +kernel, by decide +kernel⟩
abbrev s_exchanges : Stmt := topS 5
abbrev N_exchanges : List Str := ["births", "pair", "one", "other", "allowed"]
abbrev P_exchanges : List Str := ["births", "pair"]
theorem sc_exchanges : FnScope N_exchanges P_exchanges (defScope s_exchanges) := ⟨rfl, rfl, rfl, by decide +kernel, rfl, by decide +kernel, by decide +kernel⟩
abbrev s_entry_fits : Stmt := topS 6
abbrev N_entry_fits : List Str := ["births", "one", "other", "entry", "pair", "following"]
abbrev P_entry_fits : List Str := ["births", "one", "other", "entry"]
theorem sc_entry_fits : FnScope N_entry_fits P_entry_fits (defScope s_entry_fits) := ⟨rfl, rfl, rfl, by decide +kernel, rfl, by decide +kernel, by decide +kernel⟩
abbrev s_chain_fits : Stmt := topS 7
abbrev N_chain_fits : List Str := ["births", "row", "paper", "one", "other", "entry"]
abbrev P_chain_fits : List Str := ["births", "row", "paper"]
theorem sc_chain_fits : FnScope N_chain_fits P_chain_fits (defScope s_chain_fits) := ⟨rfl, rfl, rfl, by decide +kernel, rfl, by decide +kernel, by decide +kernel⟩
abbrev s_law_draws : Stmt := topS 9
abbrev N_law_draws : List Str := ["script", "state", "heaps", "cell", "size"]
abbrev P_law_draws : List Str := ["script"]
theorem sc_law_draws : FnScope N_law_draws P_law_draws (defScope s_law_draws) := ⟨rfl, rfl, rfl, by decide +kernel, rfl, by decide +kernel, by decide +kernel⟩
abbrev s_law_pick : Stmt := topS 10
abbrev N_law_pick : List Str := ["box", "many", "heaps", "mixed", "cell"]
abbrev P_law_pick : List Str := ["box", "many"]
theorem sc_law_pick : FnScope N_law_pick P_law_pick (defScope s_law_pick) := ⟨rfl, rfl, rfl, by decide +kernel, rfl, by decide +kernel, by decide +kernel⟩
abbrev s_law_say : Stmt := topS 11
abbrev N_law_say : List Str := ["box", "most", "every", "size", "k"]
abbrev P_law_say : List Str := ["box", "most"]
theorem sc_law_say : FnScope N_law_say P_law_say (defScope s_law_say) := ⟨rfl, rfl, rfl, by decide +kernel, rfl, by decide +kernel, by decide +kernel⟩
abbrev s_law_all : Stmt := topS 12
abbrev N_law_all : List Str := ["world", "rows", "c", "i"]
abbrev P_law_all : List Str := ["world"]
theorem sc_law_all : FnScope N_law_all P_law_all (defScope s_law_all) := ⟨rfl, rfl, rfl, by decide +kernel, rfl, by decide +kernel, by decide +kernel⟩
abbrev s_law_closed : Stmt := topS 13
abbrev N_law_closed : List Str := ["world", "marks", "steps", "c", "table", "turn", "size", "first", "i", "still", "a", "b", "wide", "k"]
abbrev P_law_closed : List Str := ["world"]
theorem sc_law_closed : FnScope N_law_closed P_law_closed (defScope s_law_closed) := ⟨rfl, rfl, rfl, by decide +kernel, rfl, by decide +kernel, by decide +kernel⟩
abbrev s_law_behind : Stmt := topS 14
abbrev N_law_behind : List Str := ["table", "j", "k"]
abbrev P_law_behind : List Str := ["table", "j"]
theorem sc_law_behind : FnScope N_law_behind P_law_behind (defScope s_law_behind) := ⟨rfl, rfl, rfl, by decide +kernel, rfl, by decide +kernel, by decide +kernel⟩
abbrev s_law_ahead : Stmt := topS 15
abbrev N_law_ahead : List Str := ["table", "j", "k"]
abbrev P_law_ahead : List Str := ["table", "j"]
theorem sc_law_ahead : FnScope N_law_ahead P_law_ahead (defScope s_law_ahead) := ⟨rfl, rfl, rfl, by decide +kernel, rfl, by decide +kernel, by decide +kernel⟩
abbrev s_law_close : Stmt := topS 16
abbrev N_law_close : List Str := ["table", "j", "behind", "found", "k", "m"]
abbrev P_law_close : List Str := ["table", "j"]
theorem sc_law_close : FnScope N_law_close P_law_close (defScope s_law_close) := ⟨rfl, rfl, rfl, by decide +kernel, rfl, by decide +kernel, by decide +kernel⟩
abbrev s_law_pair : Stmt := topS 17
abbrev N_law_pair : List Str := ["box", "table", "mode", "many", "j", "behind", "newest", "ahead", "late"]
abbrev P_law_pair : List Str := ["box", "table", "mode"]
theorem sc_law_pair : FnScope N_law_pair P_law_pair (defScope s_law_pair) := ⟨rfl, rfl, rfl, by decide +kernel, rfl, by decide +kernel, by decide +kernel⟩
abbrev s_law_same : Stmt := topS 18
abbrev N_law_same : List Str := ["a", "b", "k"]
abbrev P_law_same : List Str := ["a", "b"]
theorem sc_law_same : FnScope N_law_same P_law_same (defScope s_law_same) := ⟨rfl, rfl, rfl, by decide +kernel, rfl, by decide +kernel, by decide +kernel⟩
abbrev s_law_world : Stmt := topS 19
abbrev N_law_world : List Str := ["box", "mode", "world", "many", "most", "c", "marks", "a", "b", "who"]
abbrev P_law_world : List Str := ["box"]
theorem sc_law_world : FnScope N_law_world P_law_world (defScope s_law_world) := ⟨rfl, rfl, rfl, by decide +kernel, rfl, by decide +kernel, by decide +kernel⟩
abbrev s_law_hops : Stmt := topS 20
abbrev N_law_hops : List Str := ["world", "a", "b", "rows", "turn"]
abbrev P_law_hops : List Str := ["world", "a", "b"]
theorem sc_law_hops : FnScope N_law_hops P_law_hops (defScope s_law_hops) := ⟨rfl, rfl, rfl, by decide +kernel, rfl, by decide +kernel, by decide +kernel⟩
abbrev s_law_paper : Stmt := topS 21
abbrev N_law_paper : List Str := ["world", "line", "k"]
abbrev P_law_paper : List Str := ["world", "line"]
theorem sc_law_paper : FnScope N_law_paper P_law_paper (defScope s_law_paper) := ⟨rfl, rfl, rfl, by decide +kernel, rfl, by decide +kernel, by decide +kernel⟩
abbrev s_law_next : Stmt := topS 22
abbrev N_law_next : List Str := ["world", "pair", "rows"]
abbrev P_law_next : List Str := ["world", "pair"]
theorem sc_law_next : FnScope N_law_next P_law_next (defScope s_law_next) := ⟨rfl, rfl, rfl, by decide +kernel, rfl, by decide +kernel, by decide +kernel⟩
abbrev s_law_ends : Stmt := topS 23
abbrev N_law_ends : List Str := ["pair", "many"]
abbrev P_law_ends : List Str := ["pair", "many"]
theorem sc_law_ends : FnScope N_law_ends P_law_ends (defScope s_law_ends) := ⟨rfl, rfl, rfl, by decide +kernel, rfl, by decide +kernel, by decide +kernel⟩
abbrev s_law_entry_fits : Stmt := topS 24
abbrev N_law_entry_fits : List Str := ["world", "a", "b", "entry", "k"]
abbrev P_law_entry_fits : List Str := ["world", "a", "b", "entry"]
theorem sc_law_entry_fits : FnScope N_law_entry_fits P_law_entry_fits (defScope s_law_entry_fits) := ⟨rfl, rfl, rfl, by decide +kernel, rfl, by decide +kernel, by decide +kernel⟩
abbrev s_law_fits : Stmt := topS 25
abbrev N_law_fits : List Str := ["world", "line", "leaf", "k"]
abbrev P_law_fits : List Str := ["world", "line", "leaf"]
theorem sc_law_fits : FnScope N_law_fits P_law_fits (defScope s_law_fits) := ⟨rfl, rfl, rfl, by decide +kernel, rfl, by decide +kernel, by decide +kernel⟩
abbrev s_law_told : Stmt := topS 26
abbrev N_law_told : List Str := ["marks", "table", "a", "b"]
abbrev P_law_told : List Str := ["marks", "table", "a", "b"]
theorem sc_law_told : FnScope N_law_told P_law_told (defScope s_law_told) := ⟨rfl, rfl, rfl, by decide +kernel, rfl, by decide +kernel, by decide +kernel⟩
abbrev s_law_chained : Stmt := topS 27
abbrev N_law_chained : List Str := ["marks", "table", "line", "k"]
abbrev P_law_chained : List Str := ["marks", "table", "line"]
theorem sc_law_chained : FnScope N_law_chained P_law_chained (defScope s_law_chained) := ⟨rfl, rfl, rfl, by decide +kernel, rfl, by decide +kernel, by decide +kernel⟩
abbrev s_law_row : Stmt := topS 28
abbrev N_law_row : List Str := ["box", "marks", "table", "line", "at", "turn", "behind", "k"]
abbrev P_law_row : List Str := ["box", "marks", "table"]
theorem sc_law_row : FnScope N_law_row P_law_row (defScope s_law_row) := ⟨rfl, rfl, rfl, by decide +kernel, rfl, by decide +kernel, by decide +kernel⟩
abbrev s_law_rich : Stmt := topS 29
abbrev N_law_rich : List Str := ["world", "marks", "table", "rows", "a", "b", "last", "first"]
abbrev P_law_rich : List Str := ["world", "marks", "table"]
theorem sc_law_rich : FnScope N_law_rich P_law_rich (defScope s_law_rich) := ⟨rfl, rfl, rfl, by decide +kernel, rfl, by decide +kernel, by decide +kernel⟩
abbrev s_law_walk : Stmt := topS 30
abbrev N_law_walk : List Str := ["box", "world", "marks", "table", "a", "b", "rows", "turn", "good", "v", "w"]
abbrev P_law_walk : List Str := ["box", "world", "marks", "table", "a", "b"]
theorem sc_law_walk : FnScope N_law_walk P_law_walk (defScope s_law_walk) := ⟨rfl, rfl, rfl, by decide +kernel, rfl, by decide +kernel, by decide +kernel⟩
abbrev s_law_walks : Stmt := topS 31
abbrev N_law_walks : List Str := ["world", "a", "b", "rows", "done", "turn", "pair"]
abbrev P_law_walks : List Str := ["world", "a", "b"]
theorem sc_law_walks : FnScope N_law_walks P_law_walks (defScope s_law_walks) := ⟨rfl, rfl, rfl, by decide +kernel, rfl, by decide +kernel, by decide +kernel⟩
abbrev s_law_bent : Stmt := topS 32
abbrev N_law_bent : List Str := ["box", "world", "marks", "leaf", "at", "entry", "k", "v", "w", "odd", "far", "wide", "entries", "pair", "rows", "bent"]
abbrev P_law_bent : List Str := ["box", "world", "marks", "leaf"]
theorem sc_law_bent : FnScope N_law_bent P_law_bent (defScope s_law_bent) := ⟨rfl, rfl, rfl, by decide +kernel, rfl, by decide +kernel, by decide +kernel⟩
abbrev s_law_holds : Stmt := topS 33
abbrev N_law_holds : List Str := ["box", "world", "marks", "table", "line", "made", "plain", "chained", "walked", "papers", "leaf", "due", "k"]
abbrev P_law_holds : List Str := ["box", "world", "marks", "table", "line"]
theorem sc_law_holds : FnScope N_law_holds P_law_holds (defScope s_law_holds) := ⟨rfl, rfl, rfl, by decide +kernel, rfl, by decide +kernel, by decide +kernel⟩
abbrev s_law_pair_holds : Stmt := topS 34
abbrev N_law_pair_holds : List Str := ["world", "marks", "table", "a", "b", "found", "entry", "due"]
abbrev P_law_pair_holds : List Str := ["world", "marks", "table", "a", "b"]
theorem sc_law_pair_holds : FnScope N_law_pair_holds P_law_pair_holds (defScope s_law_pair_holds) := ⟨rfl, rfl, rfl, by decide +kernel, rfl, by decide +kernel, by decide +kernel⟩
abbrev s_law_long_row : Stmt := topS 35
abbrev N_law_long_row : List Str := ["box", "world", "way", "row", "c", "line", "plain", "turn", "at", "text", "k", "other", "entry", "ends", "hops", "j", "leaf", "i"]
abbrev P_law_long_row : List Str := ["box"]
theorem sc_law_long_row : FnScope N_law_long_row P_law_long_row (defScope s_law_long_row) := ⟨rfl, rfl, rfl, by decide +kernel, rfl, by decide +kernel, by decide +kernel⟩
abbrev s_law : Stmt := topS 36
abbrev N_law : List Str := ["script", "box", "world", "marks", "table", "turn", "a", "b", "rich", "ends"]
abbrev P_law : List Str := ["script"]
theorem sc_law : FnScope N_law P_law (defScope s_law) := ⟨rfl, rfl, rfl, by decide +kernel, rfl, by decide +kernel, by decide +kernel⟩
theorem bi_hopped {K : PySem.W.Frag} {f : Addr} {fd : FuncData} (F : FunD K "_hopped" "_hopped" (defArgs s_hopped) (defBody s_hopped) (defScope s_hopped) [] [] f fd) : ∃ ws ds, Vals ws ds ∧ (∀ B, RepL K B [] ws) ∧ Binds K fd P_hopped ds := bi_N F fun _ _ _ _ _ _ us hl => match us, hl with
  | [_, _, _], _ => rfl
theorem bi_hops_of {K : PySem.W.Frag} {f : Addr} {fd : FuncData} (F : FunD K "hops_of" "hops_of" (defArgs s_hops_of) (defBody s_hops_of) (defScope s_hops_of) [] [] f fd) : ∃ ws ds, Vals ws ds ∧ (∀ B, RepL K B [] ws) ∧ Binds K fd P_hops_of ds := bi_N F fun _ _ _ _ _ _ us hl => match us, hl with
  | [_, _, _], _ => rfl
theorem bi_chain_paper {K : PySem.W.Frag} {f : Addr} {fd : FuncData} (F : FunD K "chain_paper" "chain_paper" (defArgs s_chain_paper) (defBody s_chain_paper) (defScope s_chain_paper) [] [] f fd) : ∃ ws ds, Vals ws ds ∧ (∀ B, RepL K B [] ws) ∧ Binds K fd P_chain_paper ds := bi_N F fun _ _ _ _ _ _ us hl => match us, hl with
  | [_, _], _ => rfl
theorem kb_chain_paper_0 {K : PySem.W.Frag} {f : Addr} {fd : FuncData} (F : FunD K "chain_paper" "chain_paper" (defArgs s_chain_paper) (defBody s_chain_paper) (defScope s_chain_paper) [] [] f fd) : ∃ g gV, KBn K fd P_chain_paper 0 ["row", "births"] g gV ∧ ∀ B σ avs kvs vs zs, avs.length = 0 → kvs.length = 2 → AVOk K B σ avs vs → AVOk K B σ kvs zs → AVOk K B σ (pick (.dat .non) [.inr 1, .inr 0] avs kvs ++ []) (gV vs zs) := kb_all F 0 ["row", "births"] _ fun _ _ _ _ _ _ us ws h1 h2 => match us, ws, h1, h2 with
  | [], [_, _], _, _ => rfl
theorem bi_exchanges {K : PySem.W.Frag} {f : Addr} {fd : FuncData} (F : FunD K "_exchanges" "_exchanges" (defArgs s_exchanges) (defBody s_exchanges) (defScope s_exchanges) [] [] f fd) : ∃ ws ds, Vals ws ds ∧ (∀ B, RepL K B [] ws) ∧ Binds K fd P_exchanges ds := bi_N F fun _ _ _ _ _ _ us hl => match us, hl with
  | [_, _], _ => rfl
theorem bi_entry_fits {K : PySem.W.Frag} {f : Addr} {fd : FuncData} (F : FunD K "_entry_fits" "_entry_fits" (defArgs s_entry_fits) (defBody s_entry_fits) (defScope s_entry_fits) [] [] f fd) : ∃ ws ds, Vals ws ds ∧ (∀ B, RepL K B [] ws) ∧ Binds K fd P_entry_fits ds := bi_N F fun _ _ _ _ _ _ us hl => match us, hl with
  | [_, _, _, _], _ => rfl
theorem bi_chain_fits {K : PySem.W.Frag} {f : Addr} {fd : FuncData} (F : FunD K "chain_fits" "chain_fits" (defArgs s_chain_fits) (defBody s_chain_fits) (defScope s_chain_fits) [] [] f fd) : ∃ ws ds, Vals ws ds ∧ (∀ B, RepL K B [] ws) ∧ Binds K fd P_chain_fits ds := bi_N F fun _ _ _ _ _ _ us hl => match us, hl with
  | [_, _, _], _ => rfl
theorem kb_chain_fits_0 {K : PySem.W.Frag} {f : Addr} {fd : FuncData} (F : FunD K "chain_fits" "chain_fits" (defArgs s_chain_fits) (defBody s_chain_fits) (defScope s_chain_fits) [] [] f fd) : ∃ g gV, KBn K fd P_chain_fits 0 ["paper", "row", "births"] g gV ∧ ∀ B σ avs kvs vs zs, avs.length = 0 → kvs.length = 3 → AVOk K B σ avs vs → AVOk K B σ kvs zs → AVOk K B σ (pick (.dat .non) [.inr 2, .inr 1, .inr 0] avs kvs ++ []) (gV vs zs) := kb_all F 0 ["paper", "row", "births"] _ fun _ _ _ _ _ _ us ws h1 h2 => match us, ws, h1, h2 with
  | [], [_, _, _], _, _ => rfl
theorem bi_law_draws {K : PySem.W.Frag} {f : Addr} {fd : FuncData} (F : FunD K "_law_draws" "_law_draws" (defArgs s_law_draws) (defBody s_law_draws) (defScope s_law_draws) [] [] f fd) : ∃ ws ds, Vals ws ds ∧ (∀ B, RepL K B [] ws) ∧ Binds K fd P_law_draws ds := bi_N F fun _ _ _ _ _ _ us hl => match us, hl with
  | [_], _ => rfl
theorem bi_law_pick {K : PySem.W.Frag} {f : Addr} {fd : FuncData} (F : FunD K "_law_pick" "_law_pick" (defArgs s_law_pick) (defBody s_law_pick) (defScope s_law_pick) [] [] f fd) : ∃ ws ds, Vals ws ds ∧ (∀ B, RepL K B [] ws) ∧ Binds K fd P_law_pick ds := bi_N F fun _ _ _ _ _ _ us hl => match us, hl with
  | [_, _], _ => rfl
theorem bi_law_say {K : PySem.W.Frag} {f : Addr} {fd : FuncData} (F : FunD K "_law_say" "_law_say" (defArgs s_law_say) (defBody s_law_say) (defScope s_law_say) [] [] f fd) : ∃ ws ds, Vals ws ds ∧ (∀ B, RepL K B [] ws) ∧ Binds K fd P_law_say ds := bi_N F fun _ _ _ _ _ _ us hl => match us, hl with
  | [_, _], _ => rfl
theorem bi_law_all {K : PySem.W.Frag} {f : Addr} {fd : FuncData} (F : FunD K "_law_all" "_law_all" (defArgs s_law_all) (defBody s_law_all) (defScope s_law_all) [] [] f fd) : ∃ ws ds, Vals ws ds ∧ (∀ B, RepL K B [] ws) ∧ Binds K fd P_law_all ds := bi_N F fun _ _ _ _ _ _ us hl => match us, hl with
  | [_], _ => rfl
theorem bi_law_closed {K : PySem.W.Frag} {f : Addr} {fd : FuncData} (F : FunD K "_law_closed" "_law_closed" (defArgs s_law_closed) (defBody s_law_closed) (defScope s_law_closed) [] [] f fd) : ∃ ws ds, Vals ws ds ∧ (∀ B, RepL K B [] ws) ∧ Binds K fd P_law_closed ds := bi_N F fun _ _ _ _ _ _ us hl => match us, hl with
  | [_], _ => rfl
theorem bi_law_behind {K : PySem.W.Frag} {f : Addr} {fd : FuncData} (F : FunD K "_law_behind" "_law_behind" (defArgs s_law_behind) (defBody s_law_behind) (defScope s_law_behind) [] [] f fd) : ∃ ws ds, Vals ws ds ∧ (∀ B, RepL K B [] ws) ∧ Binds K fd P_law_behind ds := bi_N F fun _ _ _ _ _ _ us hl => match us, hl with
  | [_, _], _ => rfl
theorem bi_law_ahead {K : PySem.W.Frag} {f : Addr} {fd : FuncData} (F : FunD K "_law_ahead" "_law_ahead" (defArgs s_law_ahead) (defBody s_law_ahead) (defScope s_law_ahead) [] [] f fd) : ∃ ws ds, Vals ws ds ∧ (∀ B, RepL K B [] ws) ∧ Binds K fd P_law_ahead ds := bi_N F fun _ _ _ _ _ _ us hl => match us, hl with
  | [_, _], _ => rfl
theorem bi_law_close {K : PySem.W.Frag} {f : Addr} {fd : FuncData} (F : FunD K "_law_close" "_law_close" (defArgs s_law_close) (defBody s_law_close) (defScope s_law_close) [] [] f fd) : ∃ ws ds, Vals ws ds ∧ (∀ B, RepL K B [] ws) ∧ Binds K fd P_law_close ds := bi_N F fun _ _ _ _ _ _ us hl => match us, hl with
  | [_, _], _ => rfl
theorem bi_law_pair {K : PySem.W.Frag} {f : Addr} {fd : FuncData} (F : FunD K "_law_pair" "_law_pair" (defArgs s_law_pair) (defBody s_law_pair) (defScope s_law_pair) [] [] f fd) : ∃ ws ds, Vals ws ds ∧ (∀ B, RepL K B [] ws) ∧ Binds K fd P_law_pair ds := bi_N F fun _ _ _ _ _ _ us hl => match us, hl with
  | [_, _, _], _ => rfl
theorem bi_law_same {K : PySem.W.Frag} {f : Addr} {fd : FuncData} (F : FunD K "_law_same" "_law_same" (defArgs s_law_same) (defBody s_law_same) (defScope s_law_same) [] [] f fd) : ∃ ws ds, Vals ws ds ∧ (∀ B, RepL K B [] ws) ∧ Binds K fd P_law_same ds := bi_N F fun _ _ _ _ _ _ us hl => match us, hl with
  | [_, _], _ => rfl
theorem bi_law_world {K : PySem.W.Frag} {f : Addr} {fd : FuncData} (F : FunD K "_law_world" "_law_world" (defArgs s_law_world) (defBody s_law_world) (defScope s_law_world) [] [] f fd) : ∃ ws ds, Vals ws ds ∧ (∀ B, RepL K B [] ws) ∧ Binds K fd P_law_world ds := bi_N F fun _ _ _ _ _ _ us hl => match us, hl with
  | [_], _ => rfl
theorem bi_law_hops {K : PySem.W.Frag} {f : Addr} {fd : FuncData} (F : FunD K "_law_hops" "_law_hops" (defArgs s_law_hops) (defBody s_law_hops) (defScope s_law_hops) [] [] f fd) : ∃ ws ds, Vals ws ds ∧ (∀ B, RepL K B [] ws) ∧ Binds K fd P_law_hops ds := bi_N F fun _ _ _ _ _ _ us hl => match us, hl with
  | [_, _, _], _ => rfl
theorem bi_law_paper {K : PySem.W.Frag} {f : Addr} {fd : FuncData} (F : FunD K "_law_paper" "_law_paper" (defArgs s_law_paper) (defBody s_law_paper) (defScope s_law_paper) [] [] f fd) : ∃ ws ds, Vals ws ds ∧ (∀ B, RepL K B [] ws) ∧ Binds K fd P_law_paper ds := bi_N F fun _ _ _ _ _ _ us hl => match us, hl with
  | [_, _], _ => rfl
theorem bi_law_next {K : PySem.W.Frag} {f : Addr} {fd : FuncData} (F : FunD K "_law_next" "_law_next" (defArgs s_law_next) (defBody s_law_next) (defScope s_law_next) [] [] f fd) : ∃ ws ds, Vals ws ds ∧ (∀ B, RepL K B [] ws) ∧ Binds K fd P_law_next ds := bi_N F fun _ _ _ _ _ _ us hl => match us, hl with
  | [_, _], _ => rfl
theorem bi_law_ends {K : PySem.W.Frag} {f : Addr} {fd : FuncData} (F : FunD K "_law_ends" "_law_ends" (defArgs s_law_ends) (defBody s_law_ends) (defScope s_law_ends) [] [] f fd) : ∃ ws ds, Vals ws ds ∧ (∀ B, RepL K B [] ws) ∧ Binds K fd P_law_ends ds := bi_N F fun _ _ _ _ _ _ us hl => match us, hl with
  | [_, _], _ => rfl
theorem bi_law_entry_fits {K : PySem.W.Frag} {f : Addr} {fd : FuncData} (F : FunD K "_law_entry_fits" "_law_entry_fits" (defArgs s_law_entry_fits) (defBody s_law_entry_fits) (defScope s_law_entry_fits) [] [] f fd) : ∃ ws ds, Vals ws ds ∧ (∀ B, RepL K B [] ws) ∧ Binds K fd P_law_entry_fits ds := bi_N F fun _ _ _ _ _ _ us hl => match us, hl with
  | [_, _, _, _], _ => rfl
theorem bi_law_fits {K : PySem.W.Frag} {f : Addr} {fd : FuncData} (F : FunD K "_law_fits" "_law_fits" (defArgs s_law_fits) (defBody s_law_fits) (defScope s_law_fits) [] [] f fd) : ∃ ws ds, Vals ws ds ∧ (∀ B, RepL K B [] ws) ∧ Binds K fd P_law_fits ds := bi_N F fun _ _ _ _ _ _ us hl => match us, hl with
  | [_, _, _], _ => rfl
theorem bi_law_told {K : PySem.W.Frag} {f : Addr} {fd : FuncData} (F : FunD K "_law_told" "_law_told" (defArgs s_law_told) (defBody s_law_told) (defScope s_law_told) [] [] f fd) : ∃ ws ds, Vals ws ds ∧ (∀ B, RepL K B [] ws) ∧ Binds K fd P_law_told ds := bi_N F fun _ _ _ _ _ _ us hl => match us, hl with
  | [_, _, _, _], _ => rfl
theorem bi_law_chained {K : PySem.W.Frag} {f : Addr} {fd : FuncData} (F : FunD K "_law_chained" "_law_chained" (defArgs s_law_chained) (defBody s_law_chained) (defScope s_law_chained) [] [] f fd) : ∃ ws ds, Vals ws ds ∧ (∀ B, RepL K B [] ws) ∧ Binds K fd P_law_chained ds := bi_N F fun _ _ _ _ _ _ us hl => match us, hl with
  | [_, _, _], _ => rfl
theorem bi_law_row {K : PySem.W.Frag} {f : Addr} {fd : FuncData} (F : FunD K "_law_row" "_law_row" (defArgs s_law_row) (defBody s_law_row) (defScope s_law_row) [] [] f fd) : ∃ ws ds, Vals ws ds ∧ (∀ B, RepL K B [] ws) ∧ Binds K fd P_law_row ds := bi_N F fun _ _ _ _ _ _ us hl => match us, hl with
  | [_, _, _], _ => rfl
theorem bi_law_rich {K : PySem.W.Frag} {f : Addr} {fd : FuncData} (F : FunD K "_law_rich" "_law_rich" (defArgs s_law_rich) (defBody s_law_rich) (defScope s_law_rich) [] [] f fd) : ∃ ws ds, Vals ws ds ∧ (∀ B, RepL K B [] ws) ∧ Binds K fd P_law_rich ds := bi_N F fun _ _ _ _ _ _ us hl => match us, hl with
  | [_, _, _], _ => rfl
theorem bi_law_walk {K : PySem.W.Frag} {f : Addr} {fd : FuncData} (F : FunD K "_law_walk" "_law_walk" (defArgs s_law_walk) (defBody s_law_walk) (defScope s_law_walk) [] [] f fd) : ∃ ws ds, Vals ws ds ∧ (∀ B, RepL K B [] ws) ∧ Binds K fd P_law_walk ds := bi_N F fun _ _ _ _ _ _ us hl => match us, hl with
  | [_, _, _, _, _, _], _ => rfl
theorem bi_law_walks {K : PySem.W.Frag} {f : Addr} {fd : FuncData} (F : FunD K "_law_walks" "_law_walks" (defArgs s_law_walks) (defBody s_law_walks) (defScope s_law_walks) [] [] f fd) : ∃ ws ds, Vals ws ds ∧ (∀ B, RepL K B [] ws) ∧ Binds K fd P_law_walks ds := bi_N F fun _ _ _ _ _ _ us hl => match us, hl with
  | [_, _, _], _ => rfl
theorem bi_law_bent {K : PySem.W.Frag} {f : Addr} {fd : FuncData} (F : FunD K "_law_bent" "_law_bent" (defArgs s_law_bent) (defBody s_law_bent) (defScope s_law_bent) [] [] f fd) : ∃ ws ds, Vals ws ds ∧ (∀ B, RepL K B [] ws) ∧ Binds K fd P_law_bent ds := bi_N F fun _ _ _ _ _ _ us hl => match us, hl with
  | [_, _, _, _], _ => rfl
theorem bi_law_holds {K : PySem.W.Frag} {f : Addr} {fd : FuncData} (F : FunD K "_law_holds" "_law_holds" (defArgs s_law_holds) (defBody s_law_holds) (defScope s_law_holds) [] [] f fd) : ∃ ws ds, Vals ws ds ∧ (∀ B, RepL K B [] ws) ∧ Binds K fd P_law_holds ds := bi_N F fun _ _ _ _ _ _ us hl => match us, hl with
  | [_, _, _, _, _], _ => rfl
theorem bi_law_pair_holds {K : PySem.W.Frag} {f : Addr} {fd : FuncData} (F : FunD K "_law_pair_holds" "_law_pair_holds" (defArgs s_law_pair_holds) (defBody s_law_pair_holds) (defScope s_law_pair_holds) [] [] f fd) : ∃ ws ds, Vals ws ds ∧ (∀ B, RepL K B [] ws) ∧ Binds K fd P_law_pair_holds ds := bi_N F fun _ _ _ _ _ _ us hl => match us, hl with
  | [_, _, _, _, _], _ => rfl
theorem bi_law_long_row {K : PySem.W.Frag} {f : Addr} {fd : FuncData} (F : FunD K "_law_long_row" "_law_long_row" (defArgs s_law_long_row) (defBody s_law_long_row) (defScope s_law_long_row) [] [] f fd) : ∃ ws ds, Vals ws ds ∧ (∀ B, RepL K B [] ws) ∧ Binds K fd P_law_long_row ds := bi_N F fun _ _ _ _ _ _ us hl => match us, hl with
  | [_], _ => rfl
theorem bi_law {K : PySem.W.Frag} {f : Addr} {fd : FuncData} (F : FunD K "law" "law" (defArgs s_law) (defBody s_law) (defScope s_law) [] [] f fd) : ∃ ws ds, Vals ws ds ∧ (∀ B, RepL K B [] ws) ∧ Binds K fd P_law ds := bi_N F fun _ _ _ _ _ _ us hl => match us, hl with
  | [_], _ => rfl
def b_hopped : DS := (dSeq (dIf (dBinT fLt (dBin fIx (dVar 1) (dC (.int 0))) (dBin fIx (dVar 2) (dC (.int 0)))) (dRet (dTup (lCons (dVar 1) (lCons (dBin fIx (dBin fIx (dVar 0) (dBin fIx (dVar 2) (dC (.int 0)))) (dC (.int 1))) lNil)))) dNext)
      (dRet (dTup (lCons (dBin fIx (dBin fIx (dVar 0) (dBin fIx (dVar 1) (dC (.int 0)))) (dC (.int 2))) (lCons (dVar 2) lNil)))))
theorem q_hopped {P : Program} {w : World} {K : PySem.W.Frag} {mg : Str → Option Value} {base : Heap} {PL : PoolP} {f : Addr}  {cdv : Value} {A : Around} {outer : List Env} {s : Shared} {H : Hp} {E : XK} (hr : Room 0 (A.deeper (envOfC "_hopped" (defScope s_hopped) s.heap.objs.size f cdv))) : QSs (cxOf CX0 P w K mg base N_hopped "_hopped" (defScope s_hopped) f cdv A outer s H E).nox PL (defBody s_hopped) b_hopped := by
  delta b_hopped
  exact (qss_cons (qs_if (qt_cmp op_lt opd_lt (qe_ix ix_seq opd_ix (qe_var (pv 1)) qe_int (fun _ _ => rfl)) (qe_ix ix_seq opd_ix (qe_var (pv 2)) qe_int (fun _ _ => rfl)) (nomark _)) (qss_one (qs_ret (qe_tup (ql_cons (qe_var (pv 1)) (ql_cons (qe_ix ix_seq opd_ix (qe_ix ix_seq opd_ix (qe_var (pv 0)) (qe_ix ix_seq opd_ix (qe_var (pv 2)) qe_int (fun _ _ => rfl)) (fun _ _ => rfl)) qe_int (fun _ _ => rfl)) ql_nil))))) qss_nil)
      (qss_one (qs_ret (qe_tup (ql_cons (qe_ix ix_seq opd_ix (qe_ix ix_seq opd_ix (qe_var (pv 0)) (qe_ix ix_seq opd_ix (qe_var (pv 1)) qe_int (fun _ _ => rfl)) (fun _ _ => rfl)) qe_int (fun _ _ => rfl)) (ql_cons (qe_var (pv 2)) ql_nil))))))
def l_hops_of1 : DS := (dSeq (dAsgG (gT 2 (gsCons (gN 1) (gsCons (gN 2) gsNil))) (dCall P_hopped.length F_hopped [] (vCons (dVar 0) (vCons (dVar 1) (vCons (dVar 2) vNil)))))
      (dDrop (dMeth 3 mAppend (lCons (dTup (lCons (dVar 1) (lCons (dVar 2) lNil))) lNil))))
def t_hops_of2 : DS := (dRet (dCB fTuple (aCons (dVar 3) aNil)))
def b_hops_of : DS := (dSeq (dAsg 3 (dLst (lCons (dTup (lCons (dVar 1) (lCons (dVar 2) lNil))) lNil)))
      (dSeq (dWhile (dBinT fNe (dBin fIx (dVar 1) (dC (.int 0))) (dBin fIx (dVar 2) (dC (.int 0)))) l_hops_of1)
      t_hops_of2))
theorem q_hops_of {P : Program} {w : World} {K : PySem.W.Frag} {mg : Str → Option Value} {base : Heap} {PL : PoolP} {f : Addr} (D_hopped : Def P w K mg base PL CX0 1 "_hopped" s_hopped [] [] P_hopped F_hopped) (z_tuple : mg "tuple" = none) {cdv : Value} {A : Around} {outer : List Env} {s : Shared} {H : Hp} {E : XK} (hr : Room 1 (A.deeper (envOfC "hops_of" (defScope s_hops_of) s.heap.objs.size f cdv))) : QSs (cxOf CX0 P w K mg base N_hops_of "hops_of" (defScope s_hops_of) f cdv A outer s H E).nox PL (defBody s_hops_of) b_hops_of := by
  delta b_hops_of t_hops_of2 l_hops_of1
  exact (qss_cons (qs_set (i := 3) (qe_lst (ql_cons (qe_tup (ql_cons (qe_var (pv 1)) (ql_cons (qe_var (pv 2)) ql_nil))) ql_nil)) sc_hops_of.nd rfl (Or.inl rfl))
      (qss_cons (qs_while (qt_cmp (opr_ne hr.units) opd_ne (qe_ix ix_seq opd_ix (qe_var (pv 1)) qe_int (fun _ _ => rfl)) (qe_ix ix_seq opd_ix (qe_var (pv 2)) qe_int (fun _ _ => rfl)) (nomark _)) (qss_cons (qs_asg (qe_call D_hopped rfl rfl rfl rfl rfl bi_hopped (qv_cons (qe_var (pv 0)) (qv_cons (qe_var (pv 1)) (qv_cons (qe_var (pv 2)) qv_nil))) (hr.mono (by decide)) (by rfl) pass0) (qg_tup rfl (qgs_cons (qg_name (i := 1) sc_hops_of.nd rfl (Or.inl rfl)) (qgs_cons (qg_name (i := 2) sc_hops_of.nd rfl (Or.inl rfl)) qgs_nil))))
      (qss_one (qs_expr (qe_meth (T := "list") PySem.F.plainAttrs_list PySem.F.slot_list_append PySem.F.type_list_append mt_append mut_append (pv 3) (ql_cons (qe_tup (ql_cons (qe_var (pv 1)) (ql_cons (qe_var (pv 2)) ql_nil))) ql_nil))))) PassesOwn.never)
      (qss_one (qs_ret (qe_cty call_tuple_of cd_tuple (by rfl) z_tuple (by decide +kernel) (qa_cons (qe_var (pv 3)) qa_nil))))))
def b_chain_paper : DS := (dRet (dCB fTuple (aCons (dLc (dZip2 (lCons (dVar 1) (lCons (dSlT (dVar 1) (dPart (dC (.int 1))) dNoPart) lNil))) (gT 2 (gsCons (gN 2) (gsCons (gN 3) gsNil))) dYes (dCall P_hops_of.length F_hops_of [] (vCons (dVar 0) (vCons (dVar 2) (vCons (dVar 3) vNil)))) [2, 3]) aNil)))
theorem q_chain_paper {P : Program} {w : World} {K : PySem.W.Frag} {mg : Str → Option Value} {base : Heap} {PL : PoolP} {f : Addr} (D_hops_of : Def P w K mg base PL CX0 2 "hops_of" s_hops_of [] [] P_hops_of F_hops_of) (z_tuple : mg "tuple" = none) (z_zip : mg "zip" = none) {cdv : Value} {A : Around} {outer : List Env} {s : Shared} {H : Hp} {E : XK} (hr : Room 2 (A.deeper (envOfC "chain_paper" (defScope s_chain_paper) s.heap.objs.size f cdv))) : QSs (cxOf CX0 P w K mg base N_chain_paper "chain_paper" (defScope s_chain_paper) f cdv A outer s H E).nox PL (defBody s_chain_paper) b_chain_paper := by
  delta b_chain_paper
  exact (qss_one (qs_ret (qe_cty call_tuple_of cd_tuple (by rfl) z_tuple (by decide +kernel) (qa_cons (qe_lc (own := [("one", 2), ("other", 3)]) (qi_zip2 (ql_cons (qe_var (pv 1)) (ql_cons (qe_slT (qe_var (pv 1)) (qo_some qe_int) qo_none) ql_nil)) (by rfl) z_zip) (ng_tup (ngs_cons (ng_name (i := 2) (by decide)) (ngs_cons (ng_name (i := 3) (by decide)) ngs_nil))) rfl sc_chain_paper.nd (blkOk_by (N := N_chain_paper) (sc := defScope s_chain_paper) (by decide +kernel)) (fun _ _ _ _ _ => (pg_tup rfl (pgs_cons (pg_name (i := 2) sc_chain_paper.nd rfl (Or.inl rfl)) (pgs_cons (pg_name (i := 3) sc_chain_paper.nd rfl (Or.inl rfl)) pgs_nil)))) (fun _ _ _ _ _ => qts_nil) (fun _ _ _ _ _ => (qe_call D_hops_of rfl rfl rfl rfl rfl bi_hops_of (qv_cons (qe_var (pv 0)) (qv_cons (qe_var (pv 2)) (qv_cons (qe_var (pv 3)) qv_nil))) (hr.mono (by decide)) (by rfl) pass0))) qa_nil))))
def t_exchanges1 : DS := (dRet (dVar 4))
def t_exchanges2 : DS := (dSeq (dIf (dBinT fGe (dBin fIx (dVar 2) (dC (.int 0))) (dC (.int 1))) (dDrop (dMeth 4 mAppend (lCons (dTup (lCons (dBin fIx (dBin fIx (dVar 0) (dBin fIx (dVar 2) (dC (.int 0)))) (dC (.int 2))) (lCons (dVar 3) lNil))) lNil))) dNext)
      t_exchanges1)
def b_exchanges : DS := (dSeq (dAsgG (gT 2 (gsCons (gN 2) (gsCons (gN 3) gsNil))) (dVar 1))
      (dSeq (dAsg 4 (dLst lNil))
      (dSeq (dIf (dBinT fGe (dBin fIx (dVar 3) (dC (.int 0))) (dC (.int 1))) (dDrop (dMeth 4 mAppend (lCons (dTup (lCons (dVar 2) (lCons (dBin fIx (dBin fIx (dVar 0) (dBin fIx (dVar 3) (dC (.int 0)))) (dC (.int 1))) lNil))) lNil))) dNext)
      t_exchanges2)))
theorem q_exchanges {P : Program} {w : World} {K : PySem.W.Frag} {mg : Str → Option Value} {base : Heap} {PL : PoolP} {f : Addr}  {cdv : Value} {A : Around} {outer : List Env} {s : Shared} {H : Hp} {E : XK} (hr : Room 0 (A.deeper (envOfC "_exchanges" (defScope s_exchanges) s.heap.objs.size f cdv))) : QSs (cxOf CX0 P w K mg base N_exchanges "_exchanges" (defScope s_exchanges) f cdv A outer s H E).nox PL (defBody s_exchanges) b_exchanges := by
  delta b_exchanges t_exchanges2 t_exchanges1
  exact (qss_cons (qs_asg (qe_var (pv 1)) (qg_tup rfl (qgs_cons (qg_name (i := 2) sc_exchanges.nd rfl (Or.inl rfl)) (qgs_cons (qg_name (i := 3) sc_exchanges.nd rfl (Or.inl rfl)) qgs_nil))))
      (qss_cons (qs_set (i := 4) (qe_lst ql_nil) sc_exchanges.nd rfl (Or.inl rfl))
      (qss_cons (qs_if (qt_cmp op_ge opd_ge (qe_ix ix_seq opd_ix (qe_var (pv 3)) qe_int (fun _ _ => rfl)) qe_int (nomark _)) (qss_one (qs_expr (qe_meth (T := "list") PySem.F.plainAttrs_list PySem.F.slot_list_append PySem.F.type_list_append mt_append mut_append (pv 4) (ql_cons (qe_tup (ql_cons (qe_var (pv 2)) (ql_cons (qe_ix ix_seq opd_ix (qe_ix ix_seq opd_ix (qe_var (pv 0)) (qe_ix ix_seq opd_ix (qe_var (pv 3)) qe_int (fun _ _ => rfl)) (fun _ _ => rfl)) qe_int (fun _ _ => rfl)) ql_nil))) ql_nil)))) qss_nil)
      (qss_cons (qs_if (qt_cmp op_ge opd_ge (qe_ix ix_seq opd_ix (qe_var (pv 2)) qe_int (fun _ _ => rfl)) qe_int (nomark _)) (qss_one (qs_expr (qe_meth (T := "list") PySem.F.plainAttrs_list PySem.F.slot_list_append PySem.F.type_list_append mt_append mut_append (pv 4) (ql_cons (qe_tup (ql_cons (qe_ix ix_seq opd_ix (qe_ix ix_seq opd_ix (qe_var (pv 0)) (qe_ix ix_seq opd_ix (qe_var (pv 2)) qe_int (fun _ _ => rfl)) (fun _ _ => rfl)) qe_int (fun _ _ => rfl)) (ql_cons (qe_var (pv 3)) ql_nil))) ql_nil)))) qss_nil)
      (qss_one (qs_ret (qe_var (pv 4))))))))
def l_entry_fits1 : DS := (dIf (dBinT (fInD true) (dVar 5) (dCall P_exchanges.length F_exchanges [] (vCons (dVar 0) (vCons (dVar 4) vNil)))) (dRet (dC (.bl false))) dNext)
def t_entry_fits2 : DS := (dSeq (dAsgG (gT 2 (gsCons (gN 1) (gsCons (gN 2) gsNil))) (dBin fIx (dVar 3) (dUn fNeg (dC (.int 1)))))
      (dSeq (dIf (dBinT fNe (dBin fIx (dVar 1) (dC (.int 0))) (dBin fIx (dVar 2) (dC (.int 0)))) (dRet (dC (.bl false))) dNext)
      (dRet (dOrV (dBin fLt (dBin fIx (dVar 1) (dC (.int 1))) (dBin fIx (dVar 2) (dC (.int 1)))) (dAndV (dBin fEq (dBin fIx (dVar 1) (dC (.int 1))) (dBin fIx (dVar 2) (dC (.int 1)))) (dBin fGe (dCB fLen (aCons (dVar 3) aNil)) (dC (.int 2))))))))
def t_entry_fits3 : DS := (dSeq (dFor (dZip2 (lCons (dVar 3) (lCons (dSlT (dVar 3) (dPart (dC (.int 1))) dNoPart) lNil))) (gT 2 (gsCons (gN 4) (gsCons (gN 5) gsNil))) l_entry_fits1)
      t_entry_fits2)
def b_entry_fits : DS := (dSeq (dIf (dOr (dBinT fEq (dCB fLen (aCons (dVar 3) aNil)) (dC (.int 0))) (dBinT fNe (dBin fIx (dVar 3) (dC (.int 0))) (dTup (lCons (dVar 1) (lCons (dVar 2) lNil))))) (dRet (dC (.bl false))) dNext)
      t_entry_fits3)
theorem q_entry_fits {P : Program} {w : World} {K : PySem.W.Frag} {mg : Str → Option Value} {base : Heap} {PL : PoolP} {f : Addr} (D_exchanges : Def P w K mg base PL CX0 1 "_exchanges" s_exchanges [] [] P_exchanges F_exchanges) (z_len : mg "len" = none) (z_zip : mg "zip" = none) {cdv : Value} {A : Around} {outer : List Env} {s : Shared} {H : Hp} {E : XK} (hr : Room 1 (A.deeper (envOfC "_entry_fits" (defScope s_entry_fits) s.heap.objs.size f cdv))) : QSs (cxOf CX0 P w K mg base N_entry_fits "_entry_fits" (defScope s_entry_fits) f cdv A outer s H E).nox PL (defBody s_entry_fits) b_entry_fits := by
  delta b_entry_fits t_entry_fits3 t_entry_fits2 l_entry_fits1
  exact (qss_cons (qs_if (QW.t (qw_or (qt_cmp (opr_eq hr.units) opd_eq (qe_cb cr_lenA cd_len (by rfl) z_len (by decide +kernel) (qa_cons (qe_var (pv 3)) qa_nil)) qe_int (nomark _)) (qw_or1 (qt_cmp (opr_ne hr.units) opd_ne (qe_ix ix_seq opd_ix (qe_var (pv 3)) qe_int (fun _ _ => rfl)) (qe_tup (ql_cons (qe_var (pv 1)) (ql_cons (qe_var (pv 2)) ql_nil))) (nomark _))))) (qss_one (qs_ret qe_bl)) qss_nil)
      (qss_cons (qs_for (qi_zip2 (ql_cons (qe_var (pv 3)) (ql_cons (qe_slT (qe_var (pv 3)) (qo_some qe_int) qo_none) ql_nil)) (by rfl) z_zip) (qg_tup rfl (qgs_cons (qg_name (i := 4) sc_entry_fits.nd rfl (Or.inl rfl)) (qgs_cons (qg_name (i := 5) sc_entry_fits.nd rfl (Or.inl rfl)) qgs_nil))) (qss_one (qs_if (qt_cmp (op_notInD hr.units65) opd_notInD (qe_var (pv 5)) (qe_call D_exchanges rfl rfl rfl rfl rfl bi_exchanges (qv_cons (qe_var (pv 0)) (qv_cons (qe_var (pv 4)) qv_nil)) (hr.mono (by decide)) (by rfl) pass0) rfl) (qss_one (qs_ret qe_bl)) qss_nil)) PassesOwn.never rfl)
      (qss_cons (qs_asg (qe_ix ix_seq opd_ix (qe_var (pv 3)) (qe_un un_neg und_neg qe_int) (fun _ _ => rfl)) (qg_tup rfl (qgs_cons (qg_name (i := 1) sc_entry_fits.nd rfl (Or.inl rfl)) (qgs_cons (qg_name (i := 2) sc_entry_fits.nd rfl (Or.inl rfl)) qgs_nil))))
      (qss_cons (qs_if (qt_cmp (opr_ne hr.units) opd_ne (qe_ix ix_seq opd_ix (qe_var (pv 1)) qe_int (fun _ _ => rfl)) (qe_ix ix_seq opd_ix (qe_var (pv 2)) qe_int (fun _ _ => rfl)) (nomark _)) (qss_one (qs_ret qe_bl)) qss_nil)
      (qss_one (qs_ret (qe_or (qe_cmp op_lt opd_lt (qe_ix ix_seq opd_ix (qe_var (pv 1)) qe_int (fun _ _ => rfl)) (qe_ix ix_seq opd_ix (qe_var (pv 2)) qe_int (fun _ _ => rfl)) (nomark _)) (qe_one (qe_and (qe_cmp (opr_eq hr.units) opd_eq (qe_ix ix_seq opd_ix (qe_var (pv 1)) qe_int (fun _ _ => rfl)) (qe_ix ix_seq opd_ix (qe_var (pv 2)) qe_int (fun _ _ => rfl)) (nomark _)) (qe_one (qe_cmp op_ge opd_ge (qe_cb cr_lenA cd_len (by rfl) z_len (by decide +kernel) (qa_cons (qe_var (pv 3)) qa_nil)) qe_int (nomark _))))))))))))
def l_chain_fits1 : DS := (dIf (dNot (dTru (dCall P_entry_fits.length F_entry_fits [] (vCons (dVar 0) (vCons (dVar 3) (vCons (dVar 4) (vCons (dVar 5) vNil))))))) (dRet (dC (.bl false))) dNext)
def t_chain_fits2 : DS := (dRet (dC (.bl true)))
def t_chain_fits3 : DS := (dSeq (dFor (dZip3 (lCons (dVar 1) (lCons (dSlT (dVar 1) (dPart (dC (.int 1))) dNoPart) (lCons (dVar 2) lNil)))) (gT 3 (gsCons (gN 3) (gsCons (gN 4) (gsCons (gN 5) gsNil)))) l_chain_fits1)
      t_chain_fits2)
def b_chain_fits : DS := (dSeq (dIf (dBinT fNe (dCB fLen (aCons (dVar 2) aNil)) (dCB fMax2 (aCons (dC (.int 0)) (aCons (dBin fSub (dCB fLen (aCons (dVar 1) aNil)) (dC (.int 1))) aNil)))) (dRet (dC (.bl false))) dNext)
      t_chain_fits3)
theorem q_chain_fits {P : Program} {w : World} {K : PySem.W.Frag} {mg : Str → Option Value} {base : Heap} {PL : PoolP} {f : Addr} (D_entry_fits : Def P w K mg base PL CX0 2 "_entry_fits" s_entry_fits [] [] P_entry_fits F_entry_fits) (z_len : mg "len" = none) (z_max : mg "max" = none) (z_zip : mg "zip" = none) {cdv : Value} {A : Around} {outer : List Env} {s : Shared} {H : Hp} {E : XK} (hr : Room 2 (A.deeper (envOfC "chain_fits" (defScope s_chain_fits) s.heap.objs.size f cdv))) : QSs (cxOf CX0 P w K mg base N_chain_fits "chain_fits" (defScope s_chain_fits) f cdv A outer s H E).nox PL (defBody s_chain_fits) b_chain_fits := by
  delta b_chain_fits t_chain_fits3 t_chain_fits2 l_chain_fits1
  exact (qss_cons (qs_if (qt_cmp (opr_ne hr.units) opd_ne (qe_cb cr_lenA cd_len (by rfl) z_len (by decide +kernel) (qa_cons (qe_var (pv 2)) qa_nil)) (qe_cb (call_max2 rfl) cd_max2 (by rfl) z_max (by decide +kernel) (qa_cons qe_int (qa_cons (qe_op op_sub opd_sub (qe_cb cr_lenA cd_len (by rfl) z_len (by decide +kernel) (qa_cons (qe_var (pv 1)) qa_nil)) qe_int) qa_nil))) (nomark _)) (qss_one (qs_ret qe_bl)) qss_nil)
      (qss_cons (qs_for (qi_zip3 (ql_cons (qe_var (pv 1)) (ql_cons (qe_slT (qe_var (pv 1)) (qo_some qe_int) qo_none) (ql_cons (qe_var (pv 2)) ql_nil))) (by rfl) z_zip) (qg_tup rfl (qgs_cons (qg_name (i := 3) sc_chain_fits.nd rfl (Or.inl rfl)) (qgs_cons (qg_name (i := 4) sc_chain_fits.nd rfl (Or.inl rfl)) (qgs_cons (qg_name (i := 5) sc_chain_fits.nd rfl (Or.inl rfl)) qgs_nil)))) (qss_one (qs_if (qt_not (qt_val (qe_call D_entry_fits rfl rfl rfl rfl rfl bi_entry_fits (qv_cons (qe_var (pv 0)) (qv_cons (qe_var (pv 3)) (qv_cons (qe_var (pv 4)) (qv_cons (qe_var (pv 5)) qv_nil)))) (hr.mono (by decide)) (by rfl) pass0))) (qss_one (qs_ret qe_bl)) qss_nil)) PassesOwn.never rfl)
      (qss_one (qs_ret qe_bl))))
theorem raw_law_draws {P : Program} {w : World} {K : PySem.W.Frag} {mg : Str → Option Value} {base : Heap} {qual : Str} {f : Addr} {fd : FuncData} (Fn : FunD K "_law_draws" qual (defArgs s_law_draws) (defBody s_law_draws) (defScope s_law_draws) [] [] f fd) (z_abs : mg "abs" = none) (z_int : mg "int" = none) : FnOk P w K mg base CX0 1 f fd P_law_draws (spC K boxPL P_law_draws.length F_boxNew) := by
  refine Fn.ok sc_law_draws (fun vs H Q E h => ?_) fun cdv A outer s H vs Q E hr h => ?_
  · obtain ⟨B, as, fs, R, h1, _, h3, _⟩ := h
    rw [← h3.1, h1]
  · obtain ⟨p, ns, rfl, hp, hl, fin⟩ := box_new h
    have nd := sc_law_draws.nd
    refine ⟨_, PSs.nox (pss_cons (ps_set (i := 1) nd rfl (Or.inl rfl) pe_int)
      (pss_cons (ps_set (i := 2) nd rfl (Or.inl rfl) (pe_lst pa_nil))
      (pss_cons (ps_for PassesOwn.never rfl (pi_list (pv 0)) (pg_name (i := 3) nd rfl (Or.inl rfl))
        (pss_cons (ps_set (i := 4) nd rfl (Or.inl rfl) (pe_callB call_abs (by rfl) z_abs (by decide +kernel) (pa_cons (pv 3) pa_nil)))
        (pss_cons (ps_set (i := 1) nd rfl (Or.inl rfl) (pe_op op_mod (pe_callTy call_int1 (by rfl) z_int (by decide +kernel) (pa_cons (pe_op op_add (pe_op op_add (pe_op op_add (pe_op op_mul (pv 1) pe_int) (pe_op op_mod (pe_callTy call_int1 (by rfl) z_int (by decide +kernel) (pa_cons (pv 4) pa_nil)) pe_int)) (pe_op op_mul pe_int (pe_callTy call_int1 (by rfl) z_int (by decide +kernel) (pa_cons (pe_cmpR op_lt (pv 3) pe_int (nomark _)) pa_nil)))) pe_int) pa_nil)) pe_int))
        (pss_one (ps_if (pt_cmpR op_ge (pv 4) pe_int (nomark _)) (pss_one (ps_expr (pe_bm PySem.F.plainAttrs_list PySem.F.slot_list_append PySem.F.type_list_append mt_append (pv 2) (pa_cons (pv 4) pa_nil)))) pss_nil)))))
      (pss_one (ps_ret (pe_lst (pa_cons (pv 1) (pa_cons (pv 2) pa_nil)))))))), ?_⟩
    refine ⟨by show 0 ≤ sizeLine; exact Nat.zero_le _, fun q hq => ?_⟩
    refine ⟨_, rfl, p, rfl, ⟨_, Same.seq (Same.new hq) hp⟩, for_list (xs := ns.map V.int) (fun k σ H1 => ∃ (st : Int) (hs : List Int) (v3 v4 : Option V), σ = [some (.ref p), some (.int st), some (.ref q), v3, v4] ∧ hs.length ≤ k ∧ H1 q = some (.lst (hs.map V.int)) ∧ ∀ x, x ≠ q → H1 x = H x) ?_ ?_ ?_ ?_⟩
    · exact ⟨_, [], _, _, rfl, Nat.le_refl _, upd_same, fun x hx => upd_ne hx⟩
    · rintro k σ H1 hk ⟨st, hs, v3, v4, rfl, h1, h2, h3⟩
      refine Same.seq (fun x o e => ?_) hp
      rw [h3 x (fun z => by rw [z, hq] at e; cases e)]
      exact e
    · rintro k x σ H1 hx ⟨st, hs, v3, v4, rfl, h1, h2, h3⟩
      have hkl := (List.getElem?_eq_some_iff.mp hx).1
      rw [List.length_map] at hkl
      rw [List.getElem?_map] at hx
      cases g : ns[k]? with
      | none => rw [g] at hx; cases hx
      | some n =>
      rw [g] at hx
      cases hx
      refine ⟨_, rfl, n, rfl, ?_⟩
      refine ⟨_, rfl, _, _, rfl, rfl, .inr ⟨by decide, by decide⟩, _, rfl, .inl ⟨_, rfl, _, _, rfl, rfl, (by show (0 : Int) < 2147483629; decide), _, _, rfl, rfl, _, rfl, _, _, rfl, rfl, .inr ⟨_, rfl, _, _, rfl, rfl, .inl ⟨by decide, by decide⟩, _, _, rfl, rfl, _, _, rfl, rfl, .inl ⟨_, rfl, _, _, rfl, rfl, (by show (0 : Int) < 2147483629; decide), ?_⟩⟩⟩⟩
      refine ⟨_, rfl, _, _, rfl, rfl, _, rfl, ite2 (fun _ => ?_) (fun _ => ?_)⟩
      · refine ⟨_, rfl, .inl ⟨rfl, _, SqL.of h2⟩, _, rfl, q, _, _, rfl, rfl, h2, by rw [List.length_map]; exact Nat.lt_of_lt_of_le (show hs.length < 10000000 by omega) (by rw [sizeLine_eq]; decide), ?_⟩
        refine ⟨_, hs ++ [if n < 0 then -n else n], _, _, rfl, by rw [List.length_append, List.length_singleton]; omega, ?_, fun x hx => ?_⟩
        · rw [upd_same, List.map_append]
          rfl
        · rw [upd_ne hx]
          exact h3 x hx
      · exact ⟨_, hs, _, _, rfl, by omega, h2, h3⟩
    · rintro σ H1 ⟨st, hs, v3, v4, rfl, h1, h2, h3⟩
      rw [List.length_map] at h1
      refine ⟨_, rfl, _, rfl, (by show 2 ≤ sizeLine; rw [sizeLine_eq]; decide), fun a ha => ?_⟩
      have haq : a ≠ q := fun e => by rw [e, h2] at ha; cases ha
      refine fin a q _ st hs haq ?_ hq upd_same ?_ h1 fun x hx hxq => ?_
      · rw [← h3 a haq]
        exact ha
      · rw [upd_ne (fun e => haq e.symm)]
        exact h2
      · rw [upd_ne hx]
        exact h3 x hxq

theorem raw_law_pick {P : Program} {w : World} {K : PySem.W.Frag} {mg : Str → Option Value} {base : Heap} {qual : Str} {f : Addr} {fd : FuncData} (Fn : FunD K "_law_pick" qual (defArgs s_law_pick) (defBody s_law_pick) (defScope s_law_pick) [] [] f fd) (z_len : mg "len" = none) (z_int : mg "int" = none) : FnOk P w K mg base CX0 1 f fd P_law_pick (spC K boxPL P_law_pick.length F_law_pick) := by
  refine Fn.ok sc_law_pick (fun vs H Q E h => ?_) fun cdv A outer s H vs Q E hr h => ?_
  · obtain ⟨B, as, fs, R, h1, _, h3, _⟩ := h
    rw [← h3.1, h1]
  · obtain ⟨a, bq, st, hs, m, rfl, hne, ha, hb, hm1, hm2, fin⟩ := box_pick h
    have nd := sc_law_pick.nd
    refine ⟨_, pss_cons (ps_set (i := 2) nd rfl (Or.inl rfl) (pe_ix ix_list (pv 0) pe_int (fun _ _ => rfl)))
      (pss_cons (ps_if (pt_cmpR op_gt (pe_callB call_len_seq (by rfl) z_len PySem.boot_len (pa_cons (pv 2) pa_nil)) pe_int (nomark _))
        (pss_cons (ps_set (i := 4) nd rfl (Or.inl rfl) (pe_ix ix_list (pv 2) pe_int (fun _ _ => rfl)))
          (pss_cons (ps_asg (pe_op op_fdiv (pv 4) (pv 1)) (pg_sub (pv 2) pe_int set_list))
          (pss_cons (ps_if (pt_cmpR op_eq (pe_ix ix_list (pv 2) pe_int (fun _ _ => rfl)) pe_int (nomark _))
            (pss_one (ps_expr (pe_bm PySem.F.plainAttrs_list PySem.F.slot_list_pop PySem.F.type_list_pop mt_popAt (pv 2) (pa_cons pe_int pa_nil)))) pss_nil)
          (pss_one (ps_ret (pe_op op_mod (pe_callTy call_int1 (by rfl) z_int (by decide +kernel) (pa_cons (pv 4) pa_nil)) (pv 1))))))) pss_nil)
      (pss_cons (ps_asg (pe_op op_mod (pe_callTy call_int1 (by rfl) z_int (by decide +kernel) (pa_cons (pe_op op_add (pe_op op_mul (pe_ix ix_list (pv 0) pe_int (fun _ _ => rfl)) pe_int) pe_int) pa_nil)) pe_int) (pg_sub (pv 0) pe_int set_list))
      (pss_cons (ps_set (i := 3) nd rfl (Or.inl rfl) (pe_op op_mod (pe_callTy call_int1 (by rfl) z_int (by decide +kernel) (pa_cons (pe_op op_mul (pe_ix ix_list (pv 0) pe_int (fun _ _ => rfl)) pe_int) pa_nil)) pe_int))
      (pss_one (ps_ret (pe_op op_mod (pe_callTy call_int1 (by rfl) z_int (by decide +kernel) (pa_cons (pe_op op_fdiv (pv 3) pe_int) pa_nil)) (pv 1))))))), ?_⟩
    have hba : bq ≠ a := fun e => hne e.symm
    refine ⟨_, rfl, a, _, 1, .ref bq, rfl, rfl, SqL.of ha, rfl, ?_⟩
    refine ⟨_, rfl, bq, _, rfl, .inl (SqL.of hb), _, _, rfl, rfl, _, rfl, ?_⟩
    refine ite2 (fun hp => ?_) (fun hp => ?_)
    · obtain ⟨x, hs, rfl⟩ : ∃ x l, hs = x :: l := by
        cases hs with
        | nil => simp at hp
        | cons x l => exact ⟨x, l, rfl⟩
      refine ⟨_, rfl, bq, _, 0, .int x, rfl, rfl, SqL.of hb, atI_nat (j := 0) rfl, ?_⟩
      refine ⟨_, rfl, _, rfl, _, _, rfl, rfl, ⟨by omega, by omega⟩, ?_⟩
      refine ⟨_, rfl, bq, _, 0, 0, rfl, rfl, hb, ixN_ok (m := 0) rfl (by simp), ?_⟩
      refine ⟨_, rfl, bq, _, 0, .int (x / m), rfl, rfl, SqL.of upd_same, atI_nat (j := 0) rfl, ?_⟩
      have hr0 := Int.emod_nonneg x (show m ≠ 0 by omega)
      have hr1 := Int.emod_lt_of_pos x (show 0 < m by omega)
      refine ⟨rfl, _, rfl, ite2 (fun hz => ?_) (fun hz => ?_)⟩
      · refine ⟨_, rfl, .inl ⟨rfl, _, SqL.of upd_same⟩, bq, _, 0, 0, _, rfl, rfl, upd_same, by omega, by omega, sx0 (by simp), rfl, ?_⟩
        refine ⟨_, rfl, .inl ⟨_, rfl, _, rfl, _, _, rfl, rfl, by omega, ?_⟩⟩
        refine fin _ _ st hs hr0 hr1 ?_ upd_same (by simp) fun y y1 y2 => ?_
        · rw [upd_ne hne, upd_ne hne]
          exact ha
        · rw [upd_ne y2, upd_ne y2]
      · refine ⟨_, rfl, .inl ⟨_, rfl, _, rfl, _, _, rfl, rfl, by omega, ?_⟩⟩
        refine fin _ _ st ((x / m) :: hs) hr0 hr1 ?_ upd_same (by simp) fun y y1 y2 => ?_
        · rw [upd_ne hne]
          exact ha
        · rw [upd_ne y2]
    · refine ⟨_, rfl, a, _, 0, .int st, rfl, rfl, SqL.of ha, atI_nat (j := 0) rfl, _, _, rfl, rfl, .inr ⟨by decide, by decide⟩, _, _, rfl, rfl, .inl ⟨_, rfl, _, _, rfl, rfl, (by show (0 : Int) < 2147483629; decide), ?_⟩⟩
      refine ⟨_, rfl, a, _, 0, 0, rfl, rfl, ha, ixN_ok (m := 0) rfl (by simp), ?_⟩
      refine ⟨_, rfl, a, _, 0, .int _, rfl, rfl, SqL.of upd_same, atI_nat (j := 0) rfl, _, _, rfl, rfl, .inr ⟨by decide, by decide⟩, .inl ⟨_, rfl, _, _, rfl, rfl, (by show (0 : Int) < 2147483399; decide), ?_⟩⟩
      refine ⟨_, rfl, _, _, rfl, rfl, ⟨by decide, by decide⟩, .inl ⟨_, rfl, _, rfl, _, _, rfl, rfl, by omega, ?_⟩⟩
      refine fin _ _ ((st * 27127 + 83003) % 2147483629) hs (Int.emod_nonneg _ (by omega)) (Int.emod_lt_of_pos _ (by omega)) upd_same ?_ (Nat.le_refl _) fun y y1 y2 => upd_ne y1
      rw [upd_ne hba]
      exact hb

def t_law_say1 : DS := (dRet (dMt fJoin (dC (.str [])) (aCons (dLc (dRng1 (lCons (dVar 3) lNil)) (gN 4) dYes (dBin fIx (dC (.str [97, 98, 10, 88, 32])) (dCall P_law_pick.length F_law_pick [] (vOwn 0 (vCons (dC (.int 5)) vNil)))) [4]) aNil)))
def b_law_say : DS := (dSeq (dAsg 2 (dC (.str [10, 32, 33, 34, 35, 36, 38, 39, 40, 41, 42, 43, 44, 45, 46, 47, 48, 49, 50, 51, 52, 53, 54, 55, 56, 57, 58, 59, 60, 61, 62, 63, 64, 65, 66, 67, 68, 69, 70, 71, 72, 73, 74, 75, 76, 77, 78, 79, 80, 81, 82, 83, 84, 85, 86, 87, 88, 89, 90, 91, 92, 93, 94, 95, 96])))
      (dSeq (dAsg 2 (dBin fAdd (dVar 2) (dC (.str [97, 98, 99, 100, 101, 102, 103, 104, 105, 106, 107, 108, 109, 110, 111, 112, 113, 114, 115, 116, 117, 118, 119, 120, 121, 122, 123, 124, 125, 126]))))
      (dSeq (dAsg 3 (dBin fAdd (dC (.int 1)) (dCall P_law_pick.length F_law_pick [] (vOwn 0 (vCons (dVar 1) vNil)))))
      (dSeq (dIf (dBinT fEq (dCall P_law_pick.length F_law_pick [] (vOwn 0 (vCons (dC (.int 3)) vNil))) (dC (.int 0))) (dRet (dMt fJoin (dC (.str [])) (aCons (dLc (dRng1 (lCons (dVar 3) lNil)) (gN 4) dYes (dBin fIx (dVar 2) (dCall P_law_pick.length F_law_pick [] (vOwn 0 (vCons (dC (.int 95)) vNil)))) [4]) aNil))) dNext)
      t_law_say1))))
theorem q_law_say {P : Program} {w : World} {K : PySem.W.Frag} {mg : Str → Option Value} {base : Heap} {PL : PoolP} {f : Addr} (D_law_pick : Def P w K mg base PL CX0 1 "_law_pick" s_law_pick [] [] P_law_pick F_law_pick) (z_range : mg "range" = none) {cdv : Value} {A : Around} {outer : List Env} {s : Shared} {H : Hp} {E : XK} (hr : Room 1 (A.deeper (envOfC "_law_say" (defScope s_law_say) s.heap.objs.size f cdv))) : QSs (cxOf CX0 P w K mg base N_law_say "_law_say" (defScope s_law_say) f cdv A outer s H E).nox PL (defBody s_law_say) b_law_say := by
  delta b_law_say t_law_say1
  exact (qss_cons (qs_set (i := 2) (qe_str [10, 32, 33, 34, 35, 36, 38, 39, 40, 41, 42, 43, 44, 45, 46, 47, 48, 49, 50, 51, 52, 53, 54, 55, 56, 57, 58, 59, 60, 61, 62, 63, 64, 65, 66, 67, 68, 69, 70, 71, 72, 73, 74, 75, 76, 77, 78, 79, 80, 81, 82, 83, 84, 85, 86, 87, 88, 89, 90, 91, 92, 93, 94, 95, 96] (by decide +kernel)) sc_law_say.nd rfl (Or.inr rfl))
      (qss_cons (qs_set (i := 2) (qe_op opr_add opd_add (qe_var (pv 2)) (qe_str [97, 98, 99, 100, 101, 102, 103, 104, 105, 106, 107, 108, 109, 110, 111, 112, 113, 114, 115, 116, 117, 118, 119, 120, 121, 122, 123, 124, 125, 126] (by decide +kernel))) sc_law_say.nd rfl (Or.inr rfl))
      (qss_cons (qs_set (i := 3) (qe_op opr_add opd_add qe_int (qe_call D_law_pick rfl rfl rfl rfl rfl bi_law_pick (qv_own (pv 0) (qv_cons (qe_var (pv 1)) qv_nil)) (hr.mono (by decide)) (by rfl) pass0)) sc_law_say.nd rfl (Or.inl rfl))
      (qss_cons (qs_if (qt_cmp (opr_eq hr.units) opd_eq (qe_call D_law_pick rfl rfl rfl rfl rfl bi_law_pick (qv_own (pv 0) (qv_cons qe_int qv_nil)) (hr.mono (by decide)) (by rfl) pass0) qe_int (nomark _)) (qss_one (qs_ret (qe_mt PySem.F.plainAttrs_str PySem.F.slot_str_join PySem.F.type_str_join mt_join mtd_join (qe_str [] (by decide +kernel)) (qa_cons (qe_lc (own := [("k", 4)]) (qi_rng1 (ql_cons (qe_var (pv 3)) ql_nil) (by rfl) z_range) (ng_name (i := 4) (by decide)) rfl sc_law_say.nd (blkOk_by (N := N_law_say) (sc := defScope s_law_say) (by decide +kernel)) (fun _ _ _ _ _ => (pg_name (i := 4) sc_law_say.nd rfl (Or.inl rfl))) (fun _ _ _ _ _ => qts_nil) (fun _ _ _ _ _ => (qe_ix ix_seq opd_ix (qe_var (pv 2)) (qe_call D_law_pick rfl rfl rfl rfl rfl bi_law_pick (qv_own (pv 0) (qv_cons qe_int qv_nil)) (hr.mono (by decide)) (by rfl) pass0) (fun _ _ => rfl)))) qa_nil)))) qss_nil)
      (qss_one (qs_ret (qe_mt PySem.F.plainAttrs_str PySem.F.slot_str_join PySem.F.type_str_join mt_join mtd_join (qe_str [] (by decide +kernel)) (qa_cons (qe_lc (own := [("k", 4)]) (qi_rng1 (ql_cons (qe_var (pv 3)) ql_nil) (by rfl) z_range) (ng_name (i := 4) (by decide)) rfl sc_law_say.nd (blkOk_by (N := N_law_say) (sc := defScope s_law_say) (by decide +kernel)) (fun _ _ _ _ _ => (pg_name (i := 4) sc_law_say.nd rfl (Or.inl rfl))) (fun _ _ _ _ _ => qts_nil) (fun _ _ _ _ _ => (qe_ix ix_seq opd_ix (qe_str [97, 98, 10, 88, 32] (by decide +kernel)) (qe_call D_law_pick rfl rfl rfl rfl rfl bi_law_pick (qv_own (pv 0) (qv_cons qe_int qv_nil)) (hr.mono (by decide)) (by rfl) pass0) (fun _ _ => rfl)))) qa_nil))))))))
def l_law_all1 : DS := (dDrop (dMeth 1 mAppend (lCons (dTup (lCons (dVar 2) (lCons (dVar 3) lNil))) lNil)))
def l_law_all2 : DS := (dFor (dRng1 (lCons (dCB fLen (aCons (dBin fIx (dBin fIx (dVar 0) (dVar 2)) (dC (.int 3))) aNil)) lNil)) (gN 3) l_law_all1)
def t_law_all3 : DS := (dRet (dVar 1))
def b_law_all : DS := (dSeq (dAsg 1 (dLst (lCons (dTup (lCons (dC (.int 0)) (lCons (dC (.int 0)) lNil))) (lCons (dTup (lCons (dC (.int 0)) (lCons (dC (.int 1)) lNil))) lNil))))
      (dSeq (dFor (dRng2 (lCons (dC (.int 1)) (lCons (dCB fLen (aCons (dVar 0) aNil)) lNil))) (gN 2) l_law_all2)
      t_law_all3))
theorem q_law_all {P : Program} {w : World} {K : PySem.W.Frag} {mg : Str → Option Value} {base : Heap} {PL : PoolP} {f : Addr} (z_len : mg "len" = none) (z_range : mg "range" = none) {cdv : Value} {A : Around} {outer : List Env} {s : Shared} {H : Hp} {E : XK} (hr : Room 0 (A.deeper (envOfC "_law_all" (defScope s_law_all) s.heap.objs.size f cdv))) : QSs (cxOf CX0 P w K mg base N_law_all "_law_all" (defScope s_law_all) f cdv A outer s H E).nox PL (defBody s_law_all) b_law_all := by
  delta b_law_all t_law_all3 l_law_all2 l_law_all1
  exact (qss_cons (qs_set (i := 1) (qe_lst (ql_cons (qe_tup (ql_cons qe_int (ql_cons qe_int ql_nil))) (ql_cons (qe_tup (ql_cons qe_int (ql_cons qe_int ql_nil))) ql_nil))) sc_law_all.nd rfl (Or.inl rfl))
      (qss_cons (qs_for (qi_rng2 (ql_cons qe_int (ql_cons (qe_cb cr_lenA cd_len (by rfl) z_len (by decide +kernel) (qa_cons (qe_var (pv 0)) qa_nil)) ql_nil)) (by rfl) z_range) (qg_name (i := 2) sc_law_all.nd rfl (Or.inl rfl)) (qss_one (qs_for (qi_rng1 (ql_cons (qe_cb cr_lenA cd_len (by rfl) z_len (by decide +kernel) (qa_cons (qe_ix ix_seq opd_ix (qe_ix ix_seq opd_ix (qe_var (pv 0)) (qe_var (pv 2)) (fun _ _ => rfl)) qe_int (fun _ _ => rfl)) qa_nil)) ql_nil) (by rfl) z_range) (qg_name (i := 3) sc_law_all.nd rfl (Or.inl rfl)) (qss_one (qs_expr (qe_meth (T := "list") PySem.F.plainAttrs_list PySem.F.slot_list_append PySem.F.type_list_append mt_append mut_append (pv 1) (ql_cons (qe_tup (ql_cons (qe_var (pv 2)) (ql_cons (qe_var (pv 3)) ql_nil))) ql_nil)))) PassesOwn.never rfl)) PassesOwn.never rfl)
      (qss_one (qs_ret (qe_var (pv 1))))))
def l_law_closed1 : DS := (dDrop (dMeth 2 mAppend (lCons (dTup (lCons (dBin fAdd (dVar 7) (dVar 8)) (lCons (dBin fAdd (dBin fAdd (dVar 7) (dVar 8)) (dC (.int 1))) lNil))) lNil)))
def t_law_closed2 : DS := (dDrop (dMeth 2 mAppend (lCons (dTup (lCons (dBin fSub (dBin fAdd (dVar 7) (dVar 6)) (dC (.int 1))) (lCons (dMeth 1 mIndexD (lCons (dBin fIx (dBin fIx (dVar 0) (dVar 3)) (dC (.int 2))) lNil)) lNil))) lNil)))
def l_law_closed3 : DS := (dSeq (dAsg 6 (dCB fLen (aCons (dBin fIx (dBin fIx (dVar 0) (dVar 3)) (dC (.int 3))) aNil)))
      (dSeq (dAsg 7 (dMeth 1 mIndexD (lCons (dTup (lCons (dVar 3) (lCons (dC (.int 0)) lNil))) lNil)))
      (dSeq (dDrop (dMeth 2 mAppend (lCons (dTup (lCons (dMeth 1 mIndexD (lCons (dBin fIx (dBin fIx (dVar 0) (dVar 3)) (dC (.int 1))) lNil)) (lCons (dVar 7) lNil))) lNil)))
      (dSeq (dFor (dRng1 (lCons (dBin fSub (dVar 6) (dC (.int 1))) lNil)) (gN 8) l_law_closed1)
      t_law_closed2))))
def l_law_closed4 : DS := (dSeq (dAsg 12 (dBin fOr (dBin fOr (dBin fIx (dVar 4) (dVar 10)) (dBin fShl (dC (.int 1)) (dVar 11))) (dBin fIx (dVar 4) (dVar 11))))
      (dIf (dBinT fNe (dVar 12) (dBin fIx (dVar 4) (dVar 10))) (dSeq (dSetIx 4 (dVar 10) (dVar 12))
      (dAsg 9 (dC (.bl false)))) dNext))
def t_law_closed5 : DS := (dIf (dTru (dVar 9)) dBreak dNext)
def l_law_closed6 : DS := (dSeq (dAsg 9 (dC (.bl true)))
      (dSeq (dFor (dItems (dVar 2)) (gT 2 (gsCons (gN 10) (gsCons (gN 11) gsNil))) l_law_closed4)
      t_law_closed5))
def t_law_closed7 : DS := (dRet (dVar 4))
def t_law_closed8 : DS := (dSeq (dAsg 4 (dLc (dItems (dVar 1)) (gN 13) dYes (dC (.int 0)) [13]))
      (dSeq (dFor (dRng1 (lCons (dBin fAdd (dCB fLen (aCons (dVar 2) aNil)) (dC (.int 1))) lNil)) (gN 5) l_law_closed6)
      t_law_closed7))
def b_law_closed : DS := (dSeq (dAsg 1 (dCall P_law_all.length F_law_all [] (vCons (dVar 0) vNil)))
      (dSeq (dAsg 2 (dLst (lCons (dTup (lCons (dC (.int 0)) (lCons (dC (.int 1)) lNil))) lNil)))
      (dSeq (dFor (dRng2 (lCons (dC (.int 1)) (lCons (dCB fLen (aCons (dVar 0) aNil)) lNil))) (gN 3) l_law_closed3)
      t_law_closed8)))
theorem q_law_closed {P : Program} {w : World} {K : PySem.W.Frag} {mg : Str → Option Value} {base : Heap} {PL : PoolP} {f : Addr} (D_law_all : Def P w K mg base PL CX0 1 "_law_all" s_law_all [] [] P_law_all F_law_all) (z_len : mg "len" = none) (z_range : mg "range" = none) {cdv : Value} {A : Around} {outer : List Env} {s : Shared} {H : Hp} {E : XK} (hr : Room 1 (A.deeper (envOfC "_law_closed" (defScope s_law_closed) s.heap.objs.size f cdv))) : QSs (cxOf CX0 P w K mg base N_law_closed "_law_closed" (defScope s_law_closed) f cdv A outer s H E).nox PL (defBody s_law_closed) b_law_closed := by
  delta b_law_closed t_law_closed8 t_law_closed7 l_law_closed6 t_law_closed5 l_law_closed4 l_law_closed3 t_law_closed2 l_law_closed1
  exact (qss_cons (qs_set (i := 1) (qe_call D_law_all rfl rfl rfl rfl rfl bi_law_all (qv_cons (qe_var (pv 0)) qv_nil) (hr.mono (by decide)) (by rfl) pass0) sc_law_closed.nd rfl (Or.inl rfl))
      (qss_cons (qs_set (i := 2) (qe_lst (ql_cons (qe_tup (ql_cons qe_int (ql_cons qe_int ql_nil))) ql_nil)) sc_law_closed.nd rfl (Or.inl rfl))
      (qss_cons (qs_for (qi_rng2 (ql_cons qe_int (ql_cons (qe_cb cr_lenA cd_len (by rfl) z_len (by decide +kernel) (qa_cons (qe_var (pv 0)) qa_nil)) ql_nil)) (by rfl) z_range) (qg_name (i := 3) sc_law_closed.nd rfl (Or.inl rfl)) (qss_cons (qs_set (i := 6) (qe_cb cr_lenA cd_len (by rfl) z_len (by decide +kernel) (qa_cons (qe_ix ix_seq opd_ix (qe_ix ix_seq opd_ix (qe_var (pv 0)) (qe_var (pv 3)) (fun _ _ => rfl)) qe_int (fun _ _ => rfl)) qa_nil)) sc_law_closed.nd rfl (Or.inl rfl))
      (qss_cons (qs_set (i := 7) (qe_meth (T := "list") PySem.F.plainAttrs_list PySem.F.slot_list_index PySem.F.type_list_index (mt_indexD hr.units65) mut_indexD (pv 1) (ql_cons (qe_tup (ql_cons (qe_var (pv 3)) (ql_cons qe_int ql_nil))) ql_nil)) sc_law_closed.nd rfl (Or.inl rfl))
      (qss_cons (qs_expr (qe_meth (T := "list") PySem.F.plainAttrs_list PySem.F.slot_list_append PySem.F.type_list_append mt_append mut_append (pv 2) (ql_cons (qe_tup (ql_cons (qe_meth (T := "list") PySem.F.plainAttrs_list PySem.F.slot_list_index PySem.F.type_list_index (mt_indexD hr.units65) mut_indexD (pv 1) (ql_cons (qe_ix ix_seq opd_ix (qe_ix ix_seq opd_ix (qe_var (pv 0)) (qe_var (pv 3)) (fun _ _ => rfl)) qe_int (fun _ _ => rfl)) ql_nil)) (ql_cons (qe_var (pv 7)) ql_nil))) ql_nil)))
      (qss_cons (qs_for (qi_rng1 (ql_cons (qe_op op_sub opd_sub (qe_var (pv 6)) qe_int) ql_nil) (by rfl) z_range) (qg_name (i := 8) sc_law_closed.nd rfl (Or.inl rfl)) (qss_one (qs_expr (qe_meth (T := "list") PySem.F.plainAttrs_list PySem.F.slot_list_append PySem.F.type_list_append mt_append mut_append (pv 2) (ql_cons (qe_tup (ql_cons (qe_op opr_add opd_add (qe_var (pv 7)) (qe_var (pv 8))) (ql_cons (qe_op opr_add opd_add (qe_op opr_add opd_add (qe_var (pv 7)) (qe_var (pv 8))) qe_int) ql_nil))) ql_nil)))) PassesOwn.never rfl)
      (qss_one (qs_expr (qe_meth (T := "list") PySem.F.plainAttrs_list PySem.F.slot_list_append PySem.F.type_list_append mt_append mut_append (pv 2) (ql_cons (qe_tup (ql_cons (qe_op op_sub opd_sub (qe_op opr_add opd_add (qe_var (pv 7)) (qe_var (pv 6))) qe_int) (ql_cons (qe_meth (T := "list") PySem.F.plainAttrs_list PySem.F.slot_list_index PySem.F.type_list_index (mt_indexD hr.units65) mut_indexD (pv 1) (ql_cons (qe_ix ix_seq opd_ix (qe_ix ix_seq opd_ix (qe_var (pv 0)) (qe_var (pv 3)) (fun _ _ => rfl)) qe_int (fun _ _ => rfl)) ql_nil)) ql_nil))) ql_nil)))))))) PassesOwn.never rfl)
      (qss_cons (qs_setLc (i := 4) (own := [("k", 13)]) (qi_any (qe_var (pv 1))) (ng_name (i := 13) (by decide)) rfl sc_law_closed.nd rfl rfl (sw_true rfl rfl rfl (by decide +kernel)) (blkOk_by (N := N_law_closed) (sc := defScope s_law_closed) (by decide +kernel)) (fun _ _ _ _ _ => (pg_name (i := 13) sc_law_closed.nd rfl (Or.inl rfl))) (fun _ _ _ _ _ => qts_nil) (fun _ _ _ _ _ => qe_int))
      (qss_cons (qs_for (qi_rng1 (ql_cons (qe_op opr_add opd_add (qe_cb cr_lenA cd_len (by rfl) z_len (by decide +kernel) (qa_cons (qe_var (pv 2)) qa_nil)) qe_int) ql_nil) (by rfl) z_range) (qg_name (i := 5) sc_law_closed.nd rfl (Or.inl rfl)) (qss_cons (qs_set (i := 9) qe_bl sc_law_closed.nd rfl (Or.inl rfl))
      (qss_cons (qs_for (qi_any (qe_var (pv 2))) (qg_tup rfl (qgs_cons (qg_name (i := 10) sc_law_closed.nd rfl (Or.inl rfl)) (qgs_cons (qg_name (i := 11) sc_law_closed.nd rfl (Or.inl rfl)) qgs_nil))) (qss_cons (qs_set (i := 12) (qe_op op_or opd_or' (qe_op op_or opd_or' (qe_ix ix_seq opd_ix (qe_var (pv 4)) (qe_var (pv 10)) (fun _ _ => rfl)) (qe_op op_shl opd_shl qe_int (qe_var (pv 11)))) (qe_ix ix_seq opd_ix (qe_var (pv 4)) (qe_var (pv 11)) (fun _ _ => rfl))) sc_law_closed.nd rfl (Or.inl rfl))
      (qss_one (qs_if (qt_cmp (opr_ne hr.units) opd_ne (qe_var (pv 12)) (qe_ix ix_seq opd_ix (qe_var (pv 4)) (qe_var (pv 10)) (fun _ _ => rfl)) (nomark _)) (qss_cons (qs_setIx (qe_var (pv 12)) (pv 4) (qe_var (pv 10)))
      (qss_one (qs_set (i := 9) qe_bl sc_law_closed.nd rfl (Or.inl rfl)))) qss_nil))) PassesOwn.never rfl)
      (qss_one (qs_if (qt_val (qe_var (pv 9))) (qss_one qs_break) qss_nil)))) PassesOwn.never rfl)
      (qss_one (qs_ret (qe_var (pv 4)))))))))
def b_law_behind : DS := (dRet (dLc (dRng1 (lCons (dCB fLen (aCons (dVar 0) aNil)) lNil)) (gN 2) (dBinT fEq (dBin fAnd (dBin fShr (dBin fIx (dVar 0) (dVar 1)) (dVar 2)) (dC (.int 1))) (dC (.int 1))) (dVar 2) [2]))
theorem q_law_behind {P : Program} {w : World} {K : PySem.W.Frag} {mg : Str → Option Value} {base : Heap} {PL : PoolP} {f : Addr} (z_len : mg "len" = none) (z_range : mg "range" = none) {cdv : Value} {A : Around} {outer : List Env} {s : Shared} {H : Hp} {E : XK} (hr : Room 0 (A.deeper (envOfC "_law_behind" (defScope s_law_behind) s.heap.objs.size f cdv))) : QSs (cxOf CX0 P w K mg base N_law_behind "_law_behind" (defScope s_law_behind) f cdv A outer s H E).nox PL (defBody s_law_behind) b_law_behind := by
  delta b_law_behind
  exact (qss_one (qs_ret (qe_lc (own := [("k", 2)]) (qi_rng1 (ql_cons (qe_cb cr_lenA cd_len (by rfl) z_len (by decide +kernel) (qa_cons (qe_var (pv 0)) qa_nil)) ql_nil) (by rfl) z_range) (ng_name (i := 2) (by decide)) rfl sc_law_behind.nd (blkOk_by (N := N_law_behind) (sc := defScope s_law_behind) (by decide +kernel)) (fun _ _ _ _ _ => (pg_name (i := 2) sc_law_behind.nd rfl (Or.inl rfl))) (fun _ _ _ _ _ => (qts_one (qt_cmp (opr_eq hr.units) opd_eq (qe_op op_and opd_and (qe_op op_shr opd_shr (qe_ix ix_seq opd_ix (qe_var (pv 0)) (qe_var (pv 1)) (fun _ _ => rfl)) (qe_var (pv 2))) qe_int) qe_int (nomark _)))) (fun _ _ _ _ _ => (qe_var (pv 2))))))
def b_law_ahead : DS := (dRet (dLc (dRng1 (lCons (dCB fLen (aCons (dVar 0) aNil)) lNil)) (gN 2) (dBinT fEq (dBin fAnd (dBin fShr (dBin fIx (dVar 0) (dVar 2)) (dVar 1)) (dC (.int 1))) (dC (.int 1))) (dVar 2) [2]))
theorem q_law_ahead {P : Program} {w : World} {K : PySem.W.Frag} {mg : Str → Option Value} {base : Heap} {PL : PoolP} {f : Addr} (z_len : mg "len" = none) (z_range : mg "range" = none) {cdv : Value} {A : Around} {outer : List Env} {s : Shared} {H : Hp} {E : XK} (hr : Room 0 (A.deeper (envOfC "_law_ahead" (defScope s_law_ahead) s.heap.objs.size f cdv))) : QSs (cxOf CX0 P w K mg base N_law_ahead "_law_ahead" (defScope s_law_ahead) f cdv A outer s H E).nox PL (defBody s_law_ahead) b_law_ahead := by
  delta b_law_ahead
  exact (qss_one (qs_ret (qe_lc (own := [("k", 2)]) (qi_rng1 (ql_cons (qe_cb cr_lenA cd_len (by rfl) z_len (by decide +kernel) (qa_cons (qe_var (pv 0)) qa_nil)) ql_nil) (by rfl) z_range) (ng_name (i := 2) (by decide)) rfl sc_law_ahead.nd (blkOk_by (N := N_law_ahead) (sc := defScope s_law_ahead) (by decide +kernel)) (fun _ _ _ _ _ => (pg_name (i := 2) sc_law_ahead.nd rfl (Or.inl rfl))) (fun _ _ _ _ _ => (qts_one (qt_cmp (opr_eq hr.units) opd_eq (qe_op op_and opd_and (qe_op op_shr opd_shr (qe_ix ix_seq opd_ix (qe_var (pv 0)) (qe_var (pv 2)) (fun _ _ => rfl)) (qe_var (pv 1))) qe_int) qe_int (nomark _)))) (fun _ _ _ _ _ => (qe_var (pv 2))))))
def l_law_close1 : DS := (dIf (dBinT fEq (dCB fLen (aCons (dLc (dItems (dVar 2)) (gN 5) (dBinT fEq (dBin fAnd (dBin fShr (dBin fIx (dVar 0) (dVar 5)) (dVar 4)) (dC (.int 1))) (dC (.int 1))) (dVar 5) [5]) aNil)) (dC (.int 0))) (dDrop (dMeth 3 mAppend (lCons (dVar 4) lNil))) dNext)
def t_law_close2 : DS := (dRet (dVar 3))
def b_law_close : DS := (dSeq (dAsg 2 (dCall P_law_behind.length F_law_behind [] (vCons (dVar 0) (vCons (dVar 1) vNil))))
      (dSeq (dAsg 3 (dLst lNil))
      (dSeq (dFor (dItems (dVar 2)) (gN 4) l_law_close1)
      t_law_close2)))
theorem q_law_close {P : Program} {w : World} {K : PySem.W.Frag} {mg : Str → Option Value} {base : Heap} {PL : PoolP} {f : Addr} (D_law_behind : Def P w K mg base PL CX0 1 "_law_behind" s_law_behind [] [] P_law_behind F_law_behind) (z_len : mg "len" = none) {cdv : Value} {A : Around} {outer : List Env} {s : Shared} {H : Hp} {E : XK} (hr : Room 1 (A.deeper (envOfC "_law_close" (defScope s_law_close) s.heap.objs.size f cdv))) : QSs (cxOf CX0 P w K mg base N_law_close "_law_close" (defScope s_law_close) f cdv A outer s H E).nox PL (defBody s_law_close) b_law_close := by
  delta b_law_close t_law_close2 l_law_close1
  exact (qss_cons (qs_set (i := 2) (qe_call D_law_behind rfl rfl rfl rfl rfl bi_law_behind (qv_cons (qe_var (pv 0)) (qv_cons (qe_var (pv 1)) qv_nil)) (hr.mono (by decide)) (by rfl) pass0) sc_law_close.nd rfl (Or.inl rfl))
      (qss_cons (qs_set (i := 3) (qe_lst ql_nil) sc_law_close.nd rfl (Or.inl rfl))
      (qss_cons (qs_for (qi_any (qe_var (pv 2))) (qg_name (i := 4) sc_law_close.nd rfl (Or.inr rfl)) (qss_one (qs_if (qt_cmp (opr_eq hr.units) opd_eq (qe_cb cr_lenA cd_len (by rfl) z_len (by decide +kernel) (qa_cons (qe_lc (own := [("m", 5)]) (qi_any (qe_var (pv 2))) (ng_name (i := 5) (by decide)) rfl sc_law_close.nd (blkOk_by (N := N_law_close) (sc := defScope s_law_close) (by decide +kernel)) (fun _ _ _ _ _ => (pg_name (i := 5) sc_law_close.nd rfl (Or.inl rfl))) (fun _ _ _ _ _ => (qts_one (qt_cmp (opr_eq hr.units) opd_eq (qe_op op_and opd_and (qe_op op_shr opd_shr (qe_ix ix_seq opd_ix (qe_var (pv 0)) (qe_var (pv 5)) (fun _ _ => rfl)) (qe_var (pv 4))) qe_int) qe_int (nomark _)))) (fun _ _ _ _ _ => (qe_var (pv 5)))) qa_nil)) qe_int (nomark _)) (qss_one (qs_expr (qe_meth (T := "list") PySem.F.plainAttrs_list PySem.F.slot_list_append PySem.F.type_list_append mt_append mut_append (pv 3) (ql_cons (qe_var (pv 4)) ql_nil)))) qss_nil)) PassesOwn.never rfl)
      (qss_one (qs_ret (qe_var (pv 3)))))))
def t_law_pair1 : DS := (dIf (dBinT fGt (dCB fLen (aCons (dVar 5) aNil)) (dC (.int 0))) (dRet (dTup (lCons (dVar 6) (lCons (dBin fIx (dVar 5) (dCall P_law_pick.length F_law_pick [] (vOwn 0 (vCons (dCB fLen (aCons (dVar 5) aNil)) vNil)))) lNil)))) dNext)
def i_law_pair1 : DS := (dSeq (dAsg 6 (dBin fSub (dVar 3) (dC (.int 1))))
      (dSeq (dAsg 7 (dCall P_law_ahead.length F_law_ahead [] (vCons (dVar 1) (vCons (dVar 6) vNil))))
      (dSeq (dAsg 5 (dCall P_law_behind.length F_law_behind [] (vCons (dVar 1) (vCons (dVar 6) vNil))))
      (dSeq (dAsg 8 (dOrV (dBin fGt (dVar 2) (dC (.int 4))) (dBin fGt (dCall P_law_pick.length F_law_pick [] (vOwn 0 (vCons (dC (.int 3)) vNil))) (dC (.int 0)))))
      (dSeq (dIf (dAnd (dBinT fGt (dCB fLen (aCons (dVar 7) aNil)) (dC (.int 0))) (dOr (dBinT fEq (dVar 8) (dOrV (dBin fEq (dVar 2) (dC (.int 1))) (dBin fEq (dVar 2) (dC (.int 5))))) (dBinT fEq (dCB fLen (aCons (dVar 5) aNil)) (dC (.int 0))))) (dRet (dTup (lCons (dBin fIx (dVar 7) (dCall P_law_pick.length F_law_pick [] (vOwn 0 (vCons (dCB fLen (aCons (dVar 7) aNil)) vNil)))) (lCons (dVar 6) lNil)))) dNext)
      t_law_pair1)))))
def t_law_pair2 : DS := (dRet (dTup (lCons (dVar 4) (lCons (dBin fIx (dVar 5) (dCall P_law_pick.length F_law_pick [] (vOwn 0 (vCons (dCB fLen (aCons (dVar 5) aNil)) vNil)))) lNil))))
def t_law_pair3 : DS := (dSeq (dAsg 5 (dCall P_law_behind.length F_law_behind [] (vCons (dVar 1) (vCons (dVar 4) vNil))))
      (dSeq (dIf (dAnd (dBinT fEq (dVar 2) (dC (.int 2))) (dBinT fGt (dCall P_law_pick.length F_law_pick [] (vOwn 0 (vCons (dC (.int 3)) vNil))) (dC (.int 0)))) (dAsg 5 (dCall P_law_close.length F_law_close [] (vCons (dVar 1) (vCons (dVar 4) vNil)))) dNext)
      t_law_pair2))
def t_law_pair4 : DS := (dSeq (dAsg 4 (dCall P_law_pick.length F_law_pick [] (vOwn 0 (vCons (dVar 3) vNil))))
      (dSeq (dIf (dBinT fEq (dCB fLen (aCons (dCall P_law_behind.length F_law_behind [] (vCons (dVar 1) (vCons (dVar 4) vNil))) aNil)) (dC (.int 0))) (dAsg 4 (dC (.int 0))) dNext)
      t_law_pair3))
def t_law_pair5 : DS := (dSeq (dIf (dAnd (dBinT fEq (dVar 2) (dC (.int 3))) (dBinT fGt (dCall P_law_pick.length F_law_pick [] (vOwn 0 (vCons (dC (.int 4)) vNil))) (dC (.int 0)))) (dRet (dTup (lCons (dC (.int 0)) (lCons (dC (.int 1)) lNil)))) dNext)
      t_law_pair4)
def b_law_pair : DS := (dSeq (dAsg 3 (dCB fLen (aCons (dVar 1) aNil)))
      (dSeq (dIf (dOr (dBinT fGt (dVar 2) (dC (.int 4))) (dAnd (dOr (dBinT fEq (dVar 2) (dC (.int 1))) (dBinT fEq (dVar 2) (dC (.int 4)))) (dBinT fGt (dCall P_law_pick.length F_law_pick [] (vOwn 0 (vCons (dC (.int 4)) vNil))) (dC (.int 0))))) i_law_pair1 dNext)
      t_law_pair5))
theorem q_law_pair {P : Program} {w : World} {K : PySem.W.Frag} {mg : Str → Option Value} {base : Heap} {PL : PoolP} {f : Addr} (D_law_pick : Def P w K mg base PL CX0 1 "_law_pick" s_law_pick [] [] P_law_pick F_law_pick) (D_law_behind : Def P w K mg base PL CX0 1 "_law_behind" s_law_behind [] [] P_law_behind F_law_behind) (D_law_ahead : Def P w K mg base PL CX0 1 "_law_ahead" s_law_ahead [] [] P_law_ahead F_law_ahead) (D_law_close : Def P w K mg base PL CX0 2 "_law_close" s_law_close [] [] P_law_close F_law_close) (z_len : mg "len" = none) {cdv : Value} {A : Around} {outer : List Env} {s : Shared} {H : Hp} {E : XK} (hr : Room 2 (A.deeper (envOfC "_law_pair" (defScope s_law_pair) s.heap.objs.size f cdv))) : QSs (cxOf CX0 P w K mg base N_law_pair "_law_pair" (defScope s_law_pair) f cdv A outer s H E).nox PL (defBody s_law_pair) b_law_pair := by
  delta b_law_pair t_law_pair5 t_law_pair4 t_law_pair3 t_law_pair2 i_law_pair1 t_law_pair1
  exact (qss_cons (qs_set (i := 3) (qe_cb cr_lenA cd_len (by rfl) z_len (by decide +kernel) (qa_cons (qe_var (pv 1)) qa_nil)) sc_law_pair.nd rfl (Or.inl rfl))
      (qss_cons (qs_if (QW.t (qw_or (qt_cmp op_gt opd_gt (qe_var (pv 2)) qe_int (nomark _)) (qw_or1 (QW.t (qw_and (QW.t (qw_or (qt_cmp (opr_eq hr.units) opd_eq (qe_var (pv 2)) qe_int (nomark _)) (qw_or1 (qt_cmp (opr_eq hr.units) opd_eq (qe_var (pv 2)) qe_int (nomark _))))) (qw_and1 (qt_cmp op_gt opd_gt (qe_call D_law_pick rfl rfl rfl rfl rfl bi_law_pick (qv_own (pv 0) (qv_cons qe_int qv_nil)) (hr.mono (by decide)) (by rfl) pass0) qe_int (nomark _)))))))) (qss_cons (qs_set (i := 6) (qe_op op_sub opd_sub (qe_var (pv 3)) qe_int) sc_law_pair.nd rfl (Or.inl rfl))
      (qss_cons (qs_set (i := 7) (qe_call D_law_ahead rfl rfl rfl rfl rfl bi_law_ahead (qv_cons (qe_var (pv 1)) (qv_cons (qe_var (pv 6)) qv_nil)) (hr.mono (by decide)) (by rfl) pass0) sc_law_pair.nd rfl (Or.inl rfl))
      (qss_cons (qs_set (i := 5) (qe_call D_law_behind rfl rfl rfl rfl rfl bi_law_behind (qv_cons (qe_var (pv 1)) (qv_cons (qe_var (pv 6)) qv_nil)) (hr.mono (by decide)) (by rfl) pass0) sc_law_pair.nd rfl (Or.inl rfl))
      (qss_cons (qs_set (i := 8) (qe_or (qe_cmp op_gt opd_gt (qe_var (pv 2)) qe_int (nomark _)) (qe_one (qe_cmp op_gt opd_gt (qe_call D_law_pick rfl rfl rfl rfl rfl bi_law_pick (qv_own (pv 0) (qv_cons qe_int qv_nil)) (hr.mono (by decide)) (by rfl) pass0) qe_int (nomark _)))) sc_law_pair.nd rfl (Or.inl rfl))
      (qss_cons (qs_if (QW.t (qw_and (qt_cmp op_gt opd_gt (qe_cb cr_lenA cd_len (by rfl) z_len (by decide +kernel) (qa_cons (qe_var (pv 7)) qa_nil)) qe_int (nomark _)) (qw_and1 (QW.t (qw_or (qt_cmp (opr_eq hr.units) opd_eq (qe_var (pv 8)) (qe_or (qe_cmp (opr_eq hr.units) opd_eq (qe_var (pv 2)) qe_int (nomark _)) (qe_one (qe_cmp (opr_eq hr.units) opd_eq (qe_var (pv 2)) qe_int (nomark _)))) (nomark _)) (qw_or1 (qt_cmp (opr_eq hr.units) opd_eq (qe_cb cr_lenA cd_len (by rfl) z_len (by decide +kernel) (qa_cons (qe_var (pv 5)) qa_nil)) qe_int (nomark _)))))))) (qss_one (qs_ret (qe_tup (ql_cons (qe_ix ix_seq opd_ix (qe_var (pv 7)) (qe_call D_law_pick rfl rfl rfl rfl rfl bi_law_pick (qv_own (pv 0) (qv_cons (qe_cb cr_lenA cd_len (by rfl) z_len (by decide +kernel) (qa_cons (qe_var (pv 7)) qa_nil)) qv_nil)) (hr.mono (by decide)) (by rfl) pass0) (fun _ _ => rfl)) (ql_cons (qe_var (pv 6)) ql_nil))))) qss_nil)
      (qss_one (qs_if (qt_cmp op_gt opd_gt (qe_cb cr_lenA cd_len (by rfl) z_len (by decide +kernel) (qa_cons (qe_var (pv 5)) qa_nil)) qe_int (nomark _)) (qss_one (qs_ret (qe_tup (ql_cons (qe_var (pv 6)) (ql_cons (qe_ix ix_seq opd_ix (qe_var (pv 5)) (qe_call D_law_pick rfl rfl rfl rfl rfl bi_law_pick (qv_own (pv 0) (qv_cons (qe_cb cr_lenA cd_len (by rfl) z_len (by decide +kernel) (qa_cons (qe_var (pv 5)) qa_nil)) qv_nil)) (hr.mono (by decide)) (by rfl) pass0) (fun _ _ => rfl)) ql_nil))))) qss_nil))))))) qss_nil)
      (qss_cons (qs_if (QW.t (qw_and (qt_cmp (opr_eq hr.units) opd_eq (qe_var (pv 2)) qe_int (nomark _)) (qw_and1 (qt_cmp op_gt opd_gt (qe_call D_law_pick rfl rfl rfl rfl rfl bi_law_pick (qv_own (pv 0) (qv_cons qe_int qv_nil)) (hr.mono (by decide)) (by rfl) pass0) qe_int (nomark _))))) (qss_one (qs_ret (qe_tup (ql_cons qe_int (ql_cons qe_int ql_nil))))) qss_nil)
      (qss_cons (qs_set (i := 4) (qe_call D_law_pick rfl rfl rfl rfl rfl bi_law_pick (qv_own (pv 0) (qv_cons (qe_var (pv 3)) qv_nil)) (hr.mono (by decide)) (by rfl) pass0) sc_law_pair.nd rfl (Or.inl rfl))
      (qss_cons (qs_if (qt_cmp (opr_eq hr.units) opd_eq (qe_cb cr_lenA cd_len (by rfl) z_len (by decide +kernel) (qa_cons (qe_call D_law_behind rfl rfl rfl rfl rfl bi_law_behind (qv_cons (qe_var (pv 1)) (qv_cons (qe_var (pv 4)) qv_nil)) (hr.mono (by decide)) (by rfl) pass0) qa_nil)) qe_int (nomark _)) (qss_one (qs_set (i := 4) qe_int sc_law_pair.nd rfl (Or.inl rfl))) qss_nil)
      (qss_cons (qs_set (i := 5) (qe_call D_law_behind rfl rfl rfl rfl rfl bi_law_behind (qv_cons (qe_var (pv 1)) (qv_cons (qe_var (pv 4)) qv_nil)) (hr.mono (by decide)) (by rfl) pass0) sc_law_pair.nd rfl (Or.inl rfl))
      (qss_cons (qs_if (QW.t (qw_and (qt_cmp (opr_eq hr.units) opd_eq (qe_var (pv 2)) qe_int (nomark _)) (qw_and1 (qt_cmp op_gt opd_gt (qe_call D_law_pick rfl rfl rfl rfl rfl bi_law_pick (qv_own (pv 0) (qv_cons qe_int qv_nil)) (hr.mono (by decide)) (by rfl) pass0) qe_int (nomark _))))) (qss_one (qs_set (i := 5) (qe_call D_law_close rfl rfl rfl rfl rfl bi_law_close (qv_cons (qe_var (pv 1)) (qv_cons (qe_var (pv 4)) qv_nil)) (hr.mono (by decide)) (by rfl) pass0) sc_law_pair.nd rfl (Or.inl rfl))) qss_nil)
      (qss_one (qs_ret (qe_tup (ql_cons (qe_var (pv 4)) (ql_cons (qe_ix ix_seq opd_ix (qe_var (pv 5)) (qe_call D_law_pick rfl rfl rfl rfl rfl bi_law_pick (qv_own (pv 0) (qv_cons (qe_cb cr_lenA cd_len (by rfl) z_len (by decide +kernel) (qa_cons (qe_var (pv 5)) qa_nil)) qv_nil)) (hr.mono (by decide)) (by rfl) pass0) (fun _ _ => rfl)) ql_nil))))))))))))
def t_law_same1 (F_law_same' : FS) : DS := dBad
def i_law_same1 (F_law_same' : FS) : DS := (dSeq (dIf (dNot (dAnd (dTru (dIsi "dict" (dVar 0))) (dTru (dIsi "dict" (dVar 1))))) (dRet (dC (.bl false))) dNext)
      (t_law_same1 F_law_same'))
def l_law_same2 (F_law_same' : FS) : DS := (dIf (dNot (dTru (dCall P_law_same.length F_law_same' [] (vCons (dBin fIx (dVar 0) (dVar 2)) (vCons (dBin fIx (dVar 1) (dVar 2)) vNil))))) (dRet (dC (.bl false))) dNext)
def t_law_same3 (F_law_same' : FS) : DS := (dRet (dC (.bl true)))
def t_law_same4 (F_law_same' : FS) : DS := (dSeq (dFor (dRng1 (lCons (dCB fLen (aCons (dVar 0) aNil)) lNil)) (gN 2) (l_law_same2 F_law_same'))
      (t_law_same3 F_law_same'))
def t_law_same5 (F_law_same' : FS) : DS := (dSeq (dIf (dOr (dNot (dTru (dIsiT "tuple" "list" (dVar 0)))) (dBinT fNe (dCB fLen (aCons (dVar 0) aNil)) (dCB fLen (aCons (dVar 1) aNil)))) (dRet (dC (.bl false))) dNext)
      (t_law_same4 F_law_same'))
def t_law_same6 (F_law_same' : FS) : DS := (dSeq (dIf (dOr (dBinT fNe (dIsi "tuple" (dVar 0)) (dIsi "tuple" (dVar 1))) (dBinT fNe (dIsi "list" (dVar 0)) (dIsi "list" (dVar 1)))) (dRet (dC (.bl false))) dNext)
      (t_law_same5 F_law_same'))
def t_law_same7 (F_law_same' : FS) : DS := (dSeq (dIf (dOr (dTru (dIsi "dict" (dVar 0))) (dTru (dIsi "dict" (dVar 1)))) (i_law_same1 F_law_same') dNext)
      (t_law_same6 F_law_same'))
def t_law_same8 (F_law_same' : FS) : DS := (dSeq (dIf (dOr (dTru (dIsi "str" (dVar 0))) (dTru (dIsi "str" (dVar 1)))) (dRet (dAndV (dIsi "str" (dVar 0)) (dAndV (dIsi "str" (dVar 1)) (dBin fEq (dVar 0) (dVar 1))))) dNext)
      (t_law_same7 F_law_same'))
def t_law_same9 (F_law_same' : FS) : DS := (dSeq (dIf (dOr (dTru (dIsi "int" (dVar 0))) (dTru (dIsi "int" (dVar 1)))) (dRet (dAndV (dIsi "int" (dVar 0)) (dAndV (dIsi "int" (dVar 1)) (dBin fEq (dVar 0) (dVar 1))))) dNext)
      (t_law_same8 F_law_same'))
def t_law_same10 (F_law_same' : FS) : DS := (dSeq (dIf (dOr (dTru (dIsi "bool" (dVar 0))) (dTru (dIsi "bool" (dVar 1)))) (dRet (dAndV (dIsi "bool" (dVar 0)) (dAndV (dIsi "bool" (dVar 1)) (dBin fEq (dVar 0) (dVar 1))))) dNext)
      (t_law_same9 F_law_same'))
def b_law_same (F_law_same' : FS) : DS := (dSeq (dIf (dOr (dBinT (fIsN false) (dVar 0) (dC .non)) (dBinT (fIsN false) (dVar 1) (dC .non))) (dRet (dAndV (dBin (fIsN false) (dVar 0) (dC .non)) (dBin (fIsN false) (dVar 1) (dC .non)))) dNext)
      (t_law_same10 F_law_same'))
theorem q_law_same {P : Program} {w : World} {K : PySem.W.Frag} {mg : Str → Option Value} {base : Heap} {PL : PoolP} {k : Nat} {F_law_same' : FS} (hk : 0 ≤ k) {f : Addr} (D_law_same : Def P w K mg base PL CX0 k "_law_same" s_law_same [] [] P_law_same F_law_same') (z_bool : mg "bool" = none) (z_dict : mg "dict" = none) (z_int : mg "int" = none) (z_isinstance : mg "isinstance" = none) (z_len : mg "len" = none) (z_list : mg "list" = none) (z_range : mg "range" = none) (z_str : mg "str" = none) (z_tuple : mg "tuple" = none) {cdv : Value} {A : Around} {outer : List Env} {s : Shared} {H : Hp} {E : XK} (hr : Room k (A.deeper (envOfC "_law_same" (defScope s_law_same) s.heap.objs.size f cdv))) : QSs (cxOf CX0 P w K mg base N_law_same "_law_same" (defScope s_law_same) f cdv A outer s H E).nox PL (defBody s_law_same) (b_law_same F_law_same') := by
  delta b_law_same t_law_same10 t_law_same9 t_law_same8 t_law_same7 t_law_same6 t_law_same5 t_law_same4 t_law_same3 l_law_same2 i_law_same1 t_law_same1
  exact (qss_cons (qs_if (QW.t (qw_or (qt_cmp op_isN opd_isN (qe_var (pv 0)) qe_non (nomark _)) (qw_or1 (qt_cmp op_isN opd_isN (qe_var (pv 1)) qe_non (nomark _))))) (qss_one (qs_ret (qe_and (qe_cmp op_isN opd_isN (qe_var (pv 0)) qe_non (nomark _)) (qe_one (qe_cmp op_isN opd_isN (qe_var (pv 1)) qe_non (nomark _)))))) qss_nil)
      (qss_cons (qs_if (QW.t (qw_or (qt_val (qe_isi (T := "bool") (by decide +kernel) (by rfl) z_isinstance (by rfl) z_bool (by decide +kernel) (qe_var (pv 0)))) (qw_or1 (qt_val (qe_isi (T := "bool") (by decide +kernel) (by rfl) z_isinstance (by rfl) z_bool (by decide +kernel) (qe_var (pv 1))))))) (qss_one (qs_ret (qe_and (qe_isi (T := "bool") (by decide +kernel) (by rfl) z_isinstance (by rfl) z_bool (by decide +kernel) (qe_var (pv 0))) (qe_and (qe_isi (T := "bool") (by decide +kernel) (by rfl) z_isinstance (by rfl) z_bool (by decide +kernel) (qe_var (pv 1))) (qe_one (qe_cmp (opr_eq hr.units) opd_eq (qe_var (pv 0)) (qe_var (pv 1)) (nomark _))))))) qss_nil)
      (qss_cons (qs_if (QW.t (qw_or (qt_val (qe_isi (T := "int") (by decide +kernel) (by rfl) z_isinstance (by rfl) z_int (by decide +kernel) (qe_var (pv 0)))) (qw_or1 (qt_val (qe_isi (T := "int") (by decide +kernel) (by rfl) z_isinstance (by rfl) z_int (by decide +kernel) (qe_var (pv 1))))))) (qss_one (qs_ret (qe_and (qe_isi (T := "int") (by decide +kernel) (by rfl) z_isinstance (by rfl) z_int (by decide +kernel) (qe_var (pv 0))) (qe_and (qe_isi (T := "int") (by decide +kernel) (by rfl) z_isinstance (by rfl) z_int (by decide +kernel) (qe_var (pv 1))) (qe_one (qe_cmp (opr_eq hr.units) opd_eq (qe_var (pv 0)) (qe_var (pv 1)) (nomark _))))))) qss_nil)
      (qss_cons (qs_if (QW.t (qw_or (qt_val (qe_isi (T := "str") (by decide +kernel) (by rfl) z_isinstance (by rfl) z_str (by decide +kernel) (qe_var (pv 0)))) (qw_or1 (qt_val (qe_isi (T := "str") (by decide +kernel) (by rfl) z_isinstance (by rfl) z_str (by decide +kernel) (qe_var (pv 1))))))) (qss_one (qs_ret (qe_and (qe_isi (T := "str") (by decide +kernel) (by rfl) z_isinstance (by rfl) z_str (by decide +kernel) (qe_var (pv 0))) (qe_and (qe_isi (T := "str") (by decide +kernel) (by rfl) z_isinstance (by rfl) z_str (by decide +kernel) (qe_var (pv 1))) (qe_one (qe_cmp (opr_eq hr.units) opd_eq (qe_var (pv 0)) (qe_var (pv 1)) (nomark _))))))) qss_nil)
      (qss_cons (qs_if (QW.t (qw_or (qt_val (qe_isi (T := "dict") (by decide +kernel) (by rfl) z_isinstance (by rfl) z_dict (by decide +kernel) (qe_var (pv 0)))) (qw_or1 (qt_val (qe_isi (T := "dict") (by decide +kernel) (by rfl) z_isinstance (by rfl) z_dict (by decide +kernel) (qe_var (pv 1))))))) (qss_cons (qs_if (qt_not (QW.t (qw_and (qt_val (qe_isi (T := "dict") (by decide +kernel) (by rfl) z_isinstance (by rfl) z_dict (by decide +kernel) (qe_var (pv 0)))) (qw_and1 (qt_val (qe_isi (T := "dict") (by decide +kernel) (by rfl) z_isinstance (by rfl) z_dict (by decide +kernel) (qe_var (pv 1)))))))) (qss_one (qs_ret qe_bl)) qss_nil)
      (qss_one qs_bad)) qss_nil)
      (qss_cons (qs_if (QW.t (qw_or (qt_cmp (opr_ne hr.units) opd_ne (qe_isi (T := "tuple") (by decide +kernel) (by rfl) z_isinstance (by rfl) z_tuple (by decide +kernel) (qe_var (pv 0))) (qe_isi (T := "tuple") (by decide +kernel) (by rfl) z_isinstance (by rfl) z_tuple (by decide +kernel) (qe_var (pv 1))) (nomark _)) (qw_or1 (qt_cmp (opr_ne hr.units) opd_ne (qe_isi (T := "list") (by decide +kernel) (by rfl) z_isinstance (by rfl) z_list (by decide +kernel) (qe_var (pv 0))) (qe_isi (T := "list") (by decide +kernel) (by rfl) z_isinstance (by rfl) z_list (by decide +kernel) (qe_var (pv 1))) (nomark _))))) (qss_one (qs_ret qe_bl)) qss_nil)
      (qss_cons (qs_if (QW.t (qw_or (qt_not (qt_val (qe_isiT (T := "tuple") (U := "list") (by decide +kernel) (by decide +kernel) (by rfl) z_isinstance (by rfl) z_tuple (by decide +kernel) (by rfl) z_list (by decide +kernel) (qe_var (pv 0))))) (qw_or1 (qt_cmp (opr_ne hr.units) opd_ne (qe_cb cr_lenA cd_len (by rfl) z_len (by decide +kernel) (qa_cons (qe_var (pv 0)) qa_nil)) (qe_cb cr_lenA cd_len (by rfl) z_len (by decide +kernel) (qa_cons (qe_var (pv 1)) qa_nil)) (nomark _))))) (qss_one (qs_ret qe_bl)) qss_nil)
      (qss_cons (qs_for (qi_rng1 (ql_cons (qe_cb cr_lenA cd_len (by rfl) z_len (by decide +kernel) (qa_cons (qe_var (pv 0)) qa_nil)) ql_nil) (by rfl) z_range) (qg_name (i := 2) sc_law_same.nd rfl (Or.inl rfl)) (qss_one (qs_if (qt_not (qt_val (qe_call D_law_same rfl rfl rfl rfl rfl bi_law_same (qv_cons (qe_ix ix_seq opd_ix (qe_var (pv 0)) (qe_var (pv 2)) (fun _ _ => rfl)) (qv_cons (qe_ix ix_seq opd_ix (qe_var (pv 1)) (qe_var (pv 2)) (fun _ _ => rfl)) qv_nil)) hr (by rfl) pass0))) (qss_one (qs_ret qe_bl)) qss_nil)) PassesOwn.never rfl)
      (qss_one (qs_ret qe_bl))))))))))
def l_law_world1 : DS := (dSeq (dAsg 6 (dCall P_law_all.length F_law_all [] (vCons (dVar 2) vNil)))
      (dSeq (dAsgG (gT 2 (gsCons (gN 7) (gsCons (gN 8) gsNil))) (dCall P_law_pair.length F_law_pair [] (vOwn 0 (vCons (dCall P_law_closed.length F_law_closed [] (vCons (dVar 2) vNil)) (vCons (dVar 1) vNil)))))
      (dSeq (dAsg 9 (dBin fAdd (dC (.int 1)) (dCall P_law_pick.length F_law_pick [] (vOwn 0 (vCons (dC (.int 9)) vNil)))))
      (dAsg 2 (dBin fAdd (dVar 2) (dTup (lCons (dTup (lCons (dVar 9) (lCons (dBin fIx (dVar 6) (dVar 7)) (lCons (dBin fIx (dVar 6) (dVar 8)) (lCons (dCall P_law_say.length F_law_say [] (vOwn 0 (vCons (dVar 4) vNil))) lNil))))) lNil)))))))
def t_law_world2 : DS := (dRet (dVar 2))
def t_law_world3 : DS := (dSeq (dFor (dRng1 (lCons (dVar 3) lNil)) (gN 5) l_law_world1)
      t_law_world2)
def b_law_world : DS := (dSeq (dAsg 1 (dCall P_law_pick.length F_law_pick [] (vOwn 0 (vCons (dC (.int 5)) vNil))))
      (dSeq (dAsg 2 (dTup (lCons (dTup (lCons (dC (.int 0)) (lCons (dTup (lCons (dC (.int 0)) (lCons (dC (.int 0)) lNil))) (lCons (dTup (lCons (dC (.int 0)) (lCons (dC (.int 1)) lNil))) (lCons (dC (.str [])) lNil))))) lNil)))
      (dSeq (dAsg 3 (dBin fIx (dLst (lCons (dC (.int 8)) (lCons (dC (.int 7)) (lCons (dC (.int 9)) (lCons (dC (.int 6)) (lCons (dC (.int 5)) (lCons (dC (.int 8)) (lCons (dC (.int 3)) (lCons (dC (.int 4)) (lCons (dC (.int 7)) (lCons (dC (.int 2)) (lCons (dC (.int 0)) (lCons (dC (.int 1)) lNil))))))))))))) (dCall P_law_pick.length F_law_pick [] (vOwn 0 (vCons (dC (.int 12)) vNil)))))
      (dSeq (dAsg 4 (dC (.int 3)))
      (dSeq (dIf (dBinT fEq (dCall P_law_pick.length F_law_pick [] (vOwn 0 (vCons (dC (.int 6)) vNil))) (dC (.int 4))) (dSeq (dAsg 3 (dBin fAdd (dC (.int 14)) (dCall P_law_pick.length F_law_pick [] (vOwn 0 (vCons (dC (.int 14)) vNil)))))
      (dSeq (dAsg 1 (dBin fAdd (dC (.int 5)) (dCall P_law_pick.length F_law_pick [] (vOwn 0 (vCons (dC (.int 2)) vNil)))))
      (dAsg 4 (dC (.int 1))))) dNext)
      t_law_world3)))))
theorem q_law_world {P : Program} {w : World} {K : PySem.W.Frag} {mg : Str → Option Value} {base : Heap} {PL : PoolP} {f : Addr} (D_law_pick : Def P w K mg base PL CX0 1 "_law_pick" s_law_pick [] [] P_law_pick F_law_pick) (D_law_all : Def P w K mg base PL CX0 1 "_law_all" s_law_all [] [] P_law_all F_law_all) (D_law_pair : Def P w K mg base PL CX0 3 "_law_pair" s_law_pair [] [] P_law_pair F_law_pair) (D_law_closed : Def P w K mg base PL CX0 2 "_law_closed" s_law_closed [] [] P_law_closed F_law_closed) (D_law_say : Def P w K mg base PL CX0 2 "_law_say" s_law_say [] [] P_law_say F_law_say) (z_range : mg "range" = none) {cdv : Value} {A : Around} {outer : List Env} {s : Shared} {H : Hp} {E : XK} (hr : Room 3 (A.deeper (envOfC "_law_world" (defScope s_law_world) s.heap.objs.size f cdv))) : QSs (cxOf CX0 P w K mg base N_law_world "_law_world" (defScope s_law_world) f cdv A outer s H E).nox PL (defBody s_law_world) b_law_world := by
  delta b_law_world t_law_world3 t_law_world2 l_law_world1
  exact (qss_cons (qs_set (i := 1) (qe_call D_law_pick rfl rfl rfl rfl rfl bi_law_pick (qv_own (pv 0) (qv_cons qe_int qv_nil)) (hr.mono (by decide)) (by rfl) pass0) sc_law_world.nd rfl (Or.inl rfl))
      (qss_cons (qs_set (i := 2) (qe_tup (ql_cons (qe_tup (ql_cons qe_int (ql_cons (qe_tup (ql_cons qe_int (ql_cons qe_int ql_nil))) (ql_cons (qe_tup (ql_cons qe_int (ql_cons qe_int ql_nil))) (ql_cons (qe_str [] (by decide +kernel)) ql_nil))))) ql_nil)) sc_law_world.nd rfl (Or.inl rfl))
      (qss_cons (qs_set (i := 3) (qe_ix ix_seq opd_ix (qe_lst (ql_cons qe_int (ql_cons qe_int (ql_cons qe_int (ql_cons qe_int (ql_cons qe_int (ql_cons qe_int (ql_cons qe_int (ql_cons qe_int (ql_cons qe_int (ql_cons qe_int (ql_cons qe_int (ql_cons qe_int ql_nil))))))))))))) (qe_call D_law_pick rfl rfl rfl rfl rfl bi_law_pick (qv_own (pv 0) (qv_cons qe_int qv_nil)) (hr.mono (by decide)) (by rfl) pass0) (fun _ _ => rfl)) sc_law_world.nd rfl (Or.inl rfl))
      (qss_cons (qs_set (i := 4) qe_int sc_law_world.nd rfl (Or.inl rfl))
      (qss_cons (qs_if (qt_cmp (opr_eq hr.units) opd_eq (qe_call D_law_pick rfl rfl rfl rfl rfl bi_law_pick (qv_own (pv 0) (qv_cons qe_int qv_nil)) (hr.mono (by decide)) (by rfl) pass0) qe_int (nomark _)) (qss_cons (qs_set (i := 3) (qe_op opr_add opd_add qe_int (qe_call D_law_pick rfl rfl rfl rfl rfl bi_law_pick (qv_own (pv 0) (qv_cons qe_int qv_nil)) (hr.mono (by decide)) (by rfl) pass0)) sc_law_world.nd rfl (Or.inl rfl))
      (qss_cons (qs_set (i := 1) (qe_op opr_add opd_add qe_int (qe_call D_law_pick rfl rfl rfl rfl rfl bi_law_pick (qv_own (pv 0) (qv_cons qe_int qv_nil)) (hr.mono (by decide)) (by rfl) pass0)) sc_law_world.nd rfl (Or.inl rfl))
      (qss_one (qs_set (i := 4) qe_int sc_law_world.nd rfl (Or.inl rfl))))) qss_nil)
      (qss_cons (qs_for (qi_rng1 (ql_cons (qe_var (pv 3)) ql_nil) (by rfl) z_range) (qg_name (i := 5) sc_law_world.nd rfl (Or.inl rfl)) (qss_cons (qs_set (i := 6) (qe_call D_law_all rfl rfl rfl rfl rfl bi_law_all (qv_cons (qe_var (pv 2)) qv_nil) (hr.mono (by decide)) (by rfl) pass0) sc_law_world.nd rfl (Or.inl rfl))
      (qss_cons (qs_asg (qe_call D_law_pair rfl rfl rfl rfl rfl bi_law_pair (qv_own (pv 0) (qv_cons (qe_call D_law_closed rfl rfl rfl rfl rfl bi_law_closed (qv_cons (qe_var (pv 2)) qv_nil) (hr.mono (by decide)) (by rfl) pass0) (qv_cons (qe_var (pv 1)) qv_nil))) (hr.mono (by decide)) (by rfl) pass0) (qg_tup rfl (qgs_cons (qg_name (i := 7) sc_law_world.nd rfl (Or.inl rfl)) (qgs_cons (qg_name (i := 8) sc_law_world.nd rfl (Or.inl rfl)) qgs_nil))))
      (qss_cons (qs_set (i := 9) (qe_op opr_add opd_add qe_int (qe_call D_law_pick rfl rfl rfl rfl rfl bi_law_pick (qv_own (pv 0) (qv_cons qe_int qv_nil)) (hr.mono (by decide)) (by rfl) pass0)) sc_law_world.nd rfl (Or.inl rfl))
      (qss_one (qs_set (i := 2) (qe_op opr_add opd_add (qe_var (pv 2)) (qe_tup (ql_cons (qe_tup (ql_cons (qe_var (pv 9)) (ql_cons (qe_ix ix_seq opd_ix (qe_var (pv 6)) (qe_var (pv 7)) (fun _ _ => rfl)) (ql_cons (qe_ix ix_seq opd_ix (qe_var (pv 6)) (qe_var (pv 8)) (fun _ _ => rfl)) (ql_cons (qe_call D_law_say rfl rfl rfl rfl rfl bi_law_say (qv_own (pv 0) (qv_cons (qe_var (pv 4)) qv_nil)) (hr.mono (by decide)) (by rfl) pass0) ql_nil))))) ql_nil))) sc_law_world.nd rfl (Or.inl rfl)))))) PassesOwn.never rfl)
      (qss_one (qs_ret (qe_var (pv 2))))))))))
def t_law_hops1 : DS := (dDrop (dMeth 3 mAppend (lCons (dTup (lCons (dVar 1) (lCons (dVar 2) lNil))) lNil)))
def l_law_hops2 : DS := (dSeq (dIf (dBinT fEq (dBin fIx (dVar 1) (dC (.int 0))) (dBin fIx (dVar 2) (dC (.int 0)))) dBreak dNext)
      (dSeq (dIf (dBinT fLt (dBin fIx (dVar 1) (dC (.int 0))) (dBin fIx (dVar 2) (dC (.int 0)))) (dAsg 2 (dBin fIx (dBin fIx (dVar 0) (dBin fIx (dVar 2) (dC (.int 0)))) (dC (.int 1)))) (dAsg 1 (dBin fIx (dBin fIx (dVar 0) (dBin fIx (dVar 1) (dC (.int 0)))) (dC (.int 2)))))
      t_law_hops1))
def t_law_hops3 : DS := (dRet (dCB fTuple (aCons (dVar 3) aNil)))
def b_law_hops : DS := (dSeq (dAsg 3 (dLst (lCons (dTup (lCons (dVar 1) (lCons (dVar 2) lNil))) lNil)))
      (dSeq (dFor (dRng1 (lCons (dBin fAdd (dCB fLen (aCons (dVar 0) aNil)) (dC (.int 1))) lNil)) (gN 4) l_law_hops2)
      t_law_hops3))
theorem q_law_hops {P : Program} {w : World} {K : PySem.W.Frag} {mg : Str → Option Value} {base : Heap} {PL : PoolP} {f : Addr} (z_len : mg "len" = none) (z_range : mg "range" = none) (z_tuple : mg "tuple" = none) {cdv : Value} {A : Around} {outer : List Env} {s : Shared} {H : Hp} {E : XK} (hr : Room 0 (A.deeper (envOfC "_law_hops" (defScope s_law_hops) s.heap.objs.size f cdv))) : QSs (cxOf CX0 P w K mg base N_law_hops "_law_hops" (defScope s_law_hops) f cdv A outer s H E).nox PL (defBody s_law_hops) b_law_hops := by
  delta b_law_hops t_law_hops3 l_law_hops2 t_law_hops1
  exact (qss_cons (qs_set (i := 3) (qe_lst (ql_cons (qe_tup (ql_cons (qe_var (pv 1)) (ql_cons (qe_var (pv 2)) ql_nil))) ql_nil)) sc_law_hops.nd rfl (Or.inl rfl))
      (qss_cons (qs_for (qi_rng1 (ql_cons (qe_op opr_add opd_add (qe_cb cr_lenA cd_len (by rfl) z_len (by decide +kernel) (qa_cons (qe_var (pv 0)) qa_nil)) qe_int) ql_nil) (by rfl) z_range) (qg_name (i := 4) sc_law_hops.nd rfl (Or.inl rfl)) (qss_cons (qs_if (qt_cmp (opr_eq hr.units) opd_eq (qe_ix ix_seq opd_ix (qe_var (pv 1)) qe_int (fun _ _ => rfl)) (qe_ix ix_seq opd_ix (qe_var (pv 2)) qe_int (fun _ _ => rfl)) (nomark _)) (qss_one qs_break) qss_nil)
      (qss_cons (qs_if (qt_cmp op_lt opd_lt (qe_ix ix_seq opd_ix (qe_var (pv 1)) qe_int (fun _ _ => rfl)) (qe_ix ix_seq opd_ix (qe_var (pv 2)) qe_int (fun _ _ => rfl)) (nomark _)) (qss_one (qs_set (i := 2) (qe_ix ix_seq opd_ix (qe_ix ix_seq opd_ix (qe_var (pv 0)) (qe_ix ix_seq opd_ix (qe_var (pv 2)) qe_int (fun _ _ => rfl)) (fun _ _ => rfl)) qe_int (fun _ _ => rfl)) sc_law_hops.nd rfl (Or.inl rfl))) (qss_one (qs_set (i := 1) (qe_ix ix_seq opd_ix (qe_ix ix_seq opd_ix (qe_var (pv 0)) (qe_ix ix_seq opd_ix (qe_var (pv 1)) qe_int (fun _ _ => rfl)) (fun _ _ => rfl)) qe_int (fun _ _ => rfl)) sc_law_hops.nd rfl (Or.inl rfl))))
      (qss_one (qs_expr (qe_meth (T := "list") PySem.F.plainAttrs_list PySem.F.slot_list_append PySem.F.type_list_append mt_append mut_append (pv 3) (ql_cons (qe_tup (ql_cons (qe_var (pv 1)) (ql_cons (qe_var (pv 2)) ql_nil))) ql_nil)))))) PassesOwn.never rfl)
      (qss_one (qs_ret (qe_cty call_tuple_of cd_tuple (by rfl) z_tuple (by decide +kernel) (qa_cons (qe_var (pv 3)) qa_nil))))))
def b_law_paper : DS := (dRet (dCB fTuple (aCons (dLc (dRng1 (lCons (dBin fSub (dCB fLen (aCons (dVar 1) aNil)) (dC (.int 1))) lNil)) (gN 2) dYes (dCall P_law_hops.length F_law_hops [] (vCons (dVar 0) (vCons (dBin fIx (dVar 1) (dVar 2)) (vCons (dBin fIx (dVar 1) (dBin fAddT (dVar 2) (dC (.int 1)))) vNil)))) [2]) aNil)))
theorem q_law_paper {P : Program} {w : World} {K : PySem.W.Frag} {mg : Str → Option Value} {base : Heap} {PL : PoolP} {f : Addr} (D_law_hops : Def P w K mg base PL CX0 1 "_law_hops" s_law_hops [] [] P_law_hops F_law_hops) (z_len : mg "len" = none) (z_range : mg "range" = none) (z_tuple : mg "tuple" = none) {cdv : Value} {A : Around} {outer : List Env} {s : Shared} {H : Hp} {E : XK} (hr : Room 1 (A.deeper (envOfC "_law_paper" (defScope s_law_paper) s.heap.objs.size f cdv))) : QSs (cxOf CX0 P w K mg base N_law_paper "_law_paper" (defScope s_law_paper) f cdv A outer s H E).nox PL (defBody s_law_paper) b_law_paper := by
  delta b_law_paper
  exact (qss_one (qs_ret (qe_cty call_tuple_of cd_tuple (by rfl) z_tuple (by decide +kernel) (qa_cons (qe_lc (own := [("k", 2)]) (qi_rng1 (ql_cons (qe_op op_sub opd_sub (qe_cb cr_lenA cd_len (by rfl) z_len (by decide +kernel) (qa_cons (qe_var (pv 1)) qa_nil)) qe_int) ql_nil) (by rfl) z_range) (ng_name (i := 2) (by decide)) rfl sc_law_paper.nd (blkOk_by (N := N_law_paper) (sc := defScope s_law_paper) (by decide +kernel)) (fun _ _ _ _ _ => (pg_name (i := 2) sc_law_paper.nd rfl (Or.inl rfl))) (fun _ _ _ _ _ => qts_nil) (fun _ _ _ _ _ => (qe_call D_law_hops rfl rfl rfl rfl rfl bi_law_hops (qv_cons (qe_var (pv 0)) (qv_cons (qe_ix ix_seq opd_ix (qe_var (pv 1)) (qe_var (pv 2)) (fun _ _ => rfl)) (qv_cons (qe_ix ix_seq opd_ix (qe_var (pv 1)) (qe_op opr_addT opd_addT (qe_var (pv 2)) qe_int) (fun _ _ => rfl)) qv_nil))) (hr.mono (by decide)) (by rfl) pass0))) qa_nil))))
def t_law_next1 : DS := (dRet (dVar 2))
def t_law_next2 : DS := (dSeq (dIf (dBinT fGt (dBin fIx (dBin fIx (dVar 1) (dC (.int 0))) (dC (.int 0))) (dC (.int 0))) (dDrop (dMeth 2 mAppend (lCons (dTup (lCons (dBin fIx (dBin fIx (dVar 0) (dBin fIx (dBin fIx (dVar 1) (dC (.int 0))) (dC (.int 0)))) (dC (.int 2))) (lCons (dBin fIx (dVar 1) (dC (.int 1))) lNil))) lNil))) dNext)
      t_law_next1)
def b_law_next : DS := (dSeq (dAsg 2 (dLst lNil))
      (dSeq (dIf (dBinT fGt (dBin fIx (dBin fIx (dVar 1) (dC (.int 1))) (dC (.int 0))) (dC (.int 0))) (dDrop (dMeth 2 mAppend (lCons (dTup (lCons (dBin fIx (dVar 1) (dC (.int 0))) (lCons (dBin fIx (dBin fIx (dVar 0) (dBin fIx (dBin fIx (dVar 1) (dC (.int 1))) (dC (.int 0)))) (dC (.int 1))) lNil))) lNil))) dNext)
      t_law_next2))
theorem q_law_next {P : Program} {w : World} {K : PySem.W.Frag} {mg : Str → Option Value} {base : Heap} {PL : PoolP} {f : Addr}  {cdv : Value} {A : Around} {outer : List Env} {s : Shared} {H : Hp} {E : XK} (hr : Room 0 (A.deeper (envOfC "_law_next" (defScope s_law_next) s.heap.objs.size f cdv))) : QSs (cxOf CX0 P w K mg base N_law_next "_law_next" (defScope s_law_next) f cdv A outer s H E).nox PL (defBody s_law_next) b_law_next := by
  delta b_law_next t_law_next2 t_law_next1
  exact (qss_cons (qs_set (i := 2) (qe_lst ql_nil) sc_law_next.nd rfl (Or.inl rfl))
      (qss_cons (qs_if (qt_cmp op_gt opd_gt (qe_ix ix_seq opd_ix (qe_ix ix_seq opd_ix (qe_var (pv 1)) qe_int (fun _ _ => rfl)) qe_int (fun _ _ => rfl)) qe_int (nomark _)) (qss_one (qs_expr (qe_meth (T := "list") PySem.F.plainAttrs_list PySem.F.slot_list_append PySem.F.type_list_append mt_append mut_append (pv 2) (ql_cons (qe_tup (ql_cons (qe_ix ix_seq opd_ix (qe_var (pv 1)) qe_int (fun _ _ => rfl)) (ql_cons (qe_ix ix_seq opd_ix (qe_ix ix_seq opd_ix (qe_var (pv 0)) (qe_ix ix_seq opd_ix (qe_ix ix_seq opd_ix (qe_var (pv 1)) qe_int (fun _ _ => rfl)) qe_int (fun _ _ => rfl)) (fun _ _ => rfl)) qe_int (fun _ _ => rfl)) ql_nil))) ql_nil)))) qss_nil)
      (qss_cons (qs_if (qt_cmp op_gt opd_gt (qe_ix ix_seq opd_ix (qe_ix ix_seq opd_ix (qe_var (pv 1)) qe_int (fun _ _ => rfl)) qe_int (fun _ _ => rfl)) qe_int (nomark _)) (qss_one (qs_expr (qe_meth (T := "list") PySem.F.plainAttrs_list PySem.F.slot_list_append PySem.F.type_list_append mt_append mut_append (pv 2) (ql_cons (qe_tup (ql_cons (qe_ix ix_seq opd_ix (qe_ix ix_seq opd_ix (qe_var (pv 0)) (qe_ix ix_seq opd_ix (qe_ix ix_seq opd_ix (qe_var (pv 1)) qe_int (fun _ _ => rfl)) qe_int (fun _ _ => rfl)) (fun _ _ => rfl)) qe_int (fun _ _ => rfl)) (ql_cons (qe_ix ix_seq opd_ix (qe_var (pv 1)) qe_int (fun _ _ => rfl)) ql_nil))) ql_nil)))) qss_nil)
      (qss_one (qs_ret (qe_var (pv 2)))))))
def b_law_ends : DS := (dSeq (dIf (dBinT fNe (dBin fIx (dBin fIx (dVar 0) (dC (.int 0))) (dC (.int 0))) (dBin fIx (dBin fIx (dVar 0) (dC (.int 1))) (dC (.int 0)))) (dRet (dC (.bl false))) dNext)
      (dRet (dOrV (dBin fLt (dBin fIx (dBin fIx (dVar 0) (dC (.int 0))) (dC (.int 1))) (dBin fIx (dBin fIx (dVar 0) (dC (.int 1))) (dC (.int 1)))) (dAndV (dBin fGt (dVar 1) (dC (.int 1))) (dBin fEq (dBin fIx (dBin fIx (dVar 0) (dC (.int 0))) (dC (.int 1))) (dBin fIx (dBin fIx (dVar 0) (dC (.int 1))) (dC (.int 1))))))))
theorem q_law_ends {P : Program} {w : World} {K : PySem.W.Frag} {mg : Str → Option Value} {base : Heap} {PL : PoolP} {f : Addr}  {cdv : Value} {A : Around} {outer : List Env} {s : Shared} {H : Hp} {E : XK} (hr : Room 0 (A.deeper (envOfC "_law_ends" (defScope s_law_ends) s.heap.objs.size f cdv))) : QSs (cxOf CX0 P w K mg base N_law_ends "_law_ends" (defScope s_law_ends) f cdv A outer s H E).nox PL (defBody s_law_ends) b_law_ends := by
  delta b_law_ends
  exact (qss_cons (qs_if (qt_cmp (opr_ne hr.units) opd_ne (qe_ix ix_seq opd_ix (qe_ix ix_seq opd_ix (qe_var (pv 0)) qe_int (fun _ _ => rfl)) qe_int (fun _ _ => rfl)) (qe_ix ix_seq opd_ix (qe_ix ix_seq opd_ix (qe_var (pv 0)) qe_int (fun _ _ => rfl)) qe_int (fun _ _ => rfl)) (nomark _)) (qss_one (qs_ret qe_bl)) qss_nil)
      (qss_one (qs_ret (qe_or (qe_cmp op_lt opd_lt (qe_ix ix_seq opd_ix (qe_ix ix_seq opd_ix (qe_var (pv 0)) qe_int (fun _ _ => rfl)) qe_int (fun _ _ => rfl)) (qe_ix ix_seq opd_ix (qe_ix ix_seq opd_ix (qe_var (pv 0)) qe_int (fun _ _ => rfl)) qe_int (fun _ _ => rfl)) (nomark _)) (qe_one (qe_and (qe_cmp op_gt opd_gt (qe_var (pv 1)) qe_int (nomark _)) (qe_one (qe_cmp (opr_eq hr.units) opd_eq (qe_ix ix_seq opd_ix (qe_ix ix_seq opd_ix (qe_var (pv 0)) qe_int (fun _ _ => rfl)) qe_int (fun _ _ => rfl)) (qe_ix ix_seq opd_ix (qe_ix ix_seq opd_ix (qe_var (pv 0)) qe_int (fun _ _ => rfl)) qe_int (fun _ _ => rfl)) (nomark _)))))))))
def l_law_entry_fits1 : DS := (dIf (dBinT (fInD true) (dBin fIx (dVar 3) (dBin fAddT (dVar 4) (dC (.int 1)))) (dCall P_law_next.length F_law_next [] (vCons (dVar 0) (vCons (dBin fIx (dVar 3) (dVar 4)) vNil)))) (dRet (dC (.bl false))) dNext)
def t_law_entry_fits2 : DS := (dRet (dCall P_law_ends.length F_law_ends [] (vCons (dBin fIx (dVar 3) (dUn fNeg (dC (.int 1)))) (vCons (dCB fLen (aCons (dVar 3) aNil)) vNil))))
def t_law_entry_fits3 : DS := (dSeq (dFor (dRng1 (lCons (dBin fSub (dCB fLen (aCons (dVar 3) aNil)) (dC (.int 1))) lNil)) (gN 4) l_law_entry_fits1)
      t_law_entry_fits2)
def b_law_entry_fits : DS := (dSeq (dIf (dOr (dBinT fEq (dCB fLen (aCons (dVar 3) aNil)) (dC (.int 0))) (dBinT fNe (dBin fIx (dVar 3) (dC (.int 0))) (dTup (lCons (dVar 1) (lCons (dVar 2) lNil))))) (dRet (dC (.bl false))) dNext)
      t_law_entry_fits3)
theorem q_law_entry_fits {P : Program} {w : World} {K : PySem.W.Frag} {mg : Str → Option Value} {base : Heap} {PL : PoolP} {f : Addr} (D_law_ends : Def P w K mg base PL CX0 1 "_law_ends" s_law_ends [] [] P_law_ends F_law_ends) (D_law_next : Def P w K mg base PL CX0 1 "_law_next" s_law_next [] [] P_law_next F_law_next) (z_len : mg "len" = none) (z_range : mg "range" = none) {cdv : Value} {A : Around} {outer : List Env} {s : Shared} {H : Hp} {E : XK} (hr : Room 1 (A.deeper (envOfC "_law_entry_fits" (defScope s_law_entry_fits) s.heap.objs.size f cdv))) : QSs (cxOf CX0 P w K mg base N_law_entry_fits "_law_entry_fits" (defScope s_law_entry_fits) f cdv A outer s H E).nox PL (defBody s_law_entry_fits) b_law_entry_fits := by
  delta b_law_entry_fits t_law_entry_fits3 t_law_entry_fits2 l_law_entry_fits1
  exact (qss_cons (qs_if (QW.t (qw_or (qt_cmp (opr_eq hr.units) opd_eq (qe_cb cr_lenA cd_len (by rfl) z_len (by decide +kernel) (qa_cons (qe_var (pv 3)) qa_nil)) qe_int (nomark _)) (qw_or1 (qt_cmp (opr_ne hr.units) opd_ne (qe_ix ix_seq opd_ix (qe_var (pv 3)) qe_int (fun _ _ => rfl)) (qe_tup (ql_cons (qe_var (pv 1)) (ql_cons (qe_var (pv 2)) ql_nil))) (nomark _))))) (qss_one (qs_ret qe_bl)) qss_nil)
      (qss_cons (qs_for (qi_rng1 (ql_cons (qe_op op_sub opd_sub (qe_cb cr_lenA cd_len (by rfl) z_len (by decide +kernel) (qa_cons (qe_var (pv 3)) qa_nil)) qe_int) ql_nil) (by rfl) z_range) (qg_name (i := 4) sc_law_entry_fits.nd rfl (Or.inl rfl)) (qss_one (qs_if (qt_cmp (op_notInD hr.units65) opd_notInD (qe_ix ix_seq opd_ix (qe_var (pv 3)) (qe_op opr_addT opd_addT (qe_var (pv 4)) qe_int) (fun _ _ => rfl)) (qe_call D_law_next rfl rfl rfl rfl rfl bi_law_next (qv_cons (qe_var (pv 0)) (qv_cons (qe_ix ix_seq opd_ix (qe_var (pv 3)) (qe_var (pv 4)) (fun _ _ => rfl)) qv_nil)) (hr.mono (by decide)) (by rfl) pass0) rfl) (qss_one (qs_ret qe_bl)) qss_nil)) PassesOwn.never rfl)
      (qss_one (qs_ret (qe_call D_law_ends rfl rfl rfl rfl rfl bi_law_ends (qv_cons (qe_ix ix_seq opd_ix (qe_var (pv 3)) (qe_un un_neg und_neg qe_int) (fun _ _ => rfl)) (qv_cons (qe_cb cr_lenA cd_len (by rfl) z_len (by decide +kernel) (qa_cons (qe_var (pv 3)) qa_nil)) qv_nil)) (hr.mono (by decide)) (by rfl) pass0)))))
def l_law_fits1 : DS := (dIf (dNot (dTru (dCall P_law_entry_fits.length F_law_entry_fits [] (vCons (dVar 0) (vCons (dBin fIx (dVar 1) (dVar 3)) (vCons (dBin fIx (dVar 1) (dBin fAddT (dVar 3) (dC (.int 1)))) (vCons (dBin fIx (dVar 2) (dVar 3)) vNil))))))) (dRet (dC (.bl false))) dNext)
def t_law_fits2 : DS := (dRet (dC (.bl true)))
def t_law_fits3 : DS := (dSeq (dFor (dRng1 (lCons (dCB fLen (aCons (dVar 2) aNil)) lNil)) (gN 3) l_law_fits1)
      t_law_fits2)
def b_law_fits : DS := (dSeq (dIf (dBinT fNe (dCB fLen (aCons (dVar 2) aNil)) (dCB fMax2 (aCons (dC (.int 0)) (aCons (dBin fSub (dCB fLen (aCons (dVar 1) aNil)) (dC (.int 1))) aNil)))) (dRet (dC (.bl false))) dNext)
      t_law_fits3)
theorem q_law_fits {P : Program} {w : World} {K : PySem.W.Frag} {mg : Str → Option Value} {base : Heap} {PL : PoolP} {f : Addr} (D_law_entry_fits : Def P w K mg base PL CX0 2 "_law_entry_fits" s_law_entry_fits [] [] P_law_entry_fits F_law_entry_fits) (z_len : mg "len" = none) (z_max : mg "max" = none) (z_range : mg "range" = none) {cdv : Value} {A : Around} {outer : List Env} {s : Shared} {H : Hp} {E : XK} (hr : Room 2 (A.deeper (envOfC "_law_fits" (defScope s_law_fits) s.heap.objs.size f cdv))) : QSs (cxOf CX0 P w K mg base N_law_fits "_law_fits" (defScope s_law_fits) f cdv A outer s H E).nox PL (defBody s_law_fits) b_law_fits := by
  delta b_law_fits t_law_fits3 t_law_fits2 l_law_fits1
  exact (qss_cons (qs_if (qt_cmp (opr_ne hr.units) opd_ne (qe_cb cr_lenA cd_len (by rfl) z_len (by decide +kernel) (qa_cons (qe_var (pv 2)) qa_nil)) (qe_cb (call_max2 rfl) cd_max2 (by rfl) z_max (by decide +kernel) (qa_cons qe_int (qa_cons (qe_op op_sub opd_sub (qe_cb cr_lenA cd_len (by rfl) z_len (by decide +kernel) (qa_cons (qe_var (pv 1)) qa_nil)) qe_int) qa_nil))) (nomark _)) (qss_one (qs_ret qe_bl)) qss_nil)
      (qss_cons (qs_for (qi_rng1 (ql_cons (qe_cb cr_lenA cd_len (by rfl) z_len (by decide +kernel) (qa_cons (qe_var (pv 2)) qa_nil)) ql_nil) (by rfl) z_range) (qg_name (i := 3) sc_law_fits.nd rfl (Or.inl rfl)) (qss_one (qs_if (qt_not (qt_val (qe_call D_law_entry_fits rfl rfl rfl rfl rfl bi_law_entry_fits (qv_cons (qe_var (pv 0)) (qv_cons (qe_ix ix_seq opd_ix (qe_var (pv 1)) (qe_var (pv 3)) (fun _ _ => rfl)) (qv_cons (qe_ix ix_seq opd_ix (qe_var (pv 1)) (qe_op opr_addT opd_addT (qe_var (pv 3)) qe_int) (fun _ _ => rfl)) (qv_cons (qe_ix ix_seq opd_ix (qe_var (pv 2)) (qe_var (pv 3)) (fun _ _ => rfl)) qv_nil)))) (hr.mono (by decide)) (by rfl) pass0))) (qss_one (qs_ret qe_bl)) qss_nil)) PassesOwn.never rfl)
      (qss_one (qs_ret qe_bl))))
def b_law_told : DS := (dRet (dBin fEq (dBin fAnd (dBin fShr (dBin fIx (dVar 1) (dIdxL 0 (lCons (dVar 2) lNil))) (dIdxL 0 (lCons (dVar 3) lNil))) (dC (.int 1))) (dC (.int 1))))
theorem q_law_told {P : Program} {w : World} {K : PySem.W.Frag} {mg : Str → Option Value} {base : Heap} {PL : PoolP} {f : Addr}  {cdv : Value} {A : Around} {outer : List Env} {s : Shared} {H : Hp} {E : XK} (hr : Room 0 (A.deeper (envOfC "_law_told" (defScope s_law_told) s.heap.objs.size f cdv))) : QSs (cxOf CX0 P w K mg base N_law_told "_law_told" (defScope s_law_told) f cdv A outer s H E).nox PL (defBody s_law_told) b_law_told := by
  delta b_law_told
  exact (qss_one (qs_ret (qe_cmp (opr_eq hr.units) opd_eq (qe_op op_and opd_and (qe_op op_shr opd_shr (qe_ix ix_seq opd_ix (qe_var (pv 1)) (qe_idxL hr.units65 (pv 0) (ql_cons (qe_var (pv 2)) ql_nil)) (fun _ _ => rfl)) (qe_idxL hr.units65 (pv 0) (ql_cons (qe_var (pv 3)) ql_nil))) qe_int) qe_int (nomark _))))
def l_law_chained1 : DS := (dIf (dNot (dTru (dCall P_law_told.length F_law_told [] (vCons (dVar 0) (vCons (dVar 1) (vCons (dBin fIx (dVar 2) (dVar 3)) (vCons (dBin fIx (dVar 2) (dBin fAddT (dVar 3) (dC (.int 1)))) vNil))))))) (dRet (dC (.bl false))) dNext)
def t_law_chained2 : DS := (dRet (dC (.bl true)))
def b_law_chained : DS := (dSeq (dFor (dRng1 (lCons (dBin fSub (dCB fLen (aCons (dVar 2) aNil)) (dC (.int 1))) lNil)) (gN 3) l_law_chained1)
      t_law_chained2)
theorem q_law_chained {P : Program} {w : World} {K : PySem.W.Frag} {mg : Str → Option Value} {base : Heap} {PL : PoolP} {f : Addr} (D_law_told : Def P w K mg base PL CX0 1 "_law_told" s_law_told [] [] P_law_told F_law_told) (z_len : mg "len" = none) (z_range : mg "range" = none) {cdv : Value} {A : Around} {outer : List Env} {s : Shared} {H : Hp} {E : XK} (hr : Room 1 (A.deeper (envOfC "_law_chained" (defScope s_law_chained) s.heap.objs.size f cdv))) : QSs (cxOf CX0 P w K mg base N_law_chained "_law_chained" (defScope s_law_chained) f cdv A outer s H E).nox PL (defBody s_law_chained) b_law_chained := by
  delta b_law_chained t_law_chained2 l_law_chained1
  exact (qss_cons (qs_for (qi_rng1 (ql_cons (qe_op op_sub opd_sub (qe_cb cr_lenA cd_len (by rfl) z_len (by decide +kernel) (qa_cons (qe_var (pv 2)) qa_nil)) qe_int) ql_nil) (by rfl) z_range) (qg_name (i := 3) sc_law_chained.nd rfl (Or.inl rfl)) (qss_one (qs_if (qt_not (qt_val (qe_call D_law_told rfl rfl rfl rfl rfl bi_law_told (qv_cons (qe_var (pv 0)) (qv_cons (qe_var (pv 1)) (qv_cons (qe_ix ix_seq opd_ix (qe_var (pv 2)) (qe_var (pv 3)) (fun _ _ => rfl)) (qv_cons (qe_ix ix_seq opd_ix (qe_var (pv 2)) (qe_op opr_addT opd_addT (qe_var (pv 3)) qe_int) (fun _ _ => rfl)) qv_nil)))) (hr.mono (by decide)) (by rfl) pass0))) (qss_one (qs_ret qe_bl)) qss_nil)) PassesOwn.never rfl)
      (qss_one (qs_ret qe_bl)))
def t_law_row1 : DS := (dIf (dBinT fGt (dCB fLen (aCons (dVar 6) aNil)) (dC (.int 0))) (dSeq (dAsg 4 (dBin fIx (dVar 6) (dCall P_law_pick.length F_law_pick [] (vOwn 0 (vCons (dCB fLen (aCons (dVar 6) aNil)) vNil)))))
      (dDrop (dMeth 3 mAppend (lCons (dBin fIx (dVar 1) (dVar 4)) lNil)))) dNext)
def l_law_row2 : DS := (dSeq (dAsg 6 (dCall P_law_behind.length F_law_behind [] (vCons (dVar 2) (vCons (dVar 4) vNil))))
      (dSeq (dIf (dBinT fEq (dCall P_law_pick.length F_law_pick [] (vOwn 0 (vCons (dC (.int 2)) vNil))) (dC (.int 0))) (dAsg 6 (dCall P_law_close.length F_law_close [] (vCons (dVar 2) (vCons (dVar 4) vNil)))) dNext)
      t_law_row1))
def t_law_row3 : DS := (dIf (dBinT fEq (dCall P_law_pick.length F_law_pick [] (vOwn 0 (vCons (dC (.int 3)) vNil))) (dC (.int 0))) (dSetIx 3 (dCall P_law_pick.length F_law_pick [] (vOwn 0 (vCons (dCB fLen (aCons (dVar 3) aNil)) vNil))) (dBin fIx (dVar 1) (dCall P_law_pick.length F_law_pick [] (vOwn 0 (vCons (dCB fLen (aCons (dVar 1) aNil)) vNil))))) dNext)
def t_law_row4 : DS := (dRet (dCB fTuple (aCons (dVar 3) aNil)))
def b_law_row : DS := (dSeq (dAsg 3 (dLc (dRng1 (lCons (dCall P_law_pick.length F_law_pick [] (vOwn 0 (vCons (dC (.int 6)) vNil))) lNil)) (gN 7) dYes (dBin fIx (dVar 1) (dCall P_law_pick.length F_law_pick [] (vOwn 0 (vCons (dCB fLen (aCons (dVar 1) aNil)) vNil)))) [7]))
      (dSeq (dIf (dBinT fGt (dCall P_law_pick.length F_law_pick [] (vOwn 0 (vCons (dC (.int 3)) vNil))) (dC (.int 0))) (dSeq (dAsg 4 (dBin fIx (dLst (lCons (dC (.int 0)) (lCons (dC (.int 0)) (lCons (dCall P_law_pick.length F_law_pick [] (vOwn 0 (vCons (dCB fLen (aCons (dVar 1) aNil)) vNil))) lNil)))) (dCall P_law_pick.length F_law_pick [] (vOwn 0 (vCons (dC (.int 3)) vNil)))))
      (dSeq (dAsg 3 (dLst (lCons (dBin fIx (dVar 1) (dVar 4)) lNil)))
      (dSeq (dFor (dRng1 (lCons (dCall P_law_pick.length F_law_pick [] (vOwn 0 (vCons (dC (.int 6)) vNil))) lNil)) (gN 5) l_law_row2)
      t_law_row3))) dNext)
      t_law_row4))
theorem q_law_row {P : Program} {w : World} {K : PySem.W.Frag} {mg : Str → Option Value} {base : Heap} {PL : PoolP} {f : Addr} (D_law_pick : Def P w K mg base PL CX0 1 "_law_pick" s_law_pick [] [] P_law_pick F_law_pick) (D_law_behind : Def P w K mg base PL CX0 1 "_law_behind" s_law_behind [] [] P_law_behind F_law_behind) (D_law_close : Def P w K mg base PL CX0 2 "_law_close" s_law_close [] [] P_law_close F_law_close) (z_len : mg "len" = none) (z_range : mg "range" = none) (z_tuple : mg "tuple" = none) {cdv : Value} {A : Around} {outer : List Env} {s : Shared} {H : Hp} {E : XK} (hr : Room 2 (A.deeper (envOfC "_law_row" (defScope s_law_row) s.heap.objs.size f cdv))) : QSs (cxOf CX0 P w K mg base N_law_row "_law_row" (defScope s_law_row) f cdv A outer s H E).nox PL (defBody s_law_row) b_law_row := by
  delta b_law_row t_law_row4 t_law_row3 l_law_row2 t_law_row1
  exact (qss_cons (qs_setLc (i := 3) (own := [("k", 7)]) (qi_rng1 (ql_cons (qe_call D_law_pick rfl rfl rfl rfl rfl bi_law_pick (qv_own (pv 0) (qv_cons qe_int qv_nil)) (hr.mono (by decide)) (by rfl) pass0) ql_nil) (by rfl) z_range) (ng_name (i := 7) (by decide)) rfl sc_law_row.nd rfl rfl (sw_true rfl rfl rfl (by decide +kernel)) (blkOk_by (N := N_law_row) (sc := defScope s_law_row) (by decide +kernel)) (fun _ _ _ _ _ => (pg_name (i := 7) sc_law_row.nd rfl (Or.inl rfl))) (fun _ _ _ _ _ => qts_nil) (fun _ _ _ _ _ => (qe_ix ix_seq opd_ix (qe_var (pv 1)) (qe_call D_law_pick rfl rfl rfl rfl rfl bi_law_pick (qv_own (pv 0) (qv_cons (qe_cb cr_lenA cd_len (by rfl) z_len (by decide +kernel) (qa_cons (qe_var (pv 1)) qa_nil)) qv_nil)) (hr.mono (by decide)) (by rfl) pass0) (fun _ _ => rfl))))
      (qss_cons (qs_if (qt_cmp op_gt opd_gt (qe_call D_law_pick rfl rfl rfl rfl rfl bi_law_pick (qv_own (pv 0) (qv_cons qe_int qv_nil)) (hr.mono (by decide)) (by rfl) pass0) qe_int (nomark _)) (qss_cons (qs_set (i := 4) (qe_ix ix_seq opd_ix (qe_lst (ql_cons qe_int (ql_cons qe_int (ql_cons (qe_call D_law_pick rfl rfl rfl rfl rfl bi_law_pick (qv_own (pv 0) (qv_cons (qe_cb cr_lenA cd_len (by rfl) z_len (by decide +kernel) (qa_cons (qe_var (pv 1)) qa_nil)) qv_nil)) (hr.mono (by decide)) (by rfl) pass0) ql_nil)))) (qe_call D_law_pick rfl rfl rfl rfl rfl bi_law_pick (qv_own (pv 0) (qv_cons qe_int qv_nil)) (hr.mono (by decide)) (by rfl) pass0) (fun _ _ => rfl)) sc_law_row.nd rfl (Or.inl rfl))
      (qss_cons (qs_set (i := 3) (qe_lst (ql_cons (qe_ix ix_seq opd_ix (qe_var (pv 1)) (qe_var (pv 4)) (fun _ _ => rfl)) ql_nil)) sc_law_row.nd rfl (Or.inl rfl))
      (qss_cons (qs_for (qi_rng1 (ql_cons (qe_call D_law_pick rfl rfl rfl rfl rfl bi_law_pick (qv_own (pv 0) (qv_cons qe_int qv_nil)) (hr.mono (by decide)) (by rfl) pass0) ql_nil) (by rfl) z_range) (qg_name (i := 5) sc_law_row.nd rfl (Or.inl rfl)) (qss_cons (qs_set (i := 6) (qe_call D_law_behind rfl rfl rfl rfl rfl bi_law_behind (qv_cons (qe_var (pv 2)) (qv_cons (qe_var (pv 4)) qv_nil)) (hr.mono (by decide)) (by rfl) pass0) sc_law_row.nd rfl (Or.inl rfl))
      (qss_cons (qs_if (qt_cmp (opr_eq hr.units) opd_eq (qe_call D_law_pick rfl rfl rfl rfl rfl bi_law_pick (qv_own (pv 0) (qv_cons qe_int qv_nil)) (hr.mono (by decide)) (by rfl) pass0) qe_int (nomark _)) (qss_one (qs_set (i := 6) (qe_call D_law_close rfl rfl rfl rfl rfl bi_law_close (qv_cons (qe_var (pv 2)) (qv_cons (qe_var (pv 4)) qv_nil)) (hr.mono (by decide)) (by rfl) pass0) sc_law_row.nd rfl (Or.inl rfl))) qss_nil)
      (qss_one (qs_if (qt_cmp op_gt opd_gt (qe_cb cr_lenA cd_len (by rfl) z_len (by decide +kernel) (qa_cons (qe_var (pv 6)) qa_nil)) qe_int (nomark _)) (qss_cons (qs_set (i := 4) (qe_ix ix_seq opd_ix (qe_var (pv 6)) (qe_call D_law_pick rfl rfl rfl rfl rfl bi_law_pick (qv_own (pv 0) (qv_cons (qe_cb cr_lenA cd_len (by rfl) z_len (by decide +kernel) (qa_cons (qe_var (pv 6)) qa_nil)) qv_nil)) (hr.mono (by decide)) (by rfl) pass0) (fun _ _ => rfl)) sc_law_row.nd rfl (Or.inl rfl))
      (qss_one (qs_expr (qe_meth (T := "list") PySem.F.plainAttrs_list PySem.F.slot_list_append PySem.F.type_list_append mt_append mut_append (pv 3) (ql_cons (qe_ix ix_seq opd_ix (qe_var (pv 1)) (qe_var (pv 4)) (fun _ _ => rfl)) ql_nil))))) qss_nil)))) PassesOwn.never rfl)
      (qss_one (qs_if (qt_cmp (opr_eq hr.units) opd_eq (qe_call D_law_pick rfl rfl rfl rfl rfl bi_law_pick (qv_own (pv 0) (qv_cons qe_int qv_nil)) (hr.mono (by decide)) (by rfl) pass0) qe_int (nomark _)) (qss_one (qs_setIx (qe_ix ix_seq opd_ix (qe_var (pv 1)) (qe_call D_law_pick rfl rfl rfl rfl rfl bi_law_pick (qv_own (pv 0) (qv_cons (qe_cb cr_lenA cd_len (by rfl) z_len (by decide +kernel) (qa_cons (qe_var (pv 1)) qa_nil)) qv_nil)) (hr.mono (by decide)) (by rfl) pass0) (fun _ _ => rfl)) (pv 3) (qe_call D_law_pick rfl rfl rfl rfl rfl bi_law_pick (qv_own (pv 0) (qv_cons (qe_cb cr_lenA cd_len (by rfl) z_len (by decide +kernel) (qa_cons (qe_var (pv 3)) qa_nil)) qv_nil)) (hr.mono (by decide)) (by rfl) pass0))) qss_nil))))) qss_nil)
      (qss_one (qs_ret (qe_cty call_tuple_of cd_tuple (by rfl) z_tuple (by decide +kernel) (qa_cons (qe_var (pv 3)) qa_nil))))))
def t_law_rich1 : DS := (dIf (dAnd (dBinT fLt (dBin fIx (dBin fIx (dVar 1) (dVar 5)) (dC (.int 0))) (dBin fIx (dBin fIx (dVar 1) (dVar 4)) (dC (.int 0)))) (dOr (dBinT fEq (dBin fAnd (dBin fShr (dBin fIx (dVar 2) (dVar 4)) (dVar 6)) (dC (.int 1))) (dC (.int 1))) (dBinT fEq (dVar 6) (dVar 4)))) (dDrop (dMeth 3 mAppend (lCons (dTup (lCons (dBin fIx (dVar 1) (dVar 4)) (lCons (dBin fIx (dVar 1) (dVar 5)) lNil))) lNil))) dNext)
def i_law_rich1 : DS := (dSeq (dAsg 6 (dIdxL 1 (lCons (dBin fIx (dBin fIx (dVar 0) (dBin fIx (dBin fIx (dVar 1) (dVar 5)) (dC (.int 0)))) (dC (.int 1))) lNil)))
      (dSeq (dAsg 7 (dIdxL 1 (lCons (dBin fIx (dBin fIx (dVar 0) (dBin fIx (dBin fIx (dVar 1) (dVar 4)) (dC (.int 0)))) (dC (.int 2))) lNil)))
      (dSeq (dIf (dAnd (dBinT fLt (dBin fIx (dBin fIx (dVar 1) (dVar 4)) (dC (.int 0))) (dBin fIx (dBin fIx (dVar 1) (dVar 5)) (dC (.int 0)))) (dOr (dBinT fEq (dBin fAnd (dBin fShr (dBin fIx (dVar 2) (dVar 7)) (dVar 5)) (dC (.int 1))) (dC (.int 1))) (dBinT fEq (dVar 7) (dVar 5)))) (dDrop (dMeth 3 mAppend (lCons (dTup (lCons (dBin fIx (dVar 1) (dVar 4)) (lCons (dBin fIx (dVar 1) (dVar 5)) lNil))) lNil))) dNext)
      t_law_rich1)))
def l_law_rich2 : DS := (dIf (dAnd (dBinT fEq (dBin fAnd (dBin fShr (dBin fIx (dVar 2) (dVar 4)) (dVar 5)) (dC (.int 1))) (dC (.int 1))) (dBinT fNe (dBin fIx (dBin fIx (dVar 1) (dVar 4)) (dC (.int 0))) (dBin fIx (dBin fIx (dVar 1) (dVar 5)) (dC (.int 0))))) i_law_rich1 dNext)
def l_law_rich3 : DS := (dFor (dRng2 (lCons (dC (.int 2)) (lCons (dCB fLen (aCons (dVar 1) aNil)) lNil))) (gN 5) l_law_rich2)
def t_law_rich4 : DS := (dRet (dVar 3))
def b_law_rich : DS := (dSeq (dAsg 3 (dLst lNil))
      (dSeq (dFor (dRng2 (lCons (dC (.int 2)) (lCons (dCB fLen (aCons (dVar 1) aNil)) lNil))) (gN 4) l_law_rich3)
      t_law_rich4))
theorem q_law_rich {P : Program} {w : World} {K : PySem.W.Frag} {mg : Str → Option Value} {base : Heap} {PL : PoolP} {f : Addr} (z_len : mg "len" = none) (z_range : mg "range" = none) {cdv : Value} {A : Around} {outer : List Env} {s : Shared} {H : Hp} {E : XK} (hr : Room 0 (A.deeper (envOfC "_law_rich" (defScope s_law_rich) s.heap.objs.size f cdv))) : QSs (cxOf CX0 P w K mg base N_law_rich "_law_rich" (defScope s_law_rich) f cdv A outer s H E).nox PL (defBody s_law_rich) b_law_rich := by
  delta b_law_rich t_law_rich4 l_law_rich3 l_law_rich2 i_law_rich1 t_law_rich1
  exact (qss_cons (qs_set (i := 3) (qe_lst ql_nil) sc_law_rich.nd rfl (Or.inl rfl))
      (qss_cons (qs_for (qi_rng2 (ql_cons qe_int (ql_cons (qe_cb cr_lenA cd_len (by rfl) z_len (by decide +kernel) (qa_cons (qe_var (pv 1)) qa_nil)) ql_nil)) (by rfl) z_range) (qg_name (i := 4) sc_law_rich.nd rfl (Or.inl rfl)) (qss_one (qs_for (qi_rng2 (ql_cons qe_int (ql_cons (qe_cb cr_lenA cd_len (by rfl) z_len (by decide +kernel) (qa_cons (qe_var (pv 1)) qa_nil)) ql_nil)) (by rfl) z_range) (qg_name (i := 5) sc_law_rich.nd rfl (Or.inl rfl)) (qss_one (qs_if (QW.t (qw_and (qt_cmp (opr_eq hr.units) opd_eq (qe_op op_and opd_and (qe_op op_shr opd_shr (qe_ix ix_seq opd_ix (qe_var (pv 2)) (qe_var (pv 4)) (fun _ _ => rfl)) (qe_var (pv 5))) qe_int) qe_int (nomark _)) (qw_and1 (qt_cmp (opr_ne hr.units) opd_ne (qe_ix ix_seq opd_ix (qe_ix ix_seq opd_ix (qe_var (pv 1)) (qe_var (pv 4)) (fun _ _ => rfl)) qe_int (fun _ _ => rfl)) (qe_ix ix_seq opd_ix (qe_ix ix_seq opd_ix (qe_var (pv 1)) (qe_var (pv 5)) (fun _ _ => rfl)) qe_int (fun _ _ => rfl)) (nomark _))))) (qss_cons (qs_set (i := 6) (qe_idxL hr.units65 (pv 1) (ql_cons (qe_ix ix_seq opd_ix (qe_ix ix_seq opd_ix (qe_var (pv 0)) (qe_ix ix_seq opd_ix (qe_ix ix_seq opd_ix (qe_var (pv 1)) (qe_var (pv 5)) (fun _ _ => rfl)) qe_int (fun _ _ => rfl)) (fun _ _ => rfl)) qe_int (fun _ _ => rfl)) ql_nil)) sc_law_rich.nd rfl (Or.inl rfl))
      (qss_cons (qs_set (i := 7) (qe_idxL hr.units65 (pv 1) (ql_cons (qe_ix ix_seq opd_ix (qe_ix ix_seq opd_ix (qe_var (pv 0)) (qe_ix ix_seq opd_ix (qe_ix ix_seq opd_ix (qe_var (pv 1)) (qe_var (pv 4)) (fun _ _ => rfl)) qe_int (fun _ _ => rfl)) (fun _ _ => rfl)) qe_int (fun _ _ => rfl)) ql_nil)) sc_law_rich.nd rfl (Or.inl rfl))
      (qss_cons (qs_if (QW.t (qw_and (qt_cmp op_lt opd_lt (qe_ix ix_seq opd_ix (qe_ix ix_seq opd_ix (qe_var (pv 1)) (qe_var (pv 4)) (fun _ _ => rfl)) qe_int (fun _ _ => rfl)) (qe_ix ix_seq opd_ix (qe_ix ix_seq opd_ix (qe_var (pv 1)) (qe_var (pv 5)) (fun _ _ => rfl)) qe_int (fun _ _ => rfl)) (nomark _)) (qw_and1 (QW.t (qw_or (qt_cmp (opr_eq hr.units) opd_eq (qe_op op_and opd_and (qe_op op_shr opd_shr (qe_ix ix_seq opd_ix (qe_var (pv 2)) (qe_var (pv 7)) (fun _ _ => rfl)) (qe_var (pv 5))) qe_int) qe_int (nomark _)) (qw_or1 (qt_cmp (opr_eq hr.units) opd_eq (qe_var (pv 7)) (qe_var (pv 5)) (nomark _)))))))) (qss_one (qs_expr (qe_meth (T := "list") PySem.F.plainAttrs_list PySem.F.slot_list_append PySem.F.type_list_append mt_append mut_append (pv 3) (ql_cons (qe_tup (ql_cons (qe_ix ix_seq opd_ix (qe_var (pv 1)) (qe_var (pv 4)) (fun _ _ => rfl)) (ql_cons (qe_ix ix_seq opd_ix (qe_var (pv 1)) (qe_var (pv 5)) (fun _ _ => rfl)) ql_nil))) ql_nil)))) qss_nil)
      (qss_one (qs_if (QW.t (qw_and (qt_cmp op_lt opd_lt (qe_ix ix_seq opd_ix (qe_ix ix_seq opd_ix (qe_var (pv 1)) (qe_var (pv 5)) (fun _ _ => rfl)) qe_int (fun _ _ => rfl)) (qe_ix ix_seq opd_ix (qe_ix ix_seq opd_ix (qe_var (pv 1)) (qe_var (pv 4)) (fun _ _ => rfl)) qe_int (fun _ _ => rfl)) (nomark _)) (qw_and1 (QW.t (qw_or (qt_cmp (opr_eq hr.units) opd_eq (qe_op op_and opd_and (qe_op op_shr opd_shr (qe_ix ix_seq opd_ix (qe_var (pv 2)) (qe_var (pv 4)) (fun _ _ => rfl)) (qe_var (pv 6))) qe_int) qe_int (nomark _)) (qw_or1 (qt_cmp (opr_eq hr.units) opd_eq (qe_var (pv 6)) (qe_var (pv 4)) (nomark _)))))))) (qss_one (qs_expr (qe_meth (T := "list") PySem.F.plainAttrs_list PySem.F.slot_list_append PySem.F.type_list_append mt_append mut_append (pv 3) (ql_cons (qe_tup (ql_cons (qe_ix ix_seq opd_ix (qe_var (pv 1)) (qe_var (pv 4)) (fun _ _ => rfl)) (ql_cons (qe_ix ix_seq opd_ix (qe_var (pv 1)) (qe_var (pv 5)) (fun _ _ => rfl)) ql_nil))) ql_nil)))) qss_nil))))) qss_nil)) PassesOwn.never rfl)) PassesOwn.never rfl)
      (qss_one (qs_ret (qe_var (pv 3))))))
def l_law_walk1 : DS := (dIf (dOr (dBinT fEq (dVar 9) (dVar 10)) (dTru (dCall P_law_told.length F_law_told [] (vCons (dVar 2) (vCons (dVar 3) (vCons (dVar 9) (vCons (dVar 10) vNil))))))) (dDrop (dMeth 8 mAppend (lCons (dTup (lCons (dVar 9) (lCons (dVar 10) lNil))) lNil))) dNext)
def t_law_walk2 : DS := (dDrop (dMeth 6 mAppend (lCons (dBin fIx (dVar 8) (dCall P_law_pick.length F_law_pick [] (vOwn 0 (vCons (dCB fLen (aCons (dVar 8) aNil)) vNil)))) lNil)))
def t_law_walk3 : DS := (dSeq (dIf (dBinT fEq (dCB fLen (aCons (dVar 8) aNil)) (dC (.int 0))) dBreak dNext)
      t_law_walk2)
def t_law_walk4 : DS := (dSeq (dAsg 8 (dLst lNil))
      (dSeq (dFor (dItems (dCall P_law_next.length F_law_next [] (vCons (dVar 1) (vCons (dBin fIx (dVar 6) (dUn fNeg (dC (.int 1)))) vNil)))) (gT 2 (gsCons (gN 9) (gsCons (gN 10) gsNil))) l_law_walk1)
      t_law_walk3))
def l_law_walk5 : DS := (dSeq (dIf (dAnd (dTru (dCall P_law_ends.length F_law_ends [] (vCons (dBin fIx (dVar 6) (dUn fNeg (dC (.int 1)))) (vCons (dCB fLen (aCons (dVar 6) aNil)) vNil)))) (dBinT fGt (dCall P_law_pick.length F_law_pick [] (vOwn 0 (vCons (dC (.int 4)) vNil))) (dC (.int 0)))) dBreak dNext)
      t_law_walk4)
def t_law_walk6 : DS := (dRet (dCB fTuple (aCons (dVar 6) aNil)))
def b_law_walk : DS := (dSeq (dAsg 6 (dLst (lCons (dTup (lCons (dVar 4) (lCons (dVar 5) lNil))) lNil)))
      (dSeq (dFor (dRng1 (lCons (dC (.int 40)) lNil)) (gN 7) l_law_walk5)
      t_law_walk6))
theorem q_law_walk {P : Program} {w : World} {K : PySem.W.Frag} {mg : Str → Option Value} {base : Heap} {PL : PoolP} {f : Addr} (D_law_next : Def P w K mg base PL CX0 1 "_law_next" s_law_next [] [] P_law_next F_law_next) (D_law_ends : Def P w K mg base PL CX0 1 "_law_ends" s_law_ends [] [] P_law_ends F_law_ends) (D_law_pick : Def P w K mg base PL CX0 1 "_law_pick" s_law_pick [] [] P_law_pick F_law_pick) (D_law_told : Def P w K mg base PL CX0 1 "_law_told" s_law_told [] [] P_law_told F_law_told) (z_len : mg "len" = none) (z_range : mg "range" = none) (z_tuple : mg "tuple" = none) {cdv : Value} {A : Around} {outer : List Env} {s : Shared} {H : Hp} {E : XK} (hr : Room 1 (A.deeper (envOfC "_law_walk" (defScope s_law_walk) s.heap.objs.size f cdv))) : QSs (cxOf CX0 P w K mg base N_law_walk "_law_walk" (defScope s_law_walk) f cdv A outer s H E).nox PL (defBody s_law_walk) b_law_walk := by
  delta b_law_walk t_law_walk6 l_law_walk5 t_law_walk4 t_law_walk3 t_law_walk2 l_law_walk1
  exact (qss_cons (qs_set (i := 6) (qe_lst (ql_cons (qe_tup (ql_cons (qe_var (pv 4)) (ql_cons (qe_var (pv 5)) ql_nil))) ql_nil)) sc_law_walk.nd rfl (Or.inl rfl))
      (qss_cons (qs_for (qi_rng1 (ql_cons qe_int ql_nil) (by rfl) z_range) (qg_name (i := 7) sc_law_walk.nd rfl (Or.inl rfl)) (qss_cons (qs_if (QW.t (qw_and (qt_val (qe_call D_law_ends rfl rfl rfl rfl rfl bi_law_ends (qv_cons (qe_ix ix_seq opd_ix (qe_var (pv 6)) (qe_un un_neg und_neg qe_int) (fun _ _ => rfl)) (qv_cons (qe_cb cr_lenA cd_len (by rfl) z_len (by decide +kernel) (qa_cons (qe_var (pv 6)) qa_nil)) qv_nil)) (hr.mono (by decide)) (by rfl) pass0)) (qw_and1 (qt_cmp op_gt opd_gt (qe_call D_law_pick rfl rfl rfl rfl rfl bi_law_pick (qv_own (pv 0) (qv_cons qe_int qv_nil)) (hr.mono (by decide)) (by rfl) pass0) qe_int (nomark _))))) (qss_one qs_break) qss_nil)
      (qss_cons (qs_set (i := 8) (qe_lst ql_nil) sc_law_walk.nd rfl (Or.inl rfl))
      (qss_cons (qs_for (qi_any (qe_call D_law_next rfl rfl rfl rfl rfl bi_law_next (qv_cons (qe_var (pv 1)) (qv_cons (qe_ix ix_seq opd_ix (qe_var (pv 6)) (qe_un un_neg und_neg qe_int) (fun _ _ => rfl)) qv_nil)) (hr.mono (by decide)) (by rfl) pass0)) (qg_tup rfl (qgs_cons (qg_name (i := 9) sc_law_walk.nd rfl (Or.inl rfl)) (qgs_cons (qg_name (i := 10) sc_law_walk.nd rfl (Or.inl rfl)) qgs_nil))) (qss_one (qs_if (QW.t (qw_or (qt_cmp (opr_eq hr.units) opd_eq (qe_var (pv 9)) (qe_var (pv 10)) (nomark _)) (qw_or1 (qt_val (qe_call D_law_told rfl rfl rfl rfl rfl bi_law_told (qv_cons (qe_var (pv 2)) (qv_cons (qe_var (pv 3)) (qv_cons (qe_var (pv 9)) (qv_cons (qe_var (pv 10)) qv_nil)))) (hr.mono (by decide)) (by rfl) pass0))))) (qss_one (qs_expr (qe_meth (T := "list") PySem.F.plainAttrs_list PySem.F.slot_list_append PySem.F.type_list_append mt_append mut_append (pv 8) (ql_cons (qe_tup (ql_cons (qe_var (pv 9)) (ql_cons (qe_var (pv 10)) ql_nil))) ql_nil)))) qss_nil)) PassesOwn.never rfl)
      (qss_cons (qs_if (qt_cmp (opr_eq hr.units) opd_eq (qe_cb cr_lenA cd_len (by rfl) z_len (by decide +kernel) (qa_cons (qe_var (pv 8)) qa_nil)) qe_int (nomark _)) (qss_one qs_break) qss_nil)
      (qss_one (qs_expr (qe_meth (T := "list") PySem.F.plainAttrs_list PySem.F.slot_list_append PySem.F.type_list_append mt_append mut_append (pv 6) (ql_cons (qe_ix ix_seq opd_ix (qe_var (pv 8)) (qe_call D_law_pick rfl rfl rfl rfl rfl bi_law_pick (qv_own (pv 0) (qv_cons (qe_cb cr_lenA cd_len (by rfl) z_len (by decide +kernel) (qa_cons (qe_var (pv 8)) qa_nil)) qv_nil)) (hr.mono (by decide)) (by rfl) pass0) (fun _ _ => rfl)) ql_nil)))))))) PassesOwn.never rfl)
      (qss_one (qs_ret (qe_cty call_tuple_of cd_tuple (by rfl) z_tuple (by decide +kernel) (qa_cons (qe_var (pv 6)) qa_nil))))))
def l_law_walks1 : DS := (dDrop (dMeth 3 mAppend (lCons (dBin fAddT (dBin fIx (dVar 3) (dVar 5)) (dTup (lCons (dVar 6) lNil))) lNil)))
def l_law_walks2 : DS := (dIf (dBinT fLt (dVar 5) (dCB fLen (aCons (dVar 3) aNil))) (dSeq (dDrop (dMeth 4 mAppend (lCons (dBin fIx (dVar 3) (dVar 5)) lNil)))
      (dFor (dItems (dCall P_law_next.length F_law_next [] (vCons (dVar 0) (vCons (dBin fIx (dBin fIx (dVar 3) (dVar 5)) (dUn fNeg (dC (.int 1)))) vNil)))) (gN 6) l_law_walks1)) dNext)
def t_law_walks3 : DS := (dRet (dVar 4))
def b_law_walks : DS := (dSeq (dAsg 3 (dLst (lCons (dTup (lCons (dTup (lCons (dVar 1) (lCons (dVar 2) lNil))) lNil)) lNil)))
      (dSeq (dAsg 4 (dLst lNil))
      (dSeq (dFor (dRng1 (lCons (dC (.int 24)) lNil)) (gN 5) l_law_walks2)
      t_law_walks3)))
theorem q_law_walks {P : Program} {w : World} {K : PySem.W.Frag} {mg : Str → Option Value} {base : Heap} {PL : PoolP} {f : Addr} (D_law_next : Def P w K mg base PL CX0 1 "_law_next" s_law_next [] [] P_law_next F_law_next) (z_len : mg "len" = none) (z_range : mg "range" = none) {cdv : Value} {A : Around} {outer : List Env} {s : Shared} {H : Hp} {E : XK} (hr : Room 1 (A.deeper (envOfC "_law_walks" (defScope s_law_walks) s.heap.objs.size f cdv))) : QSs (cxOf CX0 P w K mg base N_law_walks "_law_walks" (defScope s_law_walks) f cdv A outer s H E).nox PL (defBody s_law_walks) b_law_walks := by
  delta b_law_walks t_law_walks3 l_law_walks2 l_law_walks1
  exact (qss_cons (qs_set (i := 3) (qe_lst (ql_cons (qe_tup (ql_cons (qe_tup (ql_cons (qe_var (pv 1)) (ql_cons (qe_var (pv 2)) ql_nil))) ql_nil)) ql_nil)) sc_law_walks.nd rfl (Or.inl rfl))
      (qss_cons (qs_set (i := 4) (qe_lst ql_nil) sc_law_walks.nd rfl (Or.inl rfl))
      (qss_cons (qs_for (qi_rng1 (ql_cons qe_int ql_nil) (by rfl) z_range) (qg_name (i := 5) sc_law_walks.nd rfl (Or.inl rfl)) (qss_one (qs_if (qt_cmp op_lt opd_lt (qe_var (pv 5)) (qe_cb cr_lenA cd_len (by rfl) z_len (by decide +kernel) (qa_cons (qe_var (pv 3)) qa_nil)) (nomark _)) (qss_cons (qs_expr (qe_meth (T := "list") PySem.F.plainAttrs_list PySem.F.slot_list_append PySem.F.type_list_append mt_append mut_append (pv 4) (ql_cons (qe_ix ix_seq opd_ix (qe_var (pv 3)) (qe_var (pv 5)) (fun _ _ => rfl)) ql_nil)))
      (qss_one (qs_for (qi_any (qe_call D_law_next rfl rfl rfl rfl rfl bi_law_next (qv_cons (qe_var (pv 0)) (qv_cons (qe_ix ix_seq opd_ix (qe_ix ix_seq opd_ix (qe_var (pv 3)) (qe_var (pv 5)) (fun _ _ => rfl)) (qe_un un_neg und_neg qe_int) (fun _ _ => rfl)) qv_nil)) (hr.mono (by decide)) (by rfl) pass0)) (qg_name (i := 6) sc_law_walks.nd rfl (Or.inl rfl)) (qss_one (qs_expr (qe_meth (T := "list") PySem.F.plainAttrs_list PySem.F.slot_list_append PySem.F.type_list_append mt_append mut_append (pv 3) (ql_cons (qe_op opr_addT opd_addT (qe_ix ix_seq opd_ix (qe_var (pv 3)) (qe_var (pv 5)) (fun _ _ => rfl)) (qe_tup (ql_cons (qe_var (pv 6)) ql_nil))) ql_nil)))) PassesOwn.never rfl))) qss_nil)) PassesOwn.never rfl)
      (qss_one (qs_ret (qe_var (pv 4)))))))
def l_law_bent1 : DS := (dDrop (dMeth 12 mAppend (lCons (dBin fAddT (dBin fAddT (dSlT (dVar 5) dNoPart (dPart (dVar 6))) (dTup (lCons (dVar 13) lNil))) (dSlT (dVar 5) (dPart (dBin fAddT (dVar 6) (dC (.int 1)))) dNoPart)) lNil)))
def l_law_bent2 : DS := (dDrop (dMeth 12 mAppend (lCons (dBin fAddT (dSlT (dVar 5) dNoPart (dPart (dBin fAddT (dVar 6) (dC (.int 1))))) (dTup (lCons (dVar 13) lNil))) lNil)))
def t_law_bent3 : DS := (dSeq (dAsg 14 (dLc (dItems (dVar 12)) (gN 15) dYes (dBin fAddT (dBin fAddT (dSlT (dVar 3) dNoPart (dPart (dVar 4))) (dTup (lCons (dVar 15) lNil))) (dSlT (dVar 3) (dPart (dBin fAddT (dVar 4) (dC (.int 1)))) dNoPart)) [15]))
      (dRet (dBin fAddT (dVar 14) (dLst (lCons (dSlT (dVar 3) dNoPart (dPart (dVar 4))) (lCons (dSlT (dVar 3) (dPart (dBin fAddT (dVar 4) (dC (.int 1)))) dNoPart) (lCons (dBin fAddT (dVar 3) (dTup (lCons (dVar 5) lNil))) (lCons (dRvT (dVar 3)) (lCons (dTup lNil) lNil)))))))))
def t_law_bent4 : DS := (dSeq (dFor (dItems (dLst (lCons (dTup (lCons (dVar 7) (lCons (dBin fIx (dBin fIx (dVar 1) (dBin fIx (dVar 8) (dC (.int 0)))) (dC (.int 2))) lNil))) (lCons (dTup (lCons (dBin fIx (dBin fIx (dVar 1) (dBin fIx (dVar 7) (dC (.int 0)))) (dC (.int 1))) (lCons (dVar 8) lNil))) (lCons (dTup (lCons (dVar 7) (lCons (dBin fIx (dBin fIx (dVar 1) (dBin fIx (dVar 8) (dC (.int 0)))) (dC (.int 1))) lNil))) (lCons (dTup (lCons (dBin fIx (dBin fIx (dVar 1) (dBin fIx (dVar 7) (dC (.int 0)))) (dC (.int 2))) (lCons (dVar 8) lNil))) lNil)))))) (gN 13) l_law_bent2)
      t_law_bent3)
def b_law_bent : DS := (dSeq (dAsg 4 (dCall P_law_pick.length F_law_pick [] (vOwn 0 (vCons (dCB fLen (aCons (dVar 3) aNil)) vNil))))
      (dSeq (dAsg 5 (dBin fIx (dVar 3) (dVar 4)))
      (dSeq (dAsg 6 (dCall P_law_pick.length F_law_pick [] (vOwn 0 (vCons (dCB fLen (aCons (dVar 5) aNil)) vNil))))
      (dSeq (dAsgG (gT 2 (gsCons (gN 7) (gsCons (gN 8) gsNil))) (dBin fIx (dVar 5) (dVar 6)))
      (dSeq (dAsg 9 (dBin fIx (dVar 2) (dCall P_law_pick.length F_law_pick [] (vOwn 0 (vCons (dCB fLen (aCons (dVar 2) aNil)) vNil)))))
      (dSeq (dAsg 10 (dTup (lCons (dCB fLen (aCons (dVar 1) aNil)) (lCons (dC (.int 0)) lNil))))
      (dSeq (dAsg 11 (dTup (lCons (dC (.int 1000000000)) (lCons (dC (.int 3)) lNil))))
      (dSeq (dAsg 12 (dLst (lCons (dTup lNil) (lCons (dBin fAddT (dSlT (dVar 5) dNoPart (dPart (dVar 6))) (dSlT (dVar 5) (dPart (dBin fAddT (dVar 6) (dC (.int 1)))) dNoPart)) (lCons (dSlT (dVar 5) dNoPart (dPart (dBin fAddT (dVar 6) (dC (.int 1))))) (lCons (dSlT (dVar 5) (dPart (dVar 6)) dNoPart) (lCons (dBin fAddT (dVar 5) (dTup (lCons (dBin fIx (dVar 5) (dUn fNeg (dC (.int 1)))) lNil))) (lCons (dBin fAddT (dSlT (dVar 5) dNoPart (dPart (dVar 6))) (dTup (lCons (dTup (lCons (dVar 7) (lCons (dVar 7) lNil))) lNil))) lNil))))))))
      (dSeq (dFor (dItems (dLst (lCons (dTup (lCons (dVar 8) (lCons (dVar 7) lNil))) (lCons (dTup (lCons (dVar 9) (lCons (dVar 8) lNil))) (lCons (dTup (lCons (dVar 7) (lCons (dVar 9) lNil))) (lCons (dTup (lCons (dVar 7) (lCons (dVar 10) lNil))) (lCons (dTup (lCons (dVar 11) (lCons (dVar 8) lNil))) (lCons (dTup (lCons (dVar 7) (lCons (dTup (lCons (dBin fIx (dVar 8) (dC (.int 0))) (lCons (dBin fAddT (dBin fIx (dVar 8) (dC (.int 1))) (dC (.int 1))) lNil))) lNil))) (lCons (dTup (lCons (dTup (lCons (dC (.int 0)) (lCons (dC (.int 0)) lNil))) (lCons (dTup (lCons (dC (.int 0)) (lCons (dC (.int 1)) lNil))) lNil))) (lCons (dTup (lCons (dVar 9) (lCons (dVar 9) lNil))) lNil)))))))))) (gN 13) l_law_bent1)
      t_law_bent4)))))))))
theorem q_law_bent {P : Program} {w : World} {K : PySem.W.Frag} {mg : Str → Option Value} {base : Heap} {PL : PoolP} {f : Addr} (D_law_pick : Def P w K mg base PL CX0 1 "_law_pick" s_law_pick [] [] P_law_pick F_law_pick) (z_len : mg "len" = none) {cdv : Value} {A : Around} {outer : List Env} {s : Shared} {H : Hp} {E : XK} (hr : Room 1 (A.deeper (envOfC "_law_bent" (defScope s_law_bent) s.heap.objs.size f cdv))) : QSs (cxOf CX0 P w K mg base N_law_bent "_law_bent" (defScope s_law_bent) f cdv A outer s H E).nox PL (defBody s_law_bent) b_law_bent := by
  delta b_law_bent t_law_bent4 t_law_bent3 l_law_bent2 l_law_bent1
  exact (qss_cons (qs_set (i := 4) (qe_call D_law_pick rfl rfl rfl rfl rfl bi_law_pick (qv_own (pv 0) (qv_cons (qe_cb cr_lenA cd_len (by rfl) z_len (by decide +kernel) (qa_cons (qe_var (pv 3)) qa_nil)) qv_nil)) (hr.mono (by decide)) (by rfl) pass0) sc_law_bent.nd rfl (Or.inr rfl))
      (qss_cons (qs_set (i := 5) (qe_ix ix_seq opd_ix (qe_var (pv 3)) (qe_var (pv 4)) (fun _ _ => rfl)) sc_law_bent.nd rfl (Or.inl rfl))
      (qss_cons (qs_set (i := 6) (qe_call D_law_pick rfl rfl rfl rfl rfl bi_law_pick (qv_own (pv 0) (qv_cons (qe_cb cr_lenA cd_len (by rfl) z_len (by decide +kernel) (qa_cons (qe_var (pv 5)) qa_nil)) qv_nil)) (hr.mono (by decide)) (by rfl) pass0) sc_law_bent.nd rfl (Or.inl rfl))
      (qss_cons (qs_asg (qe_ix ix_seq opd_ix (qe_var (pv 5)) (qe_var (pv 6)) (fun _ _ => rfl)) (qg_tup rfl (qgs_cons (qg_name (i := 7) sc_law_bent.nd rfl (Or.inl rfl)) (qgs_cons (qg_name (i := 8) sc_law_bent.nd rfl (Or.inl rfl)) qgs_nil))))
      (qss_cons (qs_set (i := 9) (qe_ix ix_seq opd_ix (qe_var (pv 2)) (qe_call D_law_pick rfl rfl rfl rfl rfl bi_law_pick (qv_own (pv 0) (qv_cons (qe_cb cr_lenA cd_len (by rfl) z_len (by decide +kernel) (qa_cons (qe_var (pv 2)) qa_nil)) qv_nil)) (hr.mono (by decide)) (by rfl) pass0) (fun _ _ => rfl)) sc_law_bent.nd rfl (Or.inl rfl))
      (qss_cons (qs_set (i := 10) (qe_tup (ql_cons (qe_cb cr_lenA cd_len (by rfl) z_len (by decide +kernel) (qa_cons (qe_var (pv 1)) qa_nil)) (ql_cons qe_int ql_nil))) sc_law_bent.nd rfl (Or.inl rfl))
      (qss_cons (qs_set (i := 11) (qe_tup (ql_cons qe_int (ql_cons qe_int ql_nil))) sc_law_bent.nd rfl (Or.inl rfl))
      (qss_cons (qs_set (i := 12) (qe_lst (ql_cons (qe_tup ql_nil) (ql_cons (qe_op opr_addT opd_addT (qe_slT (qe_var (pv 5)) qo_none (qo_some (qe_var (pv 6)))) (qe_slT (qe_var (pv 5)) (qo_some (qe_op opr_addT opd_addT (qe_var (pv 6)) qe_int)) qo_none)) (ql_cons (qe_slT (qe_var (pv 5)) qo_none (qo_some (qe_op opr_addT opd_addT (qe_var (pv 6)) qe_int))) (ql_cons (qe_slT (qe_var (pv 5)) (qo_some (qe_var (pv 6))) qo_none) (ql_cons (qe_op opr_addT opd_addT (qe_var (pv 5)) (qe_tup (ql_cons (qe_ix ix_seq opd_ix (qe_var (pv 5)) (qe_un un_neg und_neg qe_int) (fun _ _ => rfl)) ql_nil))) (ql_cons (qe_op opr_addT opd_addT (qe_slT (qe_var (pv 5)) qo_none (qo_some (qe_var (pv 6)))) (qe_tup (ql_cons (qe_tup (ql_cons (qe_var (pv 7)) (ql_cons (qe_var (pv 7)) ql_nil))) ql_nil))) ql_nil))))))) sc_law_bent.nd rfl (Or.inl rfl))
      (qss_cons (qs_for (qi_any (qe_lst (ql_cons (qe_tup (ql_cons (qe_var (pv 8)) (ql_cons (qe_var (pv 7)) ql_nil))) (ql_cons (qe_tup (ql_cons (qe_var (pv 9)) (ql_cons (qe_var (pv 8)) ql_nil))) (ql_cons (qe_tup (ql_cons (qe_var (pv 7)) (ql_cons (qe_var (pv 9)) ql_nil))) (ql_cons (qe_tup (ql_cons (qe_var (pv 7)) (ql_cons (qe_var (pv 10)) ql_nil))) (ql_cons (qe_tup (ql_cons (qe_var (pv 11)) (ql_cons (qe_var (pv 8)) ql_nil))) (ql_cons (qe_tup (ql_cons (qe_var (pv 7)) (ql_cons (qe_tup (ql_cons (qe_ix ix_seq opd_ix (qe_var (pv 8)) qe_int (fun _ _ => rfl)) (ql_cons (qe_op opr_addT opd_addT (qe_ix ix_seq opd_ix (qe_var (pv 8)) qe_int (fun _ _ => rfl)) qe_int) ql_nil))) ql_nil))) (ql_cons (qe_tup (ql_cons (qe_tup (ql_cons qe_int (ql_cons qe_int ql_nil))) (ql_cons (qe_tup (ql_cons qe_int (ql_cons qe_int ql_nil))) ql_nil))) (ql_cons (qe_tup (ql_cons (qe_var (pv 9)) (ql_cons (qe_var (pv 9)) ql_nil))) ql_nil)))))))))) (qg_name (i := 13) sc_law_bent.nd rfl (Or.inl rfl)) (qss_one (qs_expr (qe_meth (T := "list") PySem.F.plainAttrs_list PySem.F.slot_list_append PySem.F.type_list_append mt_append mut_append (pv 12) (ql_cons (qe_op opr_addT opd_addT (qe_op opr_addT opd_addT (qe_slT (qe_var (pv 5)) qo_none (qo_some (qe_var (pv 6)))) (qe_tup (ql_cons (qe_var (pv 13)) ql_nil))) (qe_slT (qe_var (pv 5)) (qo_some (qe_op opr_addT opd_addT (qe_var (pv 6)) qe_int)) qo_none)) ql_nil)))) PassesOwn.never rfl)
      (qss_cons (qs_for (qi_any (qe_lst (ql_cons (qe_tup (ql_cons (qe_var (pv 7)) (ql_cons (qe_ix ix_seq opd_ix (qe_ix ix_seq opd_ix (qe_var (pv 1)) (qe_ix ix_seq opd_ix (qe_var (pv 8)) qe_int (fun _ _ => rfl)) (fun _ _ => rfl)) qe_int (fun _ _ => rfl)) ql_nil))) (ql_cons (qe_tup (ql_cons (qe_ix ix_seq opd_ix (qe_ix ix_seq opd_ix (qe_var (pv 1)) (qe_ix ix_seq opd_ix (qe_var (pv 7)) qe_int (fun _ _ => rfl)) (fun _ _ => rfl)) qe_int (fun _ _ => rfl)) (ql_cons (qe_var (pv 8)) ql_nil))) (ql_cons (qe_tup (ql_cons (qe_var (pv 7)) (ql_cons (qe_ix ix_seq opd_ix (qe_ix ix_seq opd_ix (qe_var (pv 1)) (qe_ix ix_seq opd_ix (qe_var (pv 8)) qe_int (fun _ _ => rfl)) (fun _ _ => rfl)) qe_int (fun _ _ => rfl)) ql_nil))) (ql_cons (qe_tup (ql_cons (qe_ix ix_seq opd_ix (qe_ix ix_seq opd_ix (qe_var (pv 1)) (qe_ix ix_seq opd_ix (qe_var (pv 7)) qe_int (fun _ _ => rfl)) (fun _ _ => rfl)) qe_int (fun _ _ => rfl)) (ql_cons (qe_var (pv 8)) ql_nil))) ql_nil)))))) (qg_name (i := 13) sc_law_bent.nd rfl (Or.inl rfl)) (qss_one (qs_expr (qe_meth (T := "list") PySem.F.plainAttrs_list PySem.F.slot_list_append PySem.F.type_list_append mt_append mut_append (pv 12) (ql_cons (qe_op opr_addT opd_addT (qe_slT (qe_var (pv 5)) qo_none (qo_some (qe_op opr_addT opd_addT (qe_var (pv 6)) qe_int))) (qe_tup (ql_cons (qe_var (pv 13)) ql_nil))) ql_nil)))) PassesOwn.never rfl)
      (qss_cons (qs_setLc (i := 14) (own := [("bent", 15)]) (qi_any (qe_var (pv 12))) (ng_name (i := 15) (by decide)) rfl sc_law_bent.nd rfl rfl (sw_true rfl rfl rfl (by decide +kernel)) (blkOk_by (N := N_law_bent) (sc := defScope s_law_bent) (by decide +kernel)) (fun _ _ _ _ _ => (pg_name (i := 15) sc_law_bent.nd rfl (Or.inl rfl))) (fun _ _ _ _ _ => qts_nil) (fun _ _ _ _ _ => (qe_op opr_addT opd_addT (qe_op opr_addT opd_addT (qe_slT (qe_var (pv 3)) qo_none (qo_some (qe_var (pv 4)))) (qe_tup (ql_cons (qe_var (pv 15)) ql_nil))) (qe_slT (qe_var (pv 3)) (qo_some (qe_op opr_addT opd_addT (qe_var (pv 4)) qe_int)) qo_none))))
      (qss_one (qs_ret (qe_op opr_addT opd_addT (qe_var (pv 14)) (qe_lst (ql_cons (qe_slT (qe_var (pv 3)) qo_none (qo_some (qe_var (pv 4)))) (ql_cons (qe_slT (qe_var (pv 3)) (qo_some (qe_op opr_addT opd_addT (qe_var (pv 4)) qe_int)) qo_none) (ql_cons (qe_op opr_addT opd_addT (qe_var (pv 3)) (qe_tup (ql_cons (qe_var (pv 5)) ql_nil))) (ql_cons (qe_rvT (qe_var (pv 3))) (ql_cons (qe_tup ql_nil) ql_nil))))))))))))))))))))
def l_law_holds1 : DS := (dSeq (dAsg 11 (dCall P_law_fits.length F_law_fits [] (vCons (dVar 1) (vCons (dVar 4) (vCons (dVar 10) vNil)))))
      (dIf (dOr (dAnd (dTru (dVar 11)) (dNot (dTru (dVar 7)))) (dNot (dTru (dCall P_law_same.length F_law_same [] (vCons (dCall P_chain_fits.length F_chain_fits [] (vCons (dVar 1) (vCons (dVar 4) (vCons (dVar 10) vNil)))) (vCons (dVar 11) vNil)))))) (dRet (dC (.bl false))) dNext))
def t_law_holds2 : DS := (dRet (dCall P_law_same.length F_law_same [] (vCons (dCallK P_chain_fits.length 0 3 F_chain_fits (fun avs kvs => pick (.dat .non) [.inr 2, .inr 1, .inr 0] avs kvs ++ []) vNil (vCons (dVar 8) (vCons (dVar 4) (vCons (dVar 1) vNil)))) (vCons (dCall P_law_fits.length F_law_fits [] (vCons (dVar 1) (vCons (dVar 4) (vCons (dVar 8) vNil)))) vNil))))
def t_law_holds3 : DS := (dSeq (dFor (dItems (dVar 9)) (gN 10) l_law_holds1)
      t_law_holds2)
def t_law_holds4 : DS := (dSeq (dAsg 8 (dCB fTuple (aCons (dLc (dRng1 (lCons (dBin fSub (dCB fLen (aCons (dVar 4) aNil)) (dC (.int 1))) lNil)) (gN 12) dYes (dCall P_law_walk.length F_law_walk [] (vOwn 0 (vCons (dVar 1) (vCons (dVar 2) (vCons (dVar 3) (vCons (dBin fIx (dVar 4) (dVar 12)) (vCons (dBin fIx (dVar 4) (dBin fAddT (dVar 12) (dC (.int 1)))) vNil))))))) [12]) aNil)))
      (dSeq (dAsg 9 (dLst (lCons (dVar 6) (lCons (dVar 8) lNil))))
      (dSeq (dIf (dBinT fGt (dCB fLen (aCons (dVar 4) aNil)) (dC (.int 1))) (dSeq (dAsg 9 (dBin fAddT (dVar 9) (dCall P_law_bent.length F_law_bent [] (vOwn 0 (vCons (dVar 1) (vCons (dVar 2) (vCons (dVar 8) vNil)))))))
      (dAsg 9 (dBin fAddT (dVar 9) (dCall P_law_bent.length F_law_bent [] (vOwn 0 (vCons (dVar 1) (vCons (dVar 2) (vCons (dVar 6) vNil)))))))) dNext)
      t_law_holds3)))
def b_law_holds : DS := (dSeq (dAsg 5 (dCall P_chain_paper.length F_chain_paper [] (vCons (dVar 1) (vCons (dVar 4) vNil))))
      (dSeq (dAsg 6 (dCall P_law_paper.length F_law_paper [] (vCons (dVar 1) (vCons (dVar 4) vNil))))
      (dSeq (dAsg 7 (dCall P_law_chained.length F_law_chained [] (vCons (dVar 2) (vCons (dVar 3) (vCons (dVar 4) vNil)))))
      (dSeq (dIf (dOr (dNot (dTru (dCall P_law_same.length F_law_same [] (vCons (dVar 5) (vCons (dVar 6) vNil))))) (dNot (dTru (dCall P_law_same.length F_law_same [] (vCons (dCall P_chain_fits.length F_chain_fits [] (vCons (dVar 1) (vCons (dVar 4) (vCons (dVar 5) vNil)))) (vCons (dVar 7) vNil)))))) (dRet (dC (.bl false))) dNext)
      t_law_holds4))))
theorem q_law_holds {P : Program} {w : World} {K : PySem.W.Frag} {mg : Str → Option Value} {base : Heap} {PL : PoolP} {f : Addr} (D_chain_paper : Def P w K mg base PL CX0 3 "chain_paper" s_chain_paper [] [] P_chain_paper F_chain_paper) (D_law_paper : Def P w K mg base PL CX0 2 "_law_paper" s_law_paper [] [] P_law_paper F_law_paper) (D_law_chained : Def P w K mg base PL CX0 2 "_law_chained" s_law_chained [] [] P_law_chained F_law_chained) (D_law_same : Def P w K mg base PL CX0 5 "_law_same" s_law_same [] [] P_law_same F_law_same) (D_law_fits : Def P w K mg base PL CX0 3 "_law_fits" s_law_fits [] [] P_law_fits F_law_fits) (D_chain_fits : Def P w K mg base PL CX0 3 "chain_fits" s_chain_fits [] [] P_chain_fits F_chain_fits) (D_law_walk : Def P w K mg base PL CX0 2 "_law_walk" s_law_walk [] [] P_law_walk F_law_walk) (D_law_bent : Def P w K mg base PL CX0 2 "_law_bent" s_law_bent [] [] P_law_bent F_law_bent) (z_len : mg "len" = none) (z_range : mg "range" = none) (z_tuple : mg "tuple" = none) {cdv : Value} {A : Around} {outer : List Env} {s : Shared} {H : Hp} {E : XK} (hr : Room 5 (A.deeper (envOfC "_law_holds" (defScope s_law_holds) s.heap.objs.size f cdv))) : QSs (cxOf CX0 P w K mg base N_law_holds "_law_holds" (defScope s_law_holds) f cdv A outer s H E).nox PL (defBody s_law_holds) b_law_holds := by
  delta b_law_holds t_law_holds4 t_law_holds3 t_law_holds2 l_law_holds1
  exact (qss_cons (qs_set (i := 5) (qe_call D_chain_paper rfl rfl rfl rfl rfl bi_chain_paper (qv_cons (qe_var (pv 1)) (qv_cons (qe_var (pv 4)) qv_nil)) (hr.mono (by decide)) (by rfl) pass0) sc_law_holds.nd rfl (Or.inl rfl))
      (qss_cons (qs_set (i := 6) (qe_call D_law_paper rfl rfl rfl rfl rfl bi_law_paper (qv_cons (qe_var (pv 1)) (qv_cons (qe_var (pv 4)) qv_nil)) (hr.mono (by decide)) (by rfl) pass0) sc_law_holds.nd rfl (Or.inl rfl))
      (qss_cons (qs_set (i := 7) (qe_call D_law_chained rfl rfl rfl rfl rfl bi_law_chained (qv_cons (qe_var (pv 2)) (qv_cons (qe_var (pv 3)) (qv_cons (qe_var (pv 4)) qv_nil))) (hr.mono (by decide)) (by rfl) pass0) sc_law_holds.nd rfl (Or.inl rfl))
      (qss_cons (qs_if (QW.t (qw_or (qt_not (qt_val (qe_call D_law_same rfl rfl rfl rfl rfl bi_law_same (qv_cons (qe_var (pv 5)) (qv_cons (qe_var (pv 6)) qv_nil)) (hr.mono (by decide)) (by rfl) pass0))) (qw_or1 (qt_not (qt_val (qe_call D_law_same rfl rfl rfl rfl rfl bi_law_same (qv_cons (qe_call D_chain_fits rfl rfl rfl rfl rfl bi_chain_fits (qv_cons (qe_var (pv 1)) (qv_cons (qe_var (pv 4)) (qv_cons (qe_var (pv 5)) qv_nil))) (hr.mono (by decide)) (by rfl) pass0) (qv_cons (qe_var (pv 7)) qv_nil)) (hr.mono (by decide)) (by rfl) pass0)))))) (qss_one (qs_ret qe_bl)) qss_nil)
      (qss_cons (qs_set (i := 8) (qe_cty call_tuple_of cd_tuple (by rfl) z_tuple (by decide +kernel) (qa_cons (qe_lc (own := [("k", 12)]) (qi_rng1 (ql_cons (qe_op op_sub opd_sub (qe_cb cr_lenA cd_len (by rfl) z_len (by decide +kernel) (qa_cons (qe_var (pv 4)) qa_nil)) qe_int) ql_nil) (by rfl) z_range) (ng_name (i := 12) (by decide)) rfl sc_law_holds.nd (blkOk_by (N := N_law_holds) (sc := defScope s_law_holds) (by decide +kernel)) (fun _ _ _ _ _ => (pg_name (i := 12) sc_law_holds.nd rfl (Or.inl rfl))) (fun _ _ _ _ _ => qts_nil) (fun _ _ _ _ _ => (qe_call D_law_walk rfl rfl rfl rfl rfl bi_law_walk (qv_own (pv 0) (qv_cons (qe_var (pv 1)) (qv_cons (qe_var (pv 2)) (qv_cons (qe_var (pv 3)) (qv_cons (qe_ix ix_seq opd_ix (qe_var (pv 4)) (qe_var (pv 12)) (fun _ _ => rfl)) (qv_cons (qe_ix ix_seq opd_ix (qe_var (pv 4)) (qe_op opr_addT opd_addT (qe_var (pv 12)) qe_int) (fun _ _ => rfl)) qv_nil)))))) (hr.mono (by decide)) (by rfl) pass0))) qa_nil)) sc_law_holds.nd rfl (Or.inl rfl))
      (qss_cons (qs_set (i := 9) (qe_lst (ql_cons (qe_var (pv 6)) (ql_cons (qe_var (pv 8)) ql_nil))) sc_law_holds.nd rfl (Or.inl rfl))
      (qss_cons (qs_if (qt_cmp op_gt opd_gt (qe_cb cr_lenA cd_len (by rfl) z_len (by decide +kernel) (qa_cons (qe_var (pv 4)) qa_nil)) qe_int (nomark _)) (qss_cons (qs_set (i := 9) (qe_op opr_addT opd_addT (qe_var (pv 9)) (qe_call D_law_bent rfl rfl rfl rfl rfl bi_law_bent (qv_own (pv 0) (qv_cons (qe_var (pv 1)) (qv_cons (qe_var (pv 2)) (qv_cons (qe_var (pv 8)) qv_nil)))) (hr.mono (by decide)) (by rfl) pass0)) sc_law_holds.nd rfl (Or.inl rfl))
      (qss_one (qs_set (i := 9) (qe_op opr_addT opd_addT (qe_var (pv 9)) (qe_call D_law_bent rfl rfl rfl rfl rfl bi_law_bent (qv_own (pv 0) (qv_cons (qe_var (pv 1)) (qv_cons (qe_var (pv 2)) (qv_cons (qe_var (pv 6)) qv_nil)))) (hr.mono (by decide)) (by rfl) pass0)) sc_law_holds.nd rfl (Or.inl rfl)))) qss_nil)
      (qss_cons (qs_for (qi_any (qe_var (pv 9))) (qg_name (i := 10) sc_law_holds.nd rfl (Or.inl rfl)) (qss_cons (qs_set (i := 11) (qe_call D_law_fits rfl rfl rfl rfl rfl bi_law_fits (qv_cons (qe_var (pv 1)) (qv_cons (qe_var (pv 4)) (qv_cons (qe_var (pv 10)) qv_nil))) (hr.mono (by decide)) (by rfl) pass0) sc_law_holds.nd rfl (Or.inl rfl))
      (qss_one (qs_if (QW.t (qw_or (QW.t (qw_and (qt_val (qe_var (pv 11))) (qw_and1 (qt_not (qt_val (qe_var (pv 7))))))) (qw_or1 (qt_not (qt_val (qe_call D_law_same rfl rfl rfl rfl rfl bi_law_same (qv_cons (qe_call D_chain_fits rfl rfl rfl rfl rfl bi_chain_fits (qv_cons (qe_var (pv 1)) (qv_cons (qe_var (pv 4)) (qv_cons (qe_var (pv 10)) qv_nil))) (hr.mono (by decide)) (by rfl) pass0) (qv_cons (qe_var (pv 11)) qv_nil)) (hr.mono (by decide)) (by rfl) pass0)))))) (qss_one (qs_ret qe_bl)) qss_nil))) PassesOwn.never rfl)
      (qss_one (qs_ret (qe_call D_law_same rfl rfl rfl rfl rfl bi_law_same (qv_cons (qe_callN0 (ks := ["paper", "row", "births"]) D_chain_fits rfl rfl rfl rfl rfl kb_chain_fits_0 (qk_cons (qe_var (pv 8)) (qk_cons (qe_var (pv 4)) (qk_cons (qe_var (pv 1)) qk_nil))) (hr.mono (by decide)) (by rfl) pass0) (qv_cons (qe_call D_law_fits rfl rfl rfl rfl rfl bi_law_fits (qv_cons (qe_var (pv 1)) (qv_cons (qe_var (pv 4)) (qv_cons (qe_var (pv 8)) qv_nil))) (hr.mono (by decide)) (by rfl) pass0) qv_nil)) (hr.mono (by decide)) (by rfl) pass0)))))))))))
def l_law_pair_holds1 : DS := (dSeq (dAsg 7 (dCall P_law_ends.length F_law_ends [] (vCons (dBin fIx (dVar 6) (dUn fNeg (dC (.int 1)))) (vCons (dCB fLen (aCons (dVar 6) aNil)) vNil))))
      (dSeq (dAsg 5 (dBin fAddT (dVar 5) (dCB fInt1 (aCons (dVar 7) aNil))))
      (dIf (dNot (dTru (dCall P_law_same.length F_law_same [] (vCons (dCall P_chain_fits.length F_chain_fits [] (vCons (dVar 0) (vCons (dTup (lCons (dVar 3) (lCons (dVar 4) lNil))) (vCons (dTup (lCons (dVar 6) lNil)) vNil)))) (vCons (dVar 7) vNil))))) (dRet (dC (.bl false))) dNext)))
def t_law_pair_holds2 : DS := (dRet (dOrV (dBin fEq (dVar 5) (dC (.int 0))) (dCall P_law_told.length F_law_told [] (vCons (dVar 1) (vCons (dVar 2) (vCons (dVar 3) (vCons (dVar 4) vNil)))))))
def t_law_pair_holds3 : DS := (dSeq (dIf (dNot (dTru (dCall P_law_same.length F_law_same [] (vCons (dCallK P_chain_paper.length 0 2 F_chain_paper (fun avs kvs => pick (.dat .non) [.inr 1, .inr 0] avs kvs ++ []) vNil (vCons (dTup (lCons (dVar 3) (lCons (dVar 4) lNil))) (vCons (dVar 0) vNil))) (vCons (dTup (lCons (dCall P_law_hops.length F_law_hops [] (vCons (dVar 0) (vCons (dVar 3) (vCons (dVar 4) vNil)))) lNil)) vNil))))) (dRet (dC (.bl false))) dNext)
      t_law_pair_holds2)
def b_law_pair_holds : DS := (dSeq (dAsg 5 (dC (.int 0)))
      (dSeq (dFor (dItems (dCall P_law_walks.length F_law_walks [] (vCons (dVar 0) (vCons (dVar 3) (vCons (dVar 4) vNil))))) (gN 6) l_law_pair_holds1)
      t_law_pair_holds3))
theorem q_law_pair_holds {P : Program} {w : World} {K : PySem.W.Frag} {mg : Str → Option Value} {base : Heap} {PL : PoolP} {f : Addr} (D_law_walks : Def P w K mg base PL CX0 2 "_law_walks" s_law_walks [] [] P_law_walks F_law_walks) (D_law_ends : Def P w K mg base PL CX0 1 "_law_ends" s_law_ends [] [] P_law_ends F_law_ends) (D_law_same : Def P w K mg base PL CX0 5 "_law_same" s_law_same [] [] P_law_same F_law_same) (D_law_told : Def P w K mg base PL CX0 1 "_law_told" s_law_told [] [] P_law_told F_law_told) (D_chain_paper : Def P w K mg base PL CX0 3 "chain_paper" s_chain_paper [] [] P_chain_paper F_chain_paper) (D_chain_fits : Def P w K mg base PL CX0 3 "chain_fits" s_chain_fits [] [] P_chain_fits F_chain_fits) (D_law_hops : Def P w K mg base PL CX0 1 "_law_hops" s_law_hops [] [] P_law_hops F_law_hops) (z_int : mg "int" = none) (z_len : mg "len" = none) {cdv : Value} {A : Around} {outer : List Env} {s : Shared} {H : Hp} {E : XK} (hr : Room 5 (A.deeper (envOfC "_law_pair_holds" (defScope s_law_pair_holds) s.heap.objs.size f cdv))) : QSs (cxOf CX0 P w K mg base N_law_pair_holds "_law_pair_holds" (defScope s_law_pair_holds) f cdv A outer s H E).nox PL (defBody s_law_pair_holds) b_law_pair_holds := by
  delta b_law_pair_holds t_law_pair_holds3 t_law_pair_holds2 l_law_pair_holds1
  exact (qss_cons (qs_set (i := 5) qe_int sc_law_pair_holds.nd rfl (Or.inl rfl))
      (qss_cons (qs_for (qi_any (qe_call D_law_walks rfl rfl rfl rfl rfl bi_law_walks (qv_cons (qe_var (pv 0)) (qv_cons (qe_var (pv 3)) (qv_cons (qe_var (pv 4)) qv_nil))) (hr.mono (by decide)) (by rfl) pass0)) (qg_name (i := 6) sc_law_pair_holds.nd rfl (Or.inl rfl)) (qss_cons (qs_set (i := 7) (qe_call D_law_ends rfl rfl rfl rfl rfl bi_law_ends (qv_cons (qe_ix ix_seq opd_ix (qe_var (pv 6)) (qe_un un_neg und_neg qe_int) (fun _ _ => rfl)) (qv_cons (qe_cb cr_lenA cd_len (by rfl) z_len (by decide +kernel) (qa_cons (qe_var (pv 6)) qa_nil)) qv_nil)) (hr.mono (by decide)) (by rfl) pass0) sc_law_pair_holds.nd rfl (Or.inl rfl))
      (qss_cons (qs_set (i := 5) (qe_op opr_addT opd_addT (qe_var (pv 5)) (qe_cty call_int1 cd_int1 (by rfl) z_int (by decide +kernel) (qa_cons (qe_var (pv 7)) qa_nil))) sc_law_pair_holds.nd rfl (Or.inl rfl))
      (qss_one (qs_if (qt_not (qt_val (qe_call D_law_same rfl rfl rfl rfl rfl bi_law_same (qv_cons (qe_call D_chain_fits rfl rfl rfl rfl rfl bi_chain_fits (qv_cons (qe_var (pv 0)) (qv_cons (qe_tup (ql_cons (qe_var (pv 3)) (ql_cons (qe_var (pv 4)) ql_nil))) (qv_cons (qe_tup (ql_cons (qe_var (pv 6)) ql_nil)) qv_nil))) (hr.mono (by decide)) (by rfl) pass0) (qv_cons (qe_var (pv 7)) qv_nil)) (hr.mono (by decide)) (by rfl) pass0))) (qss_one (qs_ret qe_bl)) qss_nil)))) PassesOwn.never rfl)
      (qss_cons (qs_if (qt_not (qt_val (qe_call D_law_same rfl rfl rfl rfl rfl bi_law_same (qv_cons (qe_callN0 (ks := ["row", "births"]) D_chain_paper rfl rfl rfl rfl rfl kb_chain_paper_0 (qk_cons (qe_tup (ql_cons (qe_var (pv 3)) (ql_cons (qe_var (pv 4)) ql_nil))) (qk_cons (qe_var (pv 0)) qk_nil)) (hr.mono (by decide)) (by rfl) pass0) (qv_cons (qe_tup (ql_cons (qe_call D_law_hops rfl rfl rfl rfl rfl bi_law_hops (qv_cons (qe_var (pv 0)) (qv_cons (qe_var (pv 3)) (qv_cons (qe_var (pv 4)) qv_nil))) (hr.mono (by decide)) (by rfl) pass0) ql_nil)) qv_nil)) (hr.mono (by decide)) (by rfl) pass0))) (qss_one (qs_ret qe_bl)) qss_nil)
      (qss_one (qs_ret (qe_or (qe_cmp (opr_eq hr.units) opd_eq (qe_var (pv 5)) qe_int (nomark _)) (qe_one (qe_call D_law_told rfl rfl rfl rfl rfl bi_law_told (qv_cons (qe_var (pv 1)) (qv_cons (qe_var (pv 2)) (qv_cons (qe_var (pv 3)) (qv_cons (qe_var (pv 4)) qv_nil)))) (hr.mono (by decide)) (by rfl) pass0))))))))
def l_law_long_row1 : DS := (dSeq (dAsg 8 (dBin fIx (dLst (lCons (dC (.int 1)) (lCons (dBin fSub (dCB fLen (aCons (dVar 3) aNil)) (dC (.int 1))) (lCons (dBin fIx (dLst (lCons (dC (.int 1)) (lCons (dBin fSub (dCB fLen (aCons (dVar 3) aNil)) (dC (.int 1))) lNil))) (dCall P_law_pick.length F_law_pick [] (vOwn 0 (vCons (dC (.int 2)) vNil)))) lNil)))) (dVar 2)))
      (dSeq (dAsg 9 (dCall P_law_say.length F_law_say [] (vOwn 0 (vCons (dC (.int 2)) vNil))))
      (dSeq (dAsg 1 (dBin fAddT (dVar 1) (dTup (lCons (dTup (lCons (dBin fAddT (dC (.int 1)) (dCall P_law_pick.length F_law_pick [] (vOwn 0 (vCons (dC (.int 9)) vNil)))) (lCons (dBin fIx (dVar 3) (dBin fSub (dVar 8) (dC (.int 1)))) (lCons (dBin fIx (dVar 3) (dVar 8)) (lCons (dVar 9) lNil))))) lNil))))
      (dAsg 3 (dBin fAddT (dBin fAddT (dSlT (dVar 3) dNoPart (dPart (dVar 8))) (dLc (dRng1 (lCons (dCB fLen (aCons (dVar 9) aNil)) lNil)) (gN 17) dYes (dTup (lCons (dVar 4) (lCons (dVar 17) lNil))) [17])) (dSlT (dVar 3) (dPart (dVar 8)) dNoPart))))))
def l_law_long_row2 : DS := (dSeq (dAsg 16 (dBin fAddT (dBin fAddT (dSlT (dVar 6) dNoPart (dPart (dVar 10))) (dTup (lCons (dVar 12) lNil))) (dSlT (dVar 6) (dPart (dBin fAddT (dVar 10) (dC (.int 1)))) dNoPart)))
      (dIf (dNot (dTru (dCall P_law_same.length F_law_same [] (vCons (dCall P_chain_fits.length F_chain_fits [] (vCons (dVar 1) (vCons (dVar 5) (vCons (dVar 16) vNil)))) (vCons (dCall P_law_fits.length F_law_fits [] (vCons (dVar 1) (vCons (dVar 5) (vCons (dVar 16) vNil)))) vNil))))) (dRet (dC (.bl false))) dNext))
def l_law_long_row3 : DS := (dIf (dNot (dTru (dCall P_law_same.length F_law_same [] (vCons (dCall P_chain_fits.length F_chain_fits [] (vCons (dVar 1) (vCons (dVar 13) (vCons (dTup (lCons (dVar 12) lNil)) vNil)))) (vCons (dCall P_law_fits.length F_law_fits [] (vCons (dVar 1) (vCons (dVar 13) (vCons (dTup (lCons (dVar 12) lNil)) vNil)))) vNil))))) (dRet (dC (.bl false))) dNext)
def t_law_long_row4 : DS := (dIf (dBinT (fNtB false) (dCall P_chain_fits.length F_chain_fits [] (vCons (dVar 1) (vCons (dTup (lCons (dBin fIx (dVar 13) (dC (.int 1))) (lCons (dBin fIx (dVar 13) (dC (.int 0))) lNil))) (vCons (dCall P_law_paper.length F_law_paper [] (vCons (dVar 1) (vCons (dTup (lCons (dBin fIx (dVar 13) (dC (.int 1))) (lCons (dBin fIx (dVar 13) (dC (.int 0))) lNil))) vNil))) vNil)))) (dC (.bl false))) (dRet (dC (.bl false))) dNext)
def t_law_long_row5 : DS := (dSeq (dAsg 15 (dBin fSub (dBin fSub (dCB fLen (aCons (dVar 14) aNil)) (dC (.int 1))) (dCall P_law_pick.length F_law_pick [] (vOwn 0 (vCons (dCB fMin2 (aCons (dC (.int 9)) (aCons (dCB fLen (aCons (dVar 14) aNil)) aNil))) vNil)))))
      (dSeq (dFor (dItems (dLst (lCons (dBin fAddT (dSlT (dVar 14) dNoPart (dPart (dVar 15))) (dSlT (dVar 14) (dPart (dBin fAddT (dVar 15) (dC (.int 1)))) dNoPart)) (lCons (dSlT (dVar 14) dNoPart (dPart (dBin fAddT (dVar 15) (dC (.int 1))))) (lCons (dBin fAddT (dBin fAddT (dSlT (dVar 14) dNoPart (dPart (dVar 15))) (dTup (lCons (dVar 13) lNil))) (dSlT (dVar 14) (dPart (dBin fAddT (dVar 15) (dC (.int 1)))) dNoPart)) lNil))))) (gN 12) l_law_long_row3)
      t_law_long_row4))
def t_law_long_row6 : DS := (dSeq (dAsg 13 (dTup (lCons (dBin fIx (dVar 5) (dBin fAddT (dC (.int 1)) (dCall P_law_pick.length F_law_pick [] (vOwn 0 (vCons (dC (.int 9)) vNil))))) (lCons (dBin fIx (dVar 5) (dBin fSub (dBin fSub (dCB fLen (aCons (dVar 5) aNil)) (dC (.int 2))) (dCall P_law_pick.length F_law_pick [] (vOwn 0 (vCons (dC (.int 9)) vNil))))) lNil))))
      (dSeq (dAsg 14 (dCall P_law_hops.length F_law_hops [] (vCons (dVar 1) (vCons (dBin fIx (dVar 13) (dC (.int 0))) (vCons (dBin fIx (dVar 13) (dC (.int 1))) vNil)))))
      (dSeq (dIf (dOr (dNot (dTru (dCall P_law_same.length F_law_same [] (vCons (dCall P_chain_paper.length F_chain_paper [] (vCons (dVar 1) (vCons (dVar 13) vNil))) (vCons (dTup (lCons (dVar 14) lNil)) vNil))))) (dBinT (fNtB true) (dCall P_chain_fits.length F_chain_fits [] (vCons (dVar 1) (vCons (dVar 13) (vCons (dTup (lCons (dVar 14) lNil)) vNil)))) (dC (.bl true)))) (dRet (dC (.bl false))) dNext)
      t_law_long_row5)))
def t_law_long_row7 : DS := (dSeq (dFor (dItems (dLst (lCons (dSlT (dBin fIx (dVar 6) (dVar 10)) dNoPart (dPart (dUn fNeg (dC (.int 1))))) (lCons (dSlT (dBin fIx (dVar 6) (dVar 10)) (dPart (dC (.int 1))) dNoPart) (lCons (dBin fAddT (dBin fIx (dVar 6) (dVar 10)) (dSlT (dBin fIx (dVar 6) (dVar 10)) (dPart (dUn fNeg (dC (.int 1)))) dNoPart)) (lCons (dBin fIx (dVar 6) (dBin fSub (dVar 10) (dC (.int 1)))) lNil)))))) (gN 12) l_law_long_row2)
      t_law_long_row6)
def t_law_long_row8 : DS := (dSeq (dIf (dBinT (fNtB false) (dCall P_chain_fits.length F_chain_fits [] (vCons (dVar 1) (vCons (dVar 11) (vCons (dCall P_law_paper.length F_law_paper [] (vCons (dVar 1) (vCons (dVar 11) vNil))) vNil)))) (dC (.bl false))) (dRet (dC (.bl false))) dNext)
      t_law_long_row7)
def l_law_long_row9 : DS := (dSeq (dAsg 10 (dBin fSub (dBin fSub (dCB fLen (aCons (dVar 5) aNil)) (dC (.int 2))) (dCall P_law_pick.length F_law_pick [] (vOwn 0 (vCons (dBin fIx (dLst (lCons (dC (.int 9)) (lCons (dBin fSub (dCB fLen (aCons (dVar 5) aNil)) (dC (.int 1))) lNil))) (dBin fDiv (dVar 7) (dC (.int 2)))) vNil)))))
      (dSeq (dAsg 11 (dBin fAddT (dBin fAddT (dSlT (dVar 5) dNoPart (dPart (dVar 10))) (dTup (lCons (dBin fIx (dVar 5) (dBin fAddT (dVar 10) (dC (.int 1)))) (lCons (dBin fIx (dVar 5) (dVar 10)) lNil)))) (dSlT (dVar 5) (dPart (dBin fAddT (dVar 10) (dC (.int 2)))) dNoPart)))
      (dSeq (dIf (dNot (dTru (dCall P_law_same.length F_law_same [] (vCons (dCall P_chain_paper.length F_chain_paper [] (vCons (dVar 1) (vCons (dVar 11) vNil))) (vCons (dCall P_law_paper.length F_law_paper [] (vCons (dVar 1) (vCons (dVar 11) vNil))) vNil))))) (dRet (dC (.bl false))) dNext)
      t_law_long_row8)))
def t_law_long_row10 : DS := (dRet (dC (.bl true)))
def t_law_long_row11 : DS := (dSeq (dFor (dRng1 (lCons (dC (.int 4)) lNil)) (gN 7) l_law_long_row9)
      t_law_long_row10)
def t_law_long_row12 : DS := (dSeq (dAsg 5 (dCB fTuple (aCons (dVar 3) aNil)))
      (dSeq (dAsg 6 (dCall P_law_paper.length F_law_paper [] (vCons (dVar 1) (vCons (dVar 5) vNil))))
      (dSeq (dIf (dOr (dNot (dTru (dCall P_law_same.length F_law_same [] (vCons (dCall P_chain_paper.length F_chain_paper [] (vCons (dVar 1) (vCons (dVar 5) vNil))) (vCons (dVar 6) vNil))))) (dBinT (fNtB true) (dCall P_chain_fits.length F_chain_fits [] (vCons (dVar 1) (vCons (dVar 5) (vCons (dVar 6) vNil)))) (dC (.bl true)))) (dRet (dC (.bl false))) dNext)
      t_law_long_row11)))
def b_law_long_row : DS := (dSeq (dAsg 1 (dTup (lCons (dTup (lCons (dC (.int 0)) (lCons (dTup (lCons (dC (.int 0)) (lCons (dC (.int 0)) lNil))) (lCons (dTup (lCons (dC (.int 0)) (lCons (dC (.int 1)) lNil))) (lCons (dC (.str [])) lNil))))) lNil)))
      (dSeq (dAsg 2 (dCall P_law_pick.length F_law_pick [] (vOwn 0 (vCons (dC (.int 3)) vNil))))
      (dSeq (dAsg 3 (dLst (lCons (dTup (lCons (dC (.int 0)) (lCons (dC (.int 0)) lNil))) (lCons (dTup (lCons (dC (.int 0)) (lCons (dC (.int 1)) lNil))) lNil))))
      (dSeq (dFor (dRng2 (lCons (dC (.int 1)) (lCons (dBin fAddT (dC (.int 99)) (dCall P_law_pick.length F_law_pick [] (vOwn 0 (vCons (dC (.int 99)) vNil)))) lNil))) (gN 4) l_law_long_row1)
      t_law_long_row12))))
theorem q_law_long_row {P : Program} {w : World} {K : PySem.W.Frag} {mg : Str → Option Value} {base : Heap} {PL : PoolP} {f : Addr} (D_law_pick : Def P w K mg base PL CX0 1 "_law_pick" s_law_pick [] [] P_law_pick F_law_pick) (D_law_paper : Def P w K mg base PL CX0 2 "_law_paper" s_law_paper [] [] P_law_paper F_law_paper) (D_law_say : Def P w K mg base PL CX0 2 "_law_say" s_law_say [] [] P_law_say F_law_say) (D_law_hops : Def P w K mg base PL CX0 1 "_law_hops" s_law_hops [] [] P_law_hops F_law_hops) (D_law_same : Def P w K mg base PL CX0 5 "_law_same" s_law_same [] [] P_law_same F_law_same) (D_chain_fits : Def P w K mg base PL CX0 3 "chain_fits" s_chain_fits [] [] P_chain_fits F_chain_fits) (D_chain_paper : Def P w K mg base PL CX0 3 "chain_paper" s_chain_paper [] [] P_chain_paper F_chain_paper) (D_law_fits : Def P w K mg base PL CX0 3 "_law_fits" s_law_fits [] [] P_law_fits F_law_fits) (z_len : mg "len" = none) (z_min : mg "min" = none) (z_range : mg "range" = none) (z_tuple : mg "tuple" = none) {cdv : Value} {A : Around} {outer : List Env} {s : Shared} {H : Hp} {E : XK} (hr : Room 5 (A.deeper (envOfC "_law_long_row" (defScope s_law_long_row) s.heap.objs.size f cdv))) : QSs (cxOf CX0 P w K mg base N_law_long_row "_law_long_row" (defScope s_law_long_row) f cdv A outer s H E).nox PL (defBody s_law_long_row) b_law_long_row := by
  delta b_law_long_row t_law_long_row12 t_law_long_row11 t_law_long_row10 l_law_long_row9 t_law_long_row8 t_law_long_row7 t_law_long_row6 t_law_long_row5 t_law_long_row4 l_law_long_row3 l_law_long_row2 l_law_long_row1
  exact (qss_cons (qs_set (i := 1) (qe_tup (ql_cons (qe_tup (ql_cons qe_int (ql_cons (qe_tup (ql_cons qe_int (ql_cons qe_int ql_nil))) (ql_cons (qe_tup (ql_cons qe_int (ql_cons qe_int ql_nil))) (ql_cons (qe_str [] (by decide +kernel)) ql_nil))))) ql_nil)) sc_law_long_row.nd rfl (Or.inl rfl))
      (qss_cons (qs_set (i := 2) (qe_call D_law_pick rfl rfl rfl rfl rfl bi_law_pick (qv_own (pv 0) (qv_cons qe_int qv_nil)) (hr.mono (by decide)) (by rfl) pass0) sc_law_long_row.nd rfl (Or.inl rfl))
      (qss_cons (qs_set (i := 3) (qe_lst (ql_cons (qe_tup (ql_cons qe_int (ql_cons qe_int ql_nil))) (ql_cons (qe_tup (ql_cons qe_int (ql_cons qe_int ql_nil))) ql_nil))) sc_law_long_row.nd rfl (Or.inl rfl))
      (qss_cons (qs_for (qi_rng2 (ql_cons qe_int (ql_cons (qe_op opr_addT opd_addT qe_int (qe_call D_law_pick rfl rfl rfl rfl rfl bi_law_pick (qv_own (pv 0) (qv_cons qe_int qv_nil)) (hr.mono (by decide)) (by rfl) pass0)) ql_nil)) (by rfl) z_range) (qg_name (i := 4) sc_law_long_row.nd rfl (Or.inr rfl)) (qss_cons (qs_set (i := 8) (qe_ix ix_seq opd_ix (qe_lst (ql_cons qe_int (ql_cons (qe_op op_sub opd_sub (qe_cb cr_lenA cd_len (by rfl) z_len (by decide +kernel) (qa_cons (qe_var (pv 3)) qa_nil)) qe_int) (ql_cons (qe_ix ix_seq opd_ix (qe_lst (ql_cons qe_int (ql_cons (qe_op op_sub opd_sub (qe_cb cr_lenA cd_len (by rfl) z_len (by decide +kernel) (qa_cons (qe_var (pv 3)) qa_nil)) qe_int) ql_nil))) (qe_call D_law_pick rfl rfl rfl rfl rfl bi_law_pick (qv_own (pv 0) (qv_cons qe_int qv_nil)) (hr.mono (by decide)) (by rfl) pass0) (fun _ _ => rfl)) ql_nil)))) (qe_var (pv 2)) (fun _ _ => rfl)) sc_law_long_row.nd rfl (Or.inl rfl))
      (qss_cons (qs_set (i := 9) (qe_call D_law_say rfl rfl rfl rfl rfl bi_law_say (qv_own (pv 0) (qv_cons qe_int qv_nil)) (hr.mono (by decide)) (by rfl) pass0) sc_law_long_row.nd rfl (Or.inl rfl))
      (qss_cons (qs_set (i := 1) (qe_op opr_addT opd_addT (qe_var (pv 1)) (qe_tup (ql_cons (qe_tup (ql_cons (qe_op opr_addT opd_addT qe_int (qe_call D_law_pick rfl rfl rfl rfl rfl bi_law_pick (qv_own (pv 0) (qv_cons qe_int qv_nil)) (hr.mono (by decide)) (by rfl) pass0)) (ql_cons (qe_ix ix_seq opd_ix (qe_var (pv 3)) (qe_op op_sub opd_sub (qe_var (pv 8)) qe_int) (fun _ _ => rfl)) (ql_cons (qe_ix ix_seq opd_ix (qe_var (pv 3)) (qe_var (pv 8)) (fun _ _ => rfl)) (ql_cons (qe_var (pv 9)) ql_nil))))) ql_nil))) sc_law_long_row.nd rfl (Or.inl rfl))
      (qss_one (qs_set (i := 3) (qe_op opr_addT opd_addT (qe_op opr_addT opd_addT (qe_slT (qe_var (pv 3)) qo_none (qo_some (qe_var (pv 8)))) (qe_lc (own := [("i", 17)]) (qi_rng1 (ql_cons (qe_cb cr_lenA cd_len (by rfl) z_len (by decide +kernel) (qa_cons (qe_var (pv 9)) qa_nil)) ql_nil) (by rfl) z_range) (ng_name (i := 17) (by decide)) rfl sc_law_long_row.nd (blkOk_by (N := N_law_long_row) (sc := defScope s_law_long_row) (by decide +kernel)) (fun _ _ _ _ _ => (pg_name (i := 17) sc_law_long_row.nd rfl (Or.inl rfl))) (fun _ _ _ _ _ => qts_nil) (fun _ _ _ _ _ => (qe_tup (ql_cons (qe_var (pv 4)) (ql_cons (qe_var (pv 17)) ql_nil)))))) (qe_slT (qe_var (pv 3)) (qo_some (qe_var (pv 8))) qo_none)) sc_law_long_row.nd rfl (Or.inl rfl)))))) PassesOwn.never rfl)
      (qss_cons (qs_set (i := 5) (qe_cty call_tuple_of cd_tuple (by rfl) z_tuple (by decide +kernel) (qa_cons (qe_var (pv 3)) qa_nil)) sc_law_long_row.nd rfl (Or.inl rfl))
      (qss_cons (qs_set (i := 6) (qe_call D_law_paper rfl rfl rfl rfl rfl bi_law_paper (qv_cons (qe_var (pv 1)) (qv_cons (qe_var (pv 5)) qv_nil)) (hr.mono (by decide)) (by rfl) pass0) sc_law_long_row.nd rfl (Or.inl rfl))
      (qss_cons (qs_if (QW.t (qw_or (qt_not (qt_val (qe_call D_law_same rfl rfl rfl rfl rfl bi_law_same (qv_cons (qe_call D_chain_paper rfl rfl rfl rfl rfl bi_chain_paper (qv_cons (qe_var (pv 1)) (qv_cons (qe_var (pv 5)) qv_nil)) (hr.mono (by decide)) (by rfl) pass0) (qv_cons (qe_var (pv 6)) qv_nil)) (hr.mono (by decide)) (by rfl) pass0))) (qw_or1 (qt_cmp op_isnot_bl (opd_ntB (v := true)) (qe_call D_chain_fits rfl rfl rfl rfl rfl bi_chain_fits (qv_cons (qe_var (pv 1)) (qv_cons (qe_var (pv 5)) (qv_cons (qe_var (pv 6)) qv_nil))) (hr.mono (by decide)) (by rfl) pass0) qe_bl (nomark _))))) (qss_one (qs_ret qe_bl)) qss_nil)
      (qss_cons (qs_for (qi_rng1 (ql_cons qe_int ql_nil) (by rfl) z_range) (qg_name (i := 7) sc_law_long_row.nd rfl (Or.inl rfl)) (qss_cons (qs_set (i := 10) (qe_op op_sub opd_sub (qe_op op_sub opd_sub (qe_cb cr_lenA cd_len (by rfl) z_len (by decide +kernel) (qa_cons (qe_var (pv 5)) qa_nil)) qe_int) (qe_call D_law_pick rfl rfl rfl rfl rfl bi_law_pick (qv_own (pv 0) (qv_cons (qe_ix ix_seq opd_ix (qe_lst (ql_cons qe_int (ql_cons (qe_op op_sub opd_sub (qe_cb cr_lenA cd_len (by rfl) z_len (by decide +kernel) (qa_cons (qe_var (pv 5)) qa_nil)) qe_int) ql_nil))) (qe_op op_fdiv opd_div (qe_var (pv 7)) qe_int) (fun _ _ => rfl)) qv_nil)) (hr.mono (by decide)) (by rfl) pass0)) sc_law_long_row.nd rfl (Or.inl rfl))
      (qss_cons (qs_set (i := 11) (qe_op opr_addT opd_addT (qe_op opr_addT opd_addT (qe_slT (qe_var (pv 5)) qo_none (qo_some (qe_var (pv 10)))) (qe_tup (ql_cons (qe_ix ix_seq opd_ix (qe_var (pv 5)) (qe_op opr_addT opd_addT (qe_var (pv 10)) qe_int) (fun _ _ => rfl)) (ql_cons (qe_ix ix_seq opd_ix (qe_var (pv 5)) (qe_var (pv 10)) (fun _ _ => rfl)) ql_nil)))) (qe_slT (qe_var (pv 5)) (qo_some (qe_op opr_addT opd_addT (qe_var (pv 10)) qe_int)) qo_none)) sc_law_long_row.nd rfl (Or.inl rfl))
      (qss_cons (qs_if (qt_not (qt_val (qe_call D_law_same rfl rfl rfl rfl rfl bi_law_same (qv_cons (qe_call D_chain_paper rfl rfl rfl rfl rfl bi_chain_paper (qv_cons (qe_var (pv 1)) (qv_cons (qe_var (pv 11)) qv_nil)) (hr.mono (by decide)) (by rfl) pass0) (qv_cons (qe_call D_law_paper rfl rfl rfl rfl rfl bi_law_paper (qv_cons (qe_var (pv 1)) (qv_cons (qe_var (pv 11)) qv_nil)) (hr.mono (by decide)) (by rfl) pass0) qv_nil)) (hr.mono (by decide)) (by rfl) pass0))) (qss_one (qs_ret qe_bl)) qss_nil)
      (qss_cons (qs_if (qt_cmp op_isnot_bl (opd_ntB (v := false)) (qe_call D_chain_fits rfl rfl rfl rfl rfl bi_chain_fits (qv_cons (qe_var (pv 1)) (qv_cons (qe_var (pv 11)) (qv_cons (qe_call D_law_paper rfl rfl rfl rfl rfl bi_law_paper (qv_cons (qe_var (pv 1)) (qv_cons (qe_var (pv 11)) qv_nil)) (hr.mono (by decide)) (by rfl) pass0) qv_nil))) (hr.mono (by decide)) (by rfl) pass0) qe_bl (nomark _)) (qss_one (qs_ret qe_bl)) qss_nil)
      (qss_cons (qs_for (qi_any (qe_lst (ql_cons (qe_slT (qe_ix ix_seq opd_ix (qe_var (pv 6)) (qe_var (pv 10)) (fun _ _ => rfl)) qo_none (qo_some (qe_un un_neg und_neg qe_int))) (ql_cons (qe_slT (qe_ix ix_seq opd_ix (qe_var (pv 6)) (qe_var (pv 10)) (fun _ _ => rfl)) (qo_some qe_int) qo_none) (ql_cons (qe_op opr_addT opd_addT (qe_ix ix_seq opd_ix (qe_var (pv 6)) (qe_var (pv 10)) (fun _ _ => rfl)) (qe_slT (qe_ix ix_seq opd_ix (qe_var (pv 6)) (qe_var (pv 10)) (fun _ _ => rfl)) (qo_some (qe_un un_neg und_neg qe_int)) qo_none)) (ql_cons (qe_ix ix_seq opd_ix (qe_var (pv 6)) (qe_op op_sub opd_sub (qe_var (pv 10)) qe_int) (fun _ _ => rfl)) ql_nil)))))) (qg_name (i := 12) sc_law_long_row.nd rfl (Or.inl rfl)) (qss_cons (qs_set (i := 16) (qe_op opr_addT opd_addT (qe_op opr_addT opd_addT (qe_slT (qe_var (pv 6)) qo_none (qo_some (qe_var (pv 10)))) (qe_tup (ql_cons (qe_var (pv 12)) ql_nil))) (qe_slT (qe_var (pv 6)) (qo_some (qe_op opr_addT opd_addT (qe_var (pv 10)) qe_int)) qo_none)) sc_law_long_row.nd rfl (Or.inl rfl))
      (qss_one (qs_if (qt_not (qt_val (qe_call D_law_same rfl rfl rfl rfl rfl bi_law_same (qv_cons (qe_call D_chain_fits rfl rfl rfl rfl rfl bi_chain_fits (qv_cons (qe_var (pv 1)) (qv_cons (qe_var (pv 5)) (qv_cons (qe_var (pv 16)) qv_nil))) (hr.mono (by decide)) (by rfl) pass0) (qv_cons (qe_call D_law_fits rfl rfl rfl rfl rfl bi_law_fits (qv_cons (qe_var (pv 1)) (qv_cons (qe_var (pv 5)) (qv_cons (qe_var (pv 16)) qv_nil))) (hr.mono (by decide)) (by rfl) pass0) qv_nil)) (hr.mono (by decide)) (by rfl) pass0))) (qss_one (qs_ret qe_bl)) qss_nil))) PassesOwn.never rfl)
      (qss_cons (qs_set (i := 13) (qe_tup (ql_cons (qe_ix ix_seq opd_ix (qe_var (pv 5)) (qe_op opr_addT opd_addT qe_int (qe_call D_law_pick rfl rfl rfl rfl rfl bi_law_pick (qv_own (pv 0) (qv_cons qe_int qv_nil)) (hr.mono (by decide)) (by rfl) pass0)) (fun _ _ => rfl)) (ql_cons (qe_ix ix_seq opd_ix (qe_var (pv 5)) (qe_op op_sub opd_sub (qe_op op_sub opd_sub (qe_cb cr_lenA cd_len (by rfl) z_len (by decide +kernel) (qa_cons (qe_var (pv 5)) qa_nil)) qe_int) (qe_call D_law_pick rfl rfl rfl rfl rfl bi_law_pick (qv_own (pv 0) (qv_cons qe_int qv_nil)) (hr.mono (by decide)) (by rfl) pass0)) (fun _ _ => rfl)) ql_nil))) sc_law_long_row.nd rfl (Or.inl rfl))
      (qss_cons (qs_set (i := 14) (qe_call D_law_hops rfl rfl rfl rfl rfl bi_law_hops (qv_cons (qe_var (pv 1)) (qv_cons (qe_ix ix_seq opd_ix (qe_var (pv 13)) qe_int (fun _ _ => rfl)) (qv_cons (qe_ix ix_seq opd_ix (qe_var (pv 13)) qe_int (fun _ _ => rfl)) qv_nil))) (hr.mono (by decide)) (by rfl) pass0) sc_law_long_row.nd rfl (Or.inl rfl))
      (qss_cons (qs_if (QW.t (qw_or (qt_not (qt_val (qe_call D_law_same rfl rfl rfl rfl rfl bi_law_same (qv_cons (qe_call D_chain_paper rfl rfl rfl rfl rfl bi_chain_paper (qv_cons (qe_var (pv 1)) (qv_cons (qe_var (pv 13)) qv_nil)) (hr.mono (by decide)) (by rfl) pass0) (qv_cons (qe_tup (ql_cons (qe_var (pv 14)) ql_nil)) qv_nil)) (hr.mono (by decide)) (by rfl) pass0))) (qw_or1 (qt_cmp op_isnot_bl (opd_ntB (v := true)) (qe_call D_chain_fits rfl rfl rfl rfl rfl bi_chain_fits (qv_cons (qe_var (pv 1)) (qv_cons (qe_var (pv 13)) (qv_cons (qe_tup (ql_cons (qe_var (pv 14)) ql_nil)) qv_nil))) (hr.mono (by decide)) (by rfl) pass0) qe_bl (nomark _))))) (qss_one (qs_ret qe_bl)) qss_nil)
      (qss_cons (qs_set (i := 15) (qe_op op_sub opd_sub (qe_op op_sub opd_sub (qe_cb cr_lenA cd_len (by rfl) z_len (by decide +kernel) (qa_cons (qe_var (pv 14)) qa_nil)) qe_int) (qe_call D_law_pick rfl rfl rfl rfl rfl bi_law_pick (qv_own (pv 0) (qv_cons (qe_cb (call_min2 rfl) cd_min2 (by rfl) z_min (by decide +kernel) (qa_cons qe_int (qa_cons (qe_cb cr_lenA cd_len (by rfl) z_len (by decide +kernel) (qa_cons (qe_var (pv 14)) qa_nil)) qa_nil))) qv_nil)) (hr.mono (by decide)) (by rfl) pass0)) sc_law_long_row.nd rfl (Or.inl rfl))
      (qss_cons (qs_for (qi_any (qe_lst (ql_cons (qe_op opr_addT opd_addT (qe_slT (qe_var (pv 14)) qo_none (qo_some (qe_var (pv 15)))) (qe_slT (qe_var (pv 14)) (qo_some (qe_op opr_addT opd_addT (qe_var (pv 15)) qe_int)) qo_none)) (ql_cons (qe_slT (qe_var (pv 14)) qo_none (qo_some (qe_op opr_addT opd_addT (qe_var (pv 15)) qe_int))) (ql_cons (qe_op opr_addT opd_addT (qe_op opr_addT opd_addT (qe_slT (qe_var (pv 14)) qo_none (qo_some (qe_var (pv 15)))) (qe_tup (ql_cons (qe_var (pv 13)) ql_nil))) (qe_slT (qe_var (pv 14)) (qo_some (qe_op opr_addT opd_addT (qe_var (pv 15)) qe_int)) qo_none)) ql_nil))))) (qg_name (i := 12) sc_law_long_row.nd rfl (Or.inl rfl)) (qss_one (qs_if (qt_not (qt_val (qe_call D_law_same rfl rfl rfl rfl rfl bi_law_same (qv_cons (qe_call D_chain_fits rfl rfl rfl rfl rfl bi_chain_fits (qv_cons (qe_var (pv 1)) (qv_cons (qe_var (pv 13)) (qv_cons (qe_tup (ql_cons (qe_var (pv 12)) ql_nil)) qv_nil))) (hr.mono (by decide)) (by rfl) pass0) (qv_cons (qe_call D_law_fits rfl rfl rfl rfl rfl bi_law_fits (qv_cons (qe_var (pv 1)) (qv_cons (qe_var (pv 13)) (qv_cons (qe_tup (ql_cons (qe_var (pv 12)) ql_nil)) qv_nil))) (hr.mono (by decide)) (by rfl) pass0) qv_nil)) (hr.mono (by decide)) (by rfl) pass0))) (qss_one (qs_ret qe_bl)) qss_nil)) PassesOwn.never rfl)
      (qss_one (qs_if (qt_cmp op_isnot_bl (opd_ntB (v := false)) (qe_call D_chain_fits rfl rfl rfl rfl rfl bi_chain_fits (qv_cons (qe_var (pv 1)) (qv_cons (qe_tup (ql_cons (qe_ix ix_seq opd_ix (qe_var (pv 13)) qe_int (fun _ _ => rfl)) (ql_cons (qe_ix ix_seq opd_ix (qe_var (pv 13)) qe_int (fun _ _ => rfl)) ql_nil))) (qv_cons (qe_call D_law_paper rfl rfl rfl rfl rfl bi_law_paper (qv_cons (qe_var (pv 1)) (qv_cons (qe_tup (ql_cons (qe_ix ix_seq opd_ix (qe_var (pv 13)) qe_int (fun _ _ => rfl)) (ql_cons (qe_ix ix_seq opd_ix (qe_var (pv 13)) qe_int (fun _ _ => rfl)) ql_nil))) qv_nil)) (hr.mono (by decide)) (by rfl) pass0) qv_nil))) (hr.mono (by decide)) (by rfl) pass0) qe_bl (nomark _)) (qss_one (qs_ret qe_bl)) qss_nil)))))))))))) PassesOwn.never rfl)
      (qss_one (qs_ret qe_bl))))))))))
def l_law1 : DS := (dIf (dNot (dTru (dCall P_law_holds.length F_law_holds [] (vOwn 1 (vCons (dVar 2) (vCons (dVar 3) (vCons (dVar 4) (vCons (dCall P_law_row.length F_law_row [] (vOwn 1 (vCons (dVar 3) (vCons (dVar 4) vNil)))) vNil)))))))) (dRet (dC (.bl false))) dNext)
def l_law2 : DS := (dIf (dNot (dTru (dCall P_law_pair_holds.length F_law_pair_holds [] (vCons (dVar 2) (vCons (dVar 3) (vCons (dVar 4) (vCons (dBin fIx (dVar 3) (dVar 6)) (vCons (dBin fIx (dVar 3) (dVar 7)) vNil)))))))) (dRet (dC (.bl false))) dNext)
def t_law3 : DS := (dIf (dNot (dTru (dCall P_law_holds.length F_law_holds [] (vOwn 1 (vCons (dVar 2) (vCons (dVar 3) (vCons (dVar 4) (vCons (dVar 9) vNil)))))))) (dRet (dC (.bl false))) dNext)
def l_law4 : DS := (dSeq (dAsgG (gT 2 (gsCons (gN 6) (gsCons (gN 7) gsNil))) (dBin fIx (dVar 8) (dCall P_law_pick.length F_law_pick [] (vOwn 1 (vCons (dCB fLen (aCons (dVar 8) aNil)) vNil)))))
      (dIf (dNot (dAnd (dTru (dCall P_law_holds.length F_law_holds [] (vOwn 1 (vCons (dVar 2) (vCons (dVar 3) (vCons (dVar 4) (vCons (dTup (lCons (dVar 6) (lCons (dVar 7) lNil))) vNil))))))) (dTru (dCall P_law_pair_holds.length F_law_pair_holds [] (vCons (dVar 2) (vCons (dVar 3) (vCons (dVar 4) (vCons (dVar 6) (vCons (dVar 7) vNil))))))))) (dRet (dC (.bl false))) dNext))
def l_law5 : DS := (dSeq (dAsg 6 (dBin fIx (dVar 3) (dCall P_law_pick.length F_law_pick [] (vOwn 1 (vCons (dCB fLen (aCons (dVar 3) aNil)) vNil)))))
      (dSeq (dAsg 7 (dBin fIx (dVar 3) (dCall P_law_pick.length F_law_pick [] (vOwn 1 (vCons (dCB fLen (aCons (dVar 3) aNil)) vNil)))))
      (dIf (dNot (dAnd (dTru (dCall P_law_pair_holds.length F_law_pair_holds [] (vCons (dVar 2) (vCons (dVar 3) (vCons (dVar 4) (vCons (dVar 6) (vCons (dVar 7) vNil))))))) (dTru (dCall P_law_pair_holds.length F_law_pair_holds [] (vCons (dVar 2) (vCons (dVar 3) (vCons (dVar 4) (vCons (dVar 7) (vCons (dVar 7) vNil))))))))) (dRet (dC (.bl false))) dNext)))
def t_law6 : DS := (dRet (dOrV (dBin fGt (dCall P_law_pick.length F_law_pick [] (vOwn 1 (vCons (dC (.int 7)) vNil))) (dC (.int 0))) (dCall P_law_long_row.length F_law_long_row [] (vOwn 1 vNil))))
def t_law7 : DS := (dSeq (dIf (dOr (dBinT (fNtB true) (dCall P_chain_fits.length F_chain_fits [] (vCons (dVar 2) (vCons (dTup (lCons (dTup (lCons (dC (.int 0)) (lCons (dC (.int 0)) lNil))) lNil)) (vCons (dTup lNil) vNil)))) (dC (.bl true))) (dBinT (fNtB false) (dCall P_chain_fits.length F_chain_fits [] (vCons (dVar 2) (vCons (dTup (lCons (dTup (lCons (dC (.int 0)) (lCons (dC (.int 0)) lNil))) lNil)) (vCons (dTup (lCons (dTup lNil) lNil)) vNil)))) (dC (.bl false)))) (dRet (dC (.bl false))) dNext)
      t_law6)
def t_law8 : DS := (dSeq (dIf (dOr (dNot (dTru (dCall P_law_same.length F_law_same [] (vCons (dCall P_chain_paper.length F_chain_paper [] (vCons (dVar 2) (vCons (dTup lNil) vNil))) (vCons (dTup lNil) vNil))))) (dBinT (fNtB true) (dCall P_chain_fits.length F_chain_fits [] (vCons (dVar 2) (vCons (dTup lNil) (vCons (dTup lNil) vNil)))) (dC (.bl true)))) (dRet (dC (.bl false))) dNext)
      t_law7)
def t_law9 : DS := (dSeq (dFor (dRng1 (lCons (dC (.int 2)) lNil)) (gN 5) l_law5)
      t_law8)
def t_law10 : DS := (dSeq (dAsg 8 (dCall P_law_rich.length F_law_rich [] (vCons (dVar 2) (vCons (dVar 3) (vCons (dVar 4) vNil)))))
      (dSeq (dFor (dRng1 (lCons (dCB fMin2 (aCons (dC (.int 3)) (aCons (dCB fLen (aCons (dVar 8) aNil)) aNil))) lNil)) (gN 5) l_law4)
      t_law9))
def t_law11 : DS := (dSeq (dIf (dBinT fGt (dCB fLen (aCons (dVar 2) aNil)) (dC (.int 10))) (dSeq (dAsg 9 (dTup (lCons (dBin fIx (dVar 3) (dC (.int 2))) (lCons (dBin fIx (dVar 3) (dUn fNeg (dC (.int 1)))) lNil))))
      (dSeq (dIf (dNot (dTru (dCall P_law_told.length F_law_told [] (vCons (dVar 3) (vCons (dVar 4) (vCons (dBin fIx (dVar 3) (dC (.int 2))) (vCons (dBin fIx (dVar 3) (dUn fNeg (dC (.int 1)))) vNil))))))) (dAsg 9 (dTup (lCons (dBin fIx (dVar 3) (dUn fNeg (dC (.int 1)))) (lCons (dBin fIx (dVar 3) (dC (.int 2))) lNil)))) dNext)
      t_law3)) dNext)
      t_law10)
def t_law12 : DS := (dSeq (dFor (dItems (dLst (lCons (dTup (lCons (dC (.int 0)) (lCons (dC (.int 0)) lNil))) (lCons (dTup (lCons (dC (.int 1)) (lCons (dC (.int 1)) lNil))) (lCons (dTup (lCons (dC (.int 0)) (lCons (dC (.int 1)) lNil))) (lCons (dTup (lCons (dC (.int 1)) (lCons (dC (.int 0)) lNil))) lNil)))))) (gT 2 (gsCons (gN 6) (gsCons (gN 7) gsNil))) l_law2)
      t_law11)
def b_law : DS := (dSeq (dAsg 1 (dCall P_law_draws.length F_law_draws [] (vCons (dVar 0) vNil)))
      (dSeq (dAsg 2 (dCall P_law_world.length F_law_world [] (vOwn 1 vNil)))
      (dSeq (dAsg 3 (dCall P_law_all.length F_law_all [] (vCons (dVar 2) vNil)))
      (dSeq (dAsg 4 (dCall P_law_closed.length F_law_closed [] (vCons (dVar 2) vNil)))
      (dSeq (dFor (dRng1 (lCons (dC (.int 3)) lNil)) (gN 5) l_law1)
      t_law12)))))
theorem q_law {P : Program} {w : World} {K : PySem.W.Frag} {mg : Str → Option Value} {base : Heap} {PL : PoolP} {f : Addr} (D_law_draws : Def P w K mg base PL CX0 1 "_law_draws" s_law_draws [] [] P_law_draws F_law_draws) (D_law_world : Def P w K mg base PL CX0 4 "_law_world" s_law_world [] [] P_law_world F_law_world) (D_law_all : Def P w K mg base PL CX0 1 "_law_all" s_law_all [] [] P_law_all F_law_all) (D_law_closed : Def P w K mg base PL CX0 2 "_law_closed" s_law_closed [] [] P_law_closed F_law_closed) (D_law_rich : Def P w K mg base PL CX0 1 "_law_rich" s_law_rich [] [] P_law_rich F_law_rich) (D_law_long_row : Def P w K mg base PL CX0 6 "_law_long_row" s_law_long_row [] [] P_law_long_row F_law_long_row) (D_law_holds : Def P w K mg base PL CX0 6 "_law_holds" s_law_holds [] [] P_law_holds F_law_holds) (D_law_pair_holds : Def P w K mg base PL CX0 6 "_law_pair_holds" s_law_pair_holds [] [] P_law_pair_holds F_law_pair_holds) (D_law_told : Def P w K mg base PL CX0 1 "_law_told" s_law_told [] [] P_law_told F_law_told) (D_law_pick : Def P w K mg base PL CX0 1 "_law_pick" s_law_pick [] [] P_law_pick F_law_pick) (D_law_same : Def P w K mg base PL CX0 5 "_law_same" s_law_same [] [] P_law_same F_law_same) (D_chain_fits : Def P w K mg base PL CX0 3 "chain_fits" s_chain_fits [] [] P_chain_fits F_chain_fits) (D_law_row : Def P w K mg base PL CX0 3 "_law_row" s_law_row [] [] P_law_row F_law_row) (D_chain_paper : Def P w K mg base PL CX0 3 "chain_paper" s_chain_paper [] [] P_chain_paper F_chain_paper) (z_len : mg "len" = none) (z_min : mg "min" = none) (z_range : mg "range" = none) {cdv : Value} {A : Around} {outer : List Env} {s : Shared} {H : Hp} {E : XK} (hr : Room 6 (A.deeper (envOfC "law" (defScope s_law) s.heap.objs.size f cdv))) : QSs (cxOf CX0 P w K mg base N_law "law" (defScope s_law) f cdv A outer s H E).nox PL (defBody s_law) b_law := by
  delta b_law t_law12 t_law11 t_law10 t_law9 t_law8 t_law7 t_law6 l_law5 l_law4 t_law3 l_law2 l_law1
  exact (qss_cons (qs_set (i := 1) (qe_call D_law_draws rfl rfl rfl rfl rfl bi_law_draws (qv_cons (qe_var (pv 0)) qv_nil) (hr.mono (by decide)) (by rfl) pass0) sc_law.nd rfl (Or.inl rfl))
      (qss_cons (qs_set (i := 2) (qe_call D_law_world rfl rfl rfl rfl rfl bi_law_world (qv_own (pv 1) qv_nil) (hr.mono (by decide)) (by rfl) pass0) sc_law.nd rfl (Or.inl rfl))
      (qss_cons (qs_set (i := 3) (qe_call D_law_all rfl rfl rfl rfl rfl bi_law_all (qv_cons (qe_var (pv 2)) qv_nil) (hr.mono (by decide)) (by rfl) pass0) sc_law.nd rfl (Or.inl rfl))
      (qss_cons (qs_set (i := 4) (qe_call D_law_closed rfl rfl rfl rfl rfl bi_law_closed (qv_cons (qe_var (pv 2)) qv_nil) (hr.mono (by decide)) (by rfl) pass0) sc_law.nd rfl (Or.inl rfl))
      (qss_cons (qs_for (qi_rng1 (ql_cons qe_int ql_nil) (by rfl) z_range) (qg_name (i := 5) sc_law.nd rfl (Or.inl rfl)) (qss_one (qs_if (qt_not (qt_val (qe_call D_law_holds rfl rfl rfl rfl rfl bi_law_holds (qv_own (pv 1) (qv_cons (qe_var (pv 2)) (qv_cons (qe_var (pv 3)) (qv_cons (qe_var (pv 4)) (qv_cons (qe_call D_law_row rfl rfl rfl rfl rfl bi_law_row (qv_own (pv 1) (qv_cons (qe_var (pv 3)) (qv_cons (qe_var (pv 4)) qv_nil))) (hr.mono (by decide)) (by rfl) pass0) qv_nil))))) (hr.mono (by decide)) (by rfl) pass0))) (qss_one (qs_ret qe_bl)) qss_nil)) PassesOwn.never rfl)
      (qss_cons (qs_for (qi_any (qe_lst (ql_cons (qe_tup (ql_cons qe_int (ql_cons qe_int ql_nil))) (ql_cons (qe_tup (ql_cons qe_int (ql_cons qe_int ql_nil))) (ql_cons (qe_tup (ql_cons qe_int (ql_cons qe_int ql_nil))) (ql_cons (qe_tup (ql_cons qe_int (ql_cons qe_int ql_nil))) ql_nil)))))) (qg_tup rfl (qgs_cons (qg_name (i := 6) sc_law.nd rfl (Or.inl rfl)) (qgs_cons (qg_name (i := 7) sc_law.nd rfl (Or.inl rfl)) qgs_nil))) (qss_one (qs_if (qt_not (qt_val (qe_call D_law_pair_holds rfl rfl rfl rfl rfl bi_law_pair_holds (qv_cons (qe_var (pv 2)) (qv_cons (qe_var (pv 3)) (qv_cons (qe_var (pv 4)) (qv_cons (qe_ix ix_seq opd_ix (qe_var (pv 3)) (qe_var (pv 6)) (fun _ _ => rfl)) (qv_cons (qe_ix ix_seq opd_ix (qe_var (pv 3)) (qe_var (pv 7)) (fun _ _ => rfl)) qv_nil))))) (hr.mono (by decide)) (by rfl) pass0))) (qss_one (qs_ret qe_bl)) qss_nil)) PassesOwn.never rfl)
      (qss_cons (qs_if (qt_cmp op_gt opd_gt (qe_cb cr_lenA cd_len (by rfl) z_len (by decide +kernel) (qa_cons (qe_var (pv 2)) qa_nil)) qe_int (nomark _)) (qss_cons (qs_set (i := 9) (qe_tup (ql_cons (qe_ix ix_seq opd_ix (qe_var (pv 3)) qe_int (fun _ _ => rfl)) (ql_cons (qe_ix ix_seq opd_ix (qe_var (pv 3)) (qe_un un_neg und_neg qe_int) (fun _ _ => rfl)) ql_nil))) sc_law.nd rfl (Or.inl rfl))
      (qss_cons (qs_if (qt_not (qt_val (qe_call D_law_told rfl rfl rfl rfl rfl bi_law_told (qv_cons (qe_var (pv 3)) (qv_cons (qe_var (pv 4)) (qv_cons (qe_ix ix_seq opd_ix (qe_var (pv 3)) qe_int (fun _ _ => rfl)) (qv_cons (qe_ix ix_seq opd_ix (qe_var (pv 3)) (qe_un un_neg und_neg qe_int) (fun _ _ => rfl)) qv_nil)))) (hr.mono (by decide)) (by rfl) pass0))) (qss_one (qs_set (i := 9) (qe_tup (ql_cons (qe_ix ix_seq opd_ix (qe_var (pv 3)) (qe_un un_neg und_neg qe_int) (fun _ _ => rfl)) (ql_cons (qe_ix ix_seq opd_ix (qe_var (pv 3)) qe_int (fun _ _ => rfl)) ql_nil))) sc_law.nd rfl (Or.inl rfl))) qss_nil)
      (qss_one (qs_if (qt_not (qt_val (qe_call D_law_holds rfl rfl rfl rfl rfl bi_law_holds (qv_own (pv 1) (qv_cons (qe_var (pv 2)) (qv_cons (qe_var (pv 3)) (qv_cons (qe_var (pv 4)) (qv_cons (qe_var (pv 9)) qv_nil))))) (hr.mono (by decide)) (by rfl) pass0))) (qss_one (qs_ret qe_bl)) qss_nil)))) qss_nil)
      (qss_cons (qs_set (i := 8) (qe_call D_law_rich rfl rfl rfl rfl rfl bi_law_rich (qv_cons (qe_var (pv 2)) (qv_cons (qe_var (pv 3)) (qv_cons (qe_var (pv 4)) qv_nil))) (hr.mono (by decide)) (by rfl) pass0) sc_law.nd rfl (Or.inl rfl))
      (qss_cons (qs_for (qi_rng1 (ql_cons (qe_cb (call_min2 rfl) cd_min2 (by rfl) z_min (by decide +kernel) (qa_cons qe_int (qa_cons (qe_cb cr_lenA cd_len (by rfl) z_len (by decide +kernel) (qa_cons (qe_var (pv 8)) qa_nil)) qa_nil))) ql_nil) (by rfl) z_range) (qg_name (i := 5) sc_law.nd rfl (Or.inl rfl)) (qss_cons (qs_asg (qe_ix ix_seq opd_ix (qe_var (pv 8)) (qe_call D_law_pick rfl rfl rfl rfl rfl bi_law_pick (qv_own (pv 1) (qv_cons (qe_cb cr_lenA cd_len (by rfl) z_len (by decide +kernel) (qa_cons (qe_var (pv 8)) qa_nil)) qv_nil)) (hr.mono (by decide)) (by rfl) pass0) (fun _ _ => rfl)) (qg_tup rfl (qgs_cons (qg_name (i := 6) sc_law.nd rfl (Or.inl rfl)) (qgs_cons (qg_name (i := 7) sc_law.nd rfl (Or.inl rfl)) qgs_nil))))
      (qss_one (qs_if (qt_not (QW.t (qw_and (qt_val (qe_call D_law_holds rfl rfl rfl rfl rfl bi_law_holds (qv_own (pv 1) (qv_cons (qe_var (pv 2)) (qv_cons (qe_var (pv 3)) (qv_cons (qe_var (pv 4)) (qv_cons (qe_tup (ql_cons (qe_var (pv 6)) (ql_cons (qe_var (pv 7)) ql_nil))) qv_nil))))) (hr.mono (by decide)) (by rfl) pass0)) (qw_and1 (qt_val (qe_call D_law_pair_holds rfl rfl rfl rfl rfl bi_law_pair_holds (qv_cons (qe_var (pv 2)) (qv_cons (qe_var (pv 3)) (qv_cons (qe_var (pv 4)) (qv_cons (qe_var (pv 6)) (qv_cons (qe_var (pv 7)) qv_nil))))) (hr.mono (by decide)) (by rfl) pass0)))))) (qss_one (qs_ret qe_bl)) qss_nil))) PassesOwn.never rfl)
      (qss_cons (qs_for (qi_rng1 (ql_cons qe_int ql_nil) (by rfl) z_range) (qg_name (i := 5) sc_law.nd rfl (Or.inl rfl)) (qss_cons (qs_set (i := 6) (qe_ix ix_seq opd_ix (qe_var (pv 3)) (qe_call D_law_pick rfl rfl rfl rfl rfl bi_law_pick (qv_own (pv 1) (qv_cons (qe_cb cr_lenA cd_len (by rfl) z_len (by decide +kernel) (qa_cons (qe_var (pv 3)) qa_nil)) qv_nil)) (hr.mono (by decide)) (by rfl) pass0) (fun _ _ => rfl)) sc_law.nd rfl (Or.inl rfl))
      (qss_cons (qs_set (i := 7) (qe_ix ix_seq opd_ix (qe_var (pv 3)) (qe_call D_law_pick rfl rfl rfl rfl rfl bi_law_pick (qv_own (pv 1) (qv_cons (qe_cb cr_lenA cd_len (by rfl) z_len (by decide +kernel) (qa_cons (qe_var (pv 3)) qa_nil)) qv_nil)) (hr.mono (by decide)) (by rfl) pass0) (fun _ _ => rfl)) sc_law.nd rfl (Or.inl rfl))
      (qss_one (qs_if (qt_not (QW.t (qw_and (qt_val (qe_call D_law_pair_holds rfl rfl rfl rfl rfl bi_law_pair_holds (qv_cons (qe_var (pv 2)) (qv_cons (qe_var (pv 3)) (qv_cons (qe_var (pv 4)) (qv_cons (qe_var (pv 6)) (qv_cons (qe_var (pv 7)) qv_nil))))) (hr.mono (by decide)) (by rfl) pass0)) (qw_and1 (qt_val (qe_call D_law_pair_holds rfl rfl rfl rfl rfl bi_law_pair_holds (qv_cons (qe_var (pv 2)) (qv_cons (qe_var (pv 3)) (qv_cons (qe_var (pv 4)) (qv_cons (qe_var (pv 7)) (qv_cons (qe_var (pv 7)) qv_nil))))) (hr.mono (by decide)) (by rfl) pass0)))))) (qss_one (qs_ret qe_bl)) qss_nil)))) PassesOwn.never rfl)
      (qss_cons (qs_if (QW.t (qw_or (qt_not (qt_val (qe_call D_law_same rfl rfl rfl rfl rfl bi_law_same (qv_cons (qe_call D_chain_paper rfl rfl rfl rfl rfl bi_chain_paper (qv_cons (qe_var (pv 2)) (qv_cons (qe_tup ql_nil) qv_nil)) (hr.mono (by decide)) (by rfl) pass0) (qv_cons (qe_tup ql_nil) qv_nil)) (hr.mono (by decide)) (by rfl) pass0))) (qw_or1 (qt_cmp op_isnot_bl (opd_ntB (v := true)) (qe_call D_chain_fits rfl rfl rfl rfl rfl bi_chain_fits (qv_cons (qe_var (pv 2)) (qv_cons (qe_tup ql_nil) (qv_cons (qe_tup ql_nil) qv_nil))) (hr.mono (by decide)) (by rfl) pass0) qe_bl (nomark _))))) (qss_one (qs_ret qe_bl)) qss_nil)
      (qss_cons (qs_if (QW.t (qw_or (qt_cmp op_isnot_bl (opd_ntB (v := true)) (qe_call D_chain_fits rfl rfl rfl rfl rfl bi_chain_fits (qv_cons (qe_var (pv 2)) (qv_cons (qe_tup (ql_cons (qe_tup (ql_cons qe_int (ql_cons qe_int ql_nil))) ql_nil)) (qv_cons (qe_tup ql_nil) qv_nil))) (hr.mono (by decide)) (by rfl) pass0) qe_bl (nomark _)) (qw_or1 (qt_cmp op_isnot_bl (opd_ntB (v := false)) (qe_call D_chain_fits rfl rfl rfl rfl rfl bi_chain_fits (qv_cons (qe_var (pv 2)) (qv_cons (qe_tup (ql_cons (qe_tup (ql_cons qe_int (ql_cons qe_int ql_nil))) ql_nil)) (qv_cons (qe_tup (ql_cons (qe_tup ql_nil) ql_nil)) qv_nil))) (hr.mono (by decide)) (by rfl) pass0) qe_bl (nomark _))))) (qss_one (qs_ret qe_bl)) qss_nil)
      (qss_one (qs_ret (qe_or (qe_cmp op_gt opd_gt (qe_call D_law_pick rfl rfl rfl rfl rfl bi_law_pick (qv_own (pv 1) (qv_cons qe_int qv_nil)) (hr.mono (by decide)) (by rfl) pass0) qe_int (nomark _)) (qe_one (qe_call D_law_long_row rfl rfl rfl rfl rfl bi_law_long_row (qv_own (pv 1) qv_nil) (hr.mono (by decide)) (by rfl) pass0)))))))))))))))))
end K26

namespace K26
open PySem PySem.Spec PyProof.Rows L2 Cl Bo
local macro_rules | `(tactic| walk_at "cl") => `(tactic| simp only [c0, toSlot, pick, wipeC, e_dSeq, e_dAsg, e_dAsgG, e_dIf, e_dTru, e_dC, e_dBin, e_dBinT, e_dUn, e_dRet, e_dRetN, e_dDrop, e_dMeth, e_dNext, e_dBreak, e_dCont, e_dAnd, e_dOr, e_dNot, e_dAndV, e_dOrV, e_dNotV, e_dIfE, e_dTup, e_dLst, e_dCB, e_dSl, e_dNoPart, e_dIsi, e_dYes, e_aCons, e_aNil, e_lCons, e_lNil, e_vCons, e_vNil, e_dItems, e_dRng2, e_dRng3, e_dCall, e_dCallK, e_dRev, e_dEnum, c_on1_dat, c_on1_sl, c_onS_dat, c_onS_own, c_onS_arg, c_on2, c_hd_dat, c_hd_sl, c_hd_new, c_asD_dat, c_asD_new, c_asD_sl, c_asS_dat, c_asS_own, c_var, c_varS_dat, c_varS_own, c_varS_arg, c_blR, c_blD, c_tru_non, c_tru_bl, c_tru_int, c_tru_lst, c_tru_tup, c_put_dat, c_put_new, c_put_sl, c_putS_dat, c_putS_own, c_toRet_dat, c_toRet_new, c_toRet_sl, c_toRetS_dat, c_toRetS_own, c_retC_dat, c_retC_new, c_ends_rt, c_ends_nx, c_ends_bk, c_ends_ct, c_retB_dat, c_retB_new, c_retB_sl, c_retBS_own, c_bk_nil, c_bk_dat, c_bk_ob, c_gt0, c_gtS, c_fsub, c_faddI, c_fadd_int, c_fadd_str, c_fadd_lst, c_fadd_tup, c_fmul_int, c_fmul_lst, c_fmul_str, c_fdiv, c_fmod, c_fpow, c_fshl, c_fshr, c_fand, c_for, c_fxor, c_flt, c_fle, c_fgt, c_fge, c_fneg, c_feq_int, c_fne_int, c_feq_str, c_fne_str, c_feq_bl, c_fne_bl, c_fin_str, c_fin_lst, c_fin_tup, c_fisn, c_fisb, c_isn_non, c_isb_non, c_tyd_non, c_isn_bl, c_isb_bl, c_tyd_bl, c_isn_int, c_isb_int, c_tyd_int, c_isn_str, c_isb_str, c_tyd_str, c_isn_tup, c_isb_tup, c_tyd_tup, c_isn_lst, c_isb_lst, c_tyd_lst, c_isn_frz, c_isb_frz, c_tyd_frz, c_isi_NoneType_bool, c_isi_NoneType_int, c_isi_NoneType_str, c_isi_NoneType_tuple, c_isi_NoneType_list, c_isi_bool_bool, c_isi_bool_int, c_isi_bool_str, c_isi_bool_tuple, c_isi_bool_list, c_isi_int_bool, c_isi_int_int, c_isi_int_str, c_isi_int_tuple, c_isi_int_list, c_isi_str_bool, c_isi_str_int, c_isi_str_str, c_isi_str_tuple, c_isi_str_list, c_isi_tuple_bool, c_isi_tuple_int, c_isi_tuple_str, c_isi_tuple_tuple, c_isi_tuple_list, c_isi_list_bool, c_isi_list_int, c_isi_list_str, c_isi_list_tuple, c_isi_list_list, c_fix_lst, c_fix_tup, c_fix_frz, c_fix_str, c_ixL0, c_ixL1, c_ixL2, c_ixL3, c_len_lst, c_len_tup, c_len_frz, c_len_str, c_int1_int, c_int1_bl, c_abs, c_min2, c_max2, c_len, c_int1, c_fabs, c_ftuple, c_flist, c_tuple_lst, c_tuple_tup, c_list_lst, c_list_tup, c_sl_lst, c_sl_str, c_sl_tup, c_part_int, c_part, c_mappend, c_mpop, c_obS_own, c_setS_own, c_obS_arg, c_setS_arg, c_obL, c_setL, c_setIx, c_ixQ, c_setN, c_ixN10, c_ixN20, c_ixN21, c_ixN30, c_ixN31, c_ixN32, c_mt, c_mtQ, c_vws_nil, c_vws_cons, c_rfind4, c_rfind, c_join_lst, c_join_tup, c_one1, c_cints2, c_cints3, c_own, c_isOb_own, c_isOb_arg, c_callQ, c_look_nil, c_look_dat, c_look_own, c_lookS_own, c_lookS_arg, c_nd_nil, c_nd_dat, c_nd_own, c_ni_nil, c_ni_dat, c_ni_own, c_putA_nil, c_putA_cons, c_new_none, c_new_arg, c_new_own, c_oa_nil, c_oa_dat, c_oa_own, c_gT, c_gsCons, c_gsNil, c_gN, c_it_lst, c_it_tup, c_it_frz, c_it_str, c_rng1, c_rngQ, c_par, c_two, c_aug, c_augS, c_loop, c_lc, List.map_cons, List.map_nil, List.length_cons, List.length_nil, Nat.reduceAdd, Nat.reduceSub, Nat.reduceLT, Nat.reduceLeDiff, Nat.zero_le, List.replicate, List.cons_append, List.nil_append, List.append_nil, List.set_cons_zero, List.set_cons_succ, List.getD_cons_zero, List.getD_cons_succ, br_true, br_false, br_not, br_dec, true_and, and_true, if_true, if_false, reduceIte, reduceCtorEq, Nat.reduceEqDiff, Nat.reduceBNe, Bool.and_true, Bool.true_and, Bool.bne_false, Bool.bne_true, Bool.not_true, Bool.not_false, Bool.true_bne, Bool.false_bne, not_true_eq_false, not_false_eq_true, implies_true, one_eq, rngD_length, rngC_length, Int.reduceToNat, Int.cast_ofNat_Int, Int.natCast_one, Int.natCast_zero, Int.reduceEq, eq_self, true_implies, false_implies, not_false_eq_true, Int.reducePow, Int.reduceNeg, Int.reduceLT, Int.reduceLE, true_or, or_true, decide_eq_true_eq, beq_self_eq_true, Nat.zero_add, c_unw_nil, c_unw, c_unwS_no, c_unwS_dat, c_rev_lst, c_rev_tup, c_oneD, c_bad, c_ext, c_extK, c_mrev, c_popAt, c_popK, c_idx, c_forA, fEq_pair, fNe_pair, e_dIsiT, e_dLstRg, c_rgL, c_idxD, c_gL, c_isiD_bool, c_isiD_int, c_isiD_str, c_isiD_tuple, c_isiD_list, c_isiD_NoneType, Bool.or_false, Bool.false_or, Bool.or_true, Bool.true_or, Bool.and_false, Bool.false_and, e_dZip2, e_dZip3, c_twoD, c_threeD, c_zip2t, c_zip2l, c_zip3t, c_addT_int, c_addT_str, c_addT_lst, c_addT_tup, e_dSlT, c_slT_lst, c_slT_tup, c_slT_str, c_ntB, e_dRvT, c_rvT, c_finD, e_dIdxS, c_slL])
theorem bt_at {W : Wd} {c : Nat} {b : Bt} {i : Int} {k : Res → Prop} (hi : i = (c : Int)) (h : W[c]? = some b) (hk : k (.dat (.tup [.int b.1, .tup [.int b.2.1.1, .int b.2.1.2], .tup [.int b.2.2.1.1, .int b.2.2.1.2], .str b.2.2.2]))) : ixL (W.map btD) i k := ixL_i hi (by rw [List.getElem?_map, h]; rfl) hk
theorem bt_ex {W : Wd} {c : Nat} (h : c < W.length) : ∃ b, W[c]? = some b := ⟨_, List.getElem?_eq_getElem h⟩
theorem red_hopped : ∀ as R, as.length = P_hopped.length → F_hopped as R → b_hopped (fnEnds as R) (c0 as N_hopped.length) := by
  rintro as R - ⟨W, ⟨x1, x2⟩, ⟨y1, y2⟩, rfl, hx, hy, hR⟩
  obtain ⟨bx, hbx⟩ := bt_ex (show x1 < W.length from hx)
  obtain ⟨by_, hby⟩ := bt_ex (show y1 < W.length from hy)
  unfold hp hop at hR
  unfold b_hopped
  unfold wD sgD at hR ⊢
  walk_at "cl"
  refine ⟨fun h => ?_, fun h => ?_⟩
  · refine bt_at rfl hby ?_
    walk_at "cl"
    rw [if_pos (show x1 < y1 by omega)] at hR
    rw [show lf (bsOf W) y1 = _ from Lf_at hby] at hR
    exact hR
  · refine bt_at rfl hbx ?_
    walk_at "cl"
    rw [if_neg (show ¬ x1 < y1 by omega)] at hR
    rw [show rt (bsOf W) x1 = _ from Rt_at hbx] at hR
    exact hR
theorem hop_ok {W : Wd} {x y : Sg} {dw dx dy : Dt} {R : Res → List AArg → Prop} (ew : dw = wD W) (ex : dx = sgD x) (ey : dy = sgD y) (hx : x.1 < W.length) (hy : y.1 < W.length) (hR : R (.dat (prD (hp W x y))) [.dat (wD W), .dat (sgD x), .dat (sgD y)]) : F_hopped [.dat dw, .dat dx, .dat dy] R := by
  subst ew ex ey
  exact ⟨W, x, y, rfl, hx, hy, hR⟩
theorem hop_len {W : Wd} (ok : WOk W) {x y : Sg} (hx : x.1 < W.length) (hy : y.1 < W.length) : (hpT W x y).length ≤ W.length := by
  have := hopsT_len ok.wf _ x y (Nat.le_refl _) (by rw [bs_len]; exact hx) (by rw [bs_len]; exact hy)
  have : (hopsT (bsOf W) x y).length ≤ max x.1 y.1 + 1 := this
  show (hopsT (bsOf W) x y).length ≤ W.length
  omega
theorem red_hops_of : ∀ as R, as.length = P_hops_of.length → F_hops_of as R → b_hops_of (fnEnds as R) (c0 as N_hops_of.length) := by
  rintro as R - ⟨W, x, y, rfl, ok, hwl, hx, hy, hR⟩
  have hbx : (bsOf W).length = W.length := bs_len W
  have hlen := hop_len ok hx hy
  unfold b_hops_of
  walk_at "cl"
  refine ⟨fun m c' => ∃ (x' y' : Sg) (acc : List (Sg × Sg)), m = x'.1 + y'.1 ∧ x'.1 < W.length ∧ y'.1 < W.length ∧ hpT W x y = acc ++ (hpT W x' y').tail ∧ c' = [.dat (wD W), .dat (sgD x'), .dat (sgD y'), .own (.lst (acc.map prD))], ⟨_, x, y, [(x, y)], rfl, hx, hy, ?_, rfl⟩, ?_⟩
  · by_cases e : x.1 = y.1
    · unfold hpT
      rw [hopsT_same e]
      rfl
    · unfold hpT
      rw [hopsT_step ok.wf (by rw [hbx]; exact hx) (by rw [hbx]; exact hy) e]
      rfl
  rintro m c' ⟨⟨x1, x2⟩, ⟨y1, y2⟩, acc, rfl, hx', hy', e, rfl⟩
  have ex : sgD (x1, x2) = .tup [.int x1, .int x2] := rfl
  have ey : sgD (y1, y2) = .tup [.int y1, .int y2] := rfl
  rw [ex, ey]
  have hal : acc.length ≤ W.length := by
    rw [e, List.length_append] at hlen
    omega
  walk_at "cl"
  refine ⟨fun h => ?_, fun h => ?_⟩
  · have h : x1 = y1 := by omega
    unfold t_hops_of2
    walk_at "cl"
    unfold hpT at e
    rw [hopsT_same (x := (x1, x2)) (y := (y1, y2)) h, List.tail_cons, List.append_nil] at e
    have e : hpT W x y = acc := e
    rw [← e]
    exact hR
  · have h : x1 ≠ y1 := by omega
    have hl := hop_lt ok.wf (x := (x1, x2)) (y := (y1, y2)) (by rw [hbx]; exact hx') (by rw [hbx]; exact hy') h
    rw [hbx] at hl
    unfold l_hops_of1
    walk_at "cl"
    refine hop_ok rfl ex.symm ey.symm hx' hy' ?_
    walk_at "cl"
    unfold prD
    walk_at "cl"
    refine ⟨by rw [List.length_map]; omega, _, hl.2.2.1, _, _, acc ++ [hp W (x1, x2) (y1, y2)], rfl, hl.1, hl.2.1, ?_, ?_⟩
    · unfold hpT at e ⊢
      rw [hopsT_step ok.wf (x := (x1, x2)) (y := (y1, y2)) (by rw [hbx]; exact hx') (by rw [hbx]; exact hy') h, List.tail_cons] at e
      rw [e, List.append_assoc]
      congr 1
      by_cases e2 : (hp W (x1, x2) (y1, y2)).1.1 = (hp W (x1, x2) (y1, y2)).2.1
      · rw [hopsT_same e2]
        rfl
      · rw [hopsT_step ok.wf (by rw [hbx]; exact hl.1) (by rw [hbx]; exact hl.2.1) e2]
        rfl
    · rw [List.map_append]
      rfl
theorem pk_ok {m : Int} {R : Res → List AArg → Prop} (h1 : 1 ≤ m) (h2 : m ≤ 1000000) (h : ∀ r : Int, 0 ≤ r → r < m → R (.dat (.int r)) [.ob .pool, .dat (.int m)]) : F_boxPick [.ob .pool, .dat (.int m)] R := ⟨m, rfl, h1, h2, h⟩
theorem ixS_ex {s : List Nat} {i : Int} {k : Res → Prop} (h0 : 0 ≤ i) (h1 : i < s.length) (hk : ∀ ch, k (.dat (.str [ch]))) : ixS s i k := by
  have h : i.toNat < s.length := by omega
  exact ixS_i (n := i.toNat) (by omega) (List.getElem?_eq_getElem h) (hk _)
theorem lc_say {n : Int} {c : CEnv} {de : DE} {Q : Res → CEnv → Prop} {v : Nat} {c0 : CEnv} (hn0 : 0 ≤ n) (hn : n ≤ 1000) (hw : wipeC [v] c = c0)
    (hs : ∀ k : Nat, ∀ Y : Dt → CEnv → Prop, (∀ ch, Y (.str [ch]) c0) → gN v (.int (0 + (k : Int))) c0 fun c2 => de c2 fun r c4 => asD r c4 fun e c5 => Y e (wipeC [v] c5))
    (hQ : ∀ t : List Nat, t.length = n.toNat → Q (.new (.lst (t.map fun ch => Dt.str [ch]))) (unw [v] c c0)) : LCI (rngD 0 n.toNat) (gN v) dYes de [v] c Q := by
  refine ⟨by rw [rngD_length]; omega, fun k acc c' => ∃ t : List Nat, t.length = k ∧ acc = t.map (fun ch => Dt.str [ch]) ∧ c' = c0, ⟨[], rfl, rfl, hw⟩, ?_, ?_⟩
  · rintro k acc d c' hd _ ⟨t, ht, rfl, rfl⟩
    obtain ⟨hk, rfl⟩ := rngD_get hd
    refine hs k (fun e c5 => ∃ t' : List Nat, t'.length = k + 1 ∧ (t.map (fun ch => Dt.str [ch])) ++ [e] = t'.map (fun ch => Dt.str [ch]) ∧ c5 = c') fun ch => ⟨t ++ [ch], by rw [List.length_append, ht]; rfl, by rw [List.map_append]; rfl, rfl⟩
  · rintro acc c' _ ⟨t, ht, rfl, rfl⟩
    rw [rngD_length] at ht
    exact hQ t ht
theorem red_law_say : ∀ as R, as.length = P_law_say.length → F_law_say as R → b_law_say (fnEnds as R) (c0 as N_law_say.length) := by
  rintro as R - ⟨most, rfl, hm, hm2, hR⟩
  unfold b_law_say
  walk_at "cl"
  refine pk_ok (by omega) (by omega) fun r1 g1 g2 => ?_
  walk_at "cl"
  refine pk_ok (by omega) (by omega) fun r2 g3 g4 => ?_
  walk_at "cl"
  refine ⟨fun h => ⟨by omega, ?_⟩, fun h => ?_⟩
  · refine lc_say (by omega) (by omega) rfl (fun k Y hY => ?_) fun t ht => ?_
    · walk_at "cl"
      refine pk_ok (by omega) (by omega) fun r5 g9 g10 => ?_
      walk_at "cl"
      refine ixS_ex g9 g10 fun ch => ?_
      walk_at "cl"
      exact hY ch
    · walk_at "cl"
      rw [join_chars]
      refine ⟨by omega, ?_⟩
      walk_at "cl"
      exact hR t (by omega) (by omega)
  · unfold t_law_say1
    walk_at "cl"
    refine ⟨by omega, ?_⟩
    refine lc_say (by omega) (by omega) rfl (fun k Y hY => ?_) fun t ht => ?_
    · walk_at "cl"
      refine pk_ok (by omega) (by omega) fun r5 g9 g10 => ?_
      walk_at "cl"
      refine ixS_ex g9 g10 fun ch => ?_
      walk_at "cl"
      exact hY ch
    · walk_at "cl"
      rw [join_chars]
      refine ⟨by omega, ?_⟩
      walk_at "cl"
      exact hR t (by omega) (by omega)
theorem offs_mono {W : Wd} {c : Nat} : ∀ d, offs W c ≤ offs W (c + d)
  | 0 => Nat.le_refl _
  | d + 1 => by
    have := offs_mono (W := W) (c := c) d
    show offs W c ≤ offs W (c + d) + sz W (c + d)
    omega
theorem red_law_all : ∀ as R, as.length = P_law_all.length → F_law_all as R → b_law_all (fnEnds as R) (c0 as N_law_all.length) := by
  rintro as R - ⟨W, rfl, h1, h2, h3, hR⟩
  unfold b_law_all
  unfold wD at hR ⊢
  walk_at "cl"
  rw [List.length_map]
  refine ⟨by omega, for_rng (fun k c => ∃ s2 s3 : Slot, c = [.dat (.tup (W.map btD)), .own (.lst ((marksTo W (1 + k)).map sgD)), s2, s3]) ⟨_, _, rfl⟩ ?_ ?_⟩
  · rintro k c' hk ⟨s2, s3, rfl⟩
    have hkl : 1 + k < W.length := by omega
    obtain ⟨b, hb⟩ := bt_ex hkl
    have hsz : sz W (1 + k) = b.2.2.2.length := by
      unfold sz
      rw [if_neg (by omega), txt_at hb]
    have ho : offs W (1 + k) + sz W (1 + k) ≤ NN W := by
      have := offs_mono (W := W) (c := 1 + k + 1) (W.length - (1 + k + 1))
      rw [show 1 + k + 1 + (W.length - (1 + k + 1)) = W.length by omega] at this
      exact this
    unfold l_law_all2
    walk_at "cl"
    refine bt_at (c := 1 + k) (by omega) hb ?_
    walk_at "cl"
    refine ⟨by omega, by omega, ?_⟩
    rw [Int.toNat_natCast]
    refine for_rng (fun i c => ∃ s3 : Slot, c = [.dat (.tup (W.map btD)), .own (.lst ((marksTo W (1 + k) ++ chunk (1 + k) i).map sgD)), .dat (.int (1 + (k : Int))), s3]) ⟨s3, ?_⟩ ?_ ?_
    · rw [show chunk (1 + k) 0 = [] from rfl, List.append_nil]
    · rintro i c' hi ⟨s3, rfl⟩
      unfold l_law_all1
      walk_at "cl"
      refine ⟨?_, .dat (.int (0 + (i : Int))), ?_⟩
      · rw [List.length_map, List.length_append, marksTo_len, Bo.chunk_len]
        omega
      · have e : chunk (1 + k) (i + 1) = chunk (1 + k) i ++ [(1 + k, i)] := by
          unfold chunk
          rw [List.range_succ, List.map_append]
          rfl
        have e2 : Dt.tup [.int (1 + (k : Int)), .int (0 + (i : Int))] = sgD (1 + k, i) := by
          show _ = Dt.tup [.int ((1 + k : Nat) : Int), .int (i : Int)]
          rw [Int.zero_add]
          rfl
        rw [e2, e]
        simp only [List.map_append, List.append_assoc]
        rfl
    · rintro c' ⟨s3, rfl⟩
      rw [← hsz]
      exact ⟨_, _, rfl⟩
  · rintro c' ⟨s2, s3, rfl⟩
    unfold t_law_all3
    walk_at "cl"
    rw [show 1 + ((W.length : Int) - 1).toNat = W.length by omega]
    exact hR
theorem sg_lay (x : Sg) : (toPy (sgD x)).canLay0 = true := by
  unfold sgD toPy toPys toPys toPys toPy
  simp [PyData.canLay0, PyData.canLayAll0]
theorem sg_depth (x : Sg) : (toPy (sgD x)).depth ≤ 1 := by
  unfold sgD toPy toPys toPys toPys toPy
  simp [PyData.depth, PyData.depthAll]
theorem sgs_lay : ∀ l : List Sg, PyData.canLayAll0 (toPys (l.map sgD)) = true
  | [] => by
    rw [List.map_nil]
    unfold toPys
    simp [PyData.canLayAll0]
  | x :: l => by
    rw [List.map_cons]
    unfold toPys
    simp [PyData.canLayAll0, sg_lay x, sgs_lay l]
theorem sgs_depth : ∀ l : List Sg, PyData.depthAll (toPys (l.map sgD)) ≤ 1
  | [] => by
    rw [List.map_nil]
    unfold toPys
    simp [PyData.depthAll]
  | x :: l => by
    have h1 := sgs_depth l
    have h2 := sg_depth x
    rw [List.map_cons]
    unfold toPys
    simp only [PyData.depthAll]
    omega
theorem shp_sgs (l : List Sg) : shp (.lst (l.map sgD)) = true := by
  have h1 := sgs_depth l
  have h2 : PyData.depth (.list (toPys (l.map sgD))) ≤ 64 := by
    simp only [PyData.depth]
    omega
  unfold shp toPy
  show (PyData.canLay0 (.list (toPys (l.map sgD))) && decide (PyData.depth (.list (toPys (l.map sgD))) ≤ 64)) = true
  rw [Bool.and_eq_true]
  exact ⟨by simp only [PyData.canLay0]; exact sgs_lay l, decide_eq_true h2⟩
theorem eqD_sg (x y : Sg) : eqD (sgD x) (sgD y) = decide (x = y) := by
  unfold sgD
  rw [eqD_tup]
  have e : eqsD [.int x.1, .int x.2] [.int y.1, .int y.2] = decide ((x.1 : Int) = y.1 ∧ (x.2 : Int) = y.2) := by
    simp [eqsD, eqD_int]
  rw [e, Bool.eq_iff_iff, decide_eq_true_eq, decide_eq_true_eq, Prod.ext_iff]
  omega
theorem idx_at {W : Wd} {x : Sg} {y : Dt} {k : Dt → List Dt → Prop} (hx : Sn W x) (hy : y = sgD x) (hk : k (.int (ix W x : Nat)) ((marks W).map sgD)) : idxD ((marks W).map sgD) y k := by
  subst hy
  refine ⟨shp_sgs _, shp_tup2 _ _, ix W x, sgD x, by rw [List.getElem?_map, mk_get hx]; rfl, by rw [eqD_sg]; simp, fun m z hm hz => ?_, hk⟩
  rw [List.getElem?_map] at hz
  cases q : (marks W)[m]? with
  | none => rw [q] at hz; cases hz
  | some w =>
    rw [q] at hz
    cases hz
    rw [eqD_sg]
    refine decide_eq_false fun e => ?_
    subst e
    have := (mk_at q).2
    omega
def stD (W : Wd) (p : Sg × Sg) : Dt := .tup [.int (ix W p.1 : Nat), .int (ix W p.2 : Nat)]
theorem inner_up (c i : Nat) (n : Nat) (h : i + 1 < n) : ((List.range (i + 1)).map fun i => (((c, i) : Sg), ((c, i + 1) : Sg))) = ((List.range i).map fun i => (((c, i) : Sg), ((c, i + 1) : Sg))) ++ [((c, i), (c, i + 1))] := by
  rw [List.range_succ, List.map_append]
  rfl
set_option maxHeartbeats 4000000 in
theorem closed_steps {W : Wd} (ok : WOk W) (hn : NN W ≤ 10000) {E : CEnds} {k : Nat} (hk : 1 + k < W.length) {s4 s5 s6 s7 s8 s9 s10 s11 s12 s13 : Slot} (hl : (stepsTo W (1 + k)).length ≤ 20000)
    (hE : ∀ q6 q7 q8 : Slot, E.nx [.dat (wD W), .own (.lst ((marks W).map sgD)), .own (.lst ((stepsTo W (1 + k + 1)).map (stD W))), .dat (.int (1 + (k : Int))), s4, s5, q6, q7, q8, s9, s10, s11, s12, s13]) :
    l_law_closed3 E [.dat (wD W), .own (.lst ((marks W).map sgD)), .own (.lst ((stepsTo W (1 + k)).map (stD W))), .dat (.int (1 + (k : Int))), s4, s5, s6, s7, s8, s9, s10, s11, s12, s13] := by
  obtain ⟨b, hb⟩ := bt_ex hk
  have hsz : sz W (1 + k) = b.2.2.2.length := by
    unfold sz
    rw [if_neg (by omega), txt_at hb]
  have hne := ok.ne (1 + k) (by omega) hk
  have ho : offs W (1 + k) + sz W (1 + k) ≤ NN W := by
    have := offs_mono (W := W) (c := 1 + k + 1) (W.length - (1 + k + 1))
    rw [show 1 + k + 1 + (W.length - (1 + k + 1)) = W.length by omega] at this
    exact this
  have sn := ok.sn (1 + k) (by omega) hk
  rw [Lf_at hb, Rt_at hb] at sn
  have s0 : Sn W (1 + k, 0) := ⟨hk, by show 0 < sz W (1 + k); omega⟩
  have e0 : ∀ i : Nat, ix W (1 + k, i) = offs W (1 + k) + i := fun i => rfl
  unfold l_law_closed3
  unfold wD at hE ⊢
  walk_at "cl"
  refine bt_at (c := 1 + k) (by omega) hb ?_
  walk_at "cl"
  refine ⟨by omega, idx_at s0 (by show _ = Dt.tup [.int ((1 + k : Nat) : Int), .int ((0 : Nat) : Int)]; rfl) ?_⟩
  refine bt_at (c := 1 + k) (by omega) hb ?_
  walk_at "cl"
  refine idx_at sn.1 rfl ?_
  refine ⟨by rw [List.length_map]; omega, by omega, ?_⟩
  have st0 : ∀ l : List (Sg × Sg), l.map (stD W) ++ [Dt.tup [.int (ix W b.2.1 : Nat), .int (ix W (1 + k, 0) : Nat)]] = (l ++ [(b.2.1, (1 + k, 0))]).map (stD W) := by
    intro l
    rw [List.map_append]
    rfl
  rw [st0]
  refine for_rng (fun i c => ∃ q8 : Slot, c = [.dat (.tup (W.map btD)), .own (.lst ((marks W).map sgD)), .own (.lst ((stepsTo W (1 + k) ++ [(b.2.1, (1 + k, 0))] ++ (List.range i).map fun i => (((1 + k, i) : Sg), ((1 + k, i + 1) : Sg))).map (stD W))), .dat (.int (1 + (k : Int))), s4, s5, .dat (.int b.2.2.2.length), .dat (.int (ix W (1 + k, 0) : Nat)), q8, s9, s10, s11, s12, s13]) ⟨s8, by rw [List.range_zero, List.map_nil, List.append_nil]⟩ ?_ ?_
  · rintro i c' hi ⟨q8, rfl⟩
    have hi : i + 1 < sz W (1 + k) := by omega
    unfold l_law_closed1
    walk_at "cl"
    refine ⟨by rw [List.length_map, List.length_append, List.length_append, List.length_map, List.length_range, List.length_singleton]; omega, .dat (.int (0 + (i : Int))), ?_⟩
    have st1 : ∀ l : List (Sg × Sg), l.map (stD W) ++ [Dt.tup [.int ((ix W (1 + k, 0) : Nat) + (0 + (i : Int))), .int ((ix W (1 + k, 0) : Nat) + (0 + (i : Int)) + 1)]] = (l ++ [(((1 + k, i) : Sg), ((1 + k, i + 1) : Sg))]).map (stD W) := by
      intro l
      rw [List.map_append]
      congr 1
      show [Dt.tup _] = [Dt.tup [.int (ix W (1 + k, i) : Nat), .int (ix W (1 + k, i + 1) : Nat)]]
      rw [e0, e0, e0]
      rw [show ((offs W (1 + k) + 0 : Nat) : Int) + (0 + (i : Int)) = ((offs W (1 + k) + i : Nat) : Int) by omega, show ((offs W (1 + k) + i : Nat) : Int) + 1 = ((offs W (1 + k) + (i + 1) : Nat) : Int) by omega]
    rw [st1]
    simp only [List.range_succ, List.map_append, List.append_assoc]
    rfl
  · rintro c' ⟨q8, rfl⟩
    unfold t_law_closed2
    walk_at "cl"
    refine bt_at (c := 1 + k) (by omega) hb ?_
    walk_at "cl"
    refine idx_at sn.2 rfl ?_
    rw [show ((b.2.2.2.length : Int) - 1).toNat = sz W (1 + k) - 1 by omega]
    refine ⟨by rw [List.length_map, List.length_append, List.length_append, List.length_map, List.length_range, List.length_singleton]; omega, ?_⟩
    have st2 : ∀ l : List (Sg × Sg), l.map (stD W) ++ [Dt.tup [.int ((ix W (1 + k, 0) : Nat) + (b.2.2.2.length : Int) - 1), .int (ix W b.2.2.1 : Nat)]] = (l ++ [(((1 + k, sz W (1 + k) - 1) : Sg), b.2.2.1)]).map (stD W) := by
      intro l
      rw [List.map_append]
      congr 1
      show [Dt.tup _] = [Dt.tup [.int (ix W (1 + k, sz W (1 + k) - 1) : Nat), .int (ix W b.2.2.1 : Nat)]]
      rw [e0, e0]
      rw [show ((offs W (1 + k) + 0 : Nat) : Int) + (b.2.2.2.length : Int) - 1 = ((offs W (1 + k) + (sz W (1 + k) - 1) : Nat) : Int) by omega]
    rw [st2]
    have e : stepsTo W (1 + k + 1) = stepsTo W (1 + k) ++ [(b.2.1, (1 + k, 0))] ++ ((List.range (sz W (1 + k) - 1)).map fun i => (((1 + k, i) : Sg), ((1 + k, i + 1) : Sg))) ++ [(((1 + k, sz W (1 + k) - 1) : Sg), b.2.2.1)] := by
      conv => lhs; unfold stepsTo
      rw [if_neg (by omega), Lf_at hb, Rt_at hb]
      unfold inner
      simp
    rw [← e]
    exact hE _ _ _
theorem tab_at {T : List Nat} {j : Nat} {i : Int} {k : Res → Prop} (hi : i = (j : Int)) (h : j < T.length) (hk : k (.dat (.int (T.getD j 0 : Nat)))) : ixL (tabL T) i k := by
  refine ixL_i (n := j) (d := .int (T.getD j 0 : Nat)) hi ?_ hk
  unfold tabL
  rw [List.getElem?_map, List.getD_eq_getElem?_getD, List.getElem?_eq_getElem h]
  rfl
theorem bitNot_not (x : Int) : Builtin.bitNot (Builtin.bitNot x) = x := by
  unfold Builtin.bitNot
  omega
theorem bitOr_nat (a b : Nat) : Builtin.bitOr (a : Int) (b : Int) = ((a ||| b : Nat) : Int) := by
  unfold Builtin.bitOr Builtin.bitAnd
  have h1 : decide ((0 : Int) ≤ Builtin.bitNot (a : Int)) = false := by unfold Builtin.bitNot; exact decide_eq_false (by omega)
  have h2 : decide ((0 : Int) ≤ Builtin.bitNot (b : Int)) = false := by unfold Builtin.bitNot; exact decide_eq_false (by omega)
  rw [h1, h2]
  show Builtin.bitNot (Builtin.bitNot _) = _
  rw [bitNot_not, bitNot_not, bitNot_not, Int.toNat_natCast, Int.toNat_natCast]
theorem bitAnd_nat (a b : Nat) : Builtin.bitAnd (a : Int) (b : Int) = ((a &&& b : Nat) : Int) := by
  unfold Builtin.bitAnd
  have h1 : decide ((0 : Int) ≤ (a : Int)) = true := decide_eq_true (by omega)
  have h2 : decide ((0 : Int) ≤ (b : Int)) = true := decide_eq_true (by omega)
  rw [h1, h2]
  rfl
set_option maxHeartbeats 4000000 in
theorem closed_step {W : Wd} (ok : WOk W) {E : CEnds} {T : List Nat} {x y : Sg} (hs : (x, y) ∈ steps W) (hT : T.length = NN W) (hn : NN W ≤ 10000) {s0 s1 s2 s3 s5 s6 s7 s8 s12 s13 : Slot} {st : Bool}
    (hE : ∀ (q12 : Slot) (st' : Bool), (st' = true → st = true ∧ wide T (ix W x) (ix W y) = T.getD (ix W x) 0) → E.nx [s0, s1, s2, s3, .own (.lst (tabL (rel T (ix W x) (ix W y)))), s5, s6, s7, s8, .dat (.bl st'), .dat (.int (ix W x : Nat)), .dat (.int (ix W y : Nat)), q12, s13]) :
    l_law_closed4 E [s0, s1, s2, s3, .own (.lst (tabL T)), s5, s6, s7, s8, .dat (.bl st), .dat (.int (ix W x : Nat)), .dat (.int (ix W y : Nat)), s12, s13] := by
  obtain ⟨sx, sy, _⟩ := step_ok ok hs
  have hx := ix_lt sx
  have hy := ix_lt sy
  unfold l_law_closed4
  walk_at "cl"
  refine tab_at rfl (by omega) ?_
  walk_at "cl"
  refine ⟨⟨by omega, by omega, by decide⟩, tab_at rfl (by omega) ?_⟩
  walk_at "cl"
  have ew : Builtin.bitOr (Builtin.bitOr ((T.getD (ix W x) 0 : Nat) : Int) (1 * 2 ^ ((ix W y : Nat) : Int).toNat)) ((T.getD (ix W y) 0 : Nat) : Int) = ((wide T (ix W x) (ix W y) : Nat) : Int) := by
    rw [Int.toNat_natCast, Int.one_mul, show ((2 : Int) ^ ix W y) = ((2 ^ ix W y : Nat) : Int) by rw [Int.natCast_pow]; rfl, bitOr_nat, bitOr_nat]
    rfl
  rw [ew]
  refine tab_at rfl (by omega) ?_
  walk_at "cl"
  have er : (tabL T).set (ix W x) (.int (wide T (ix W x) (ix W y) : Nat)) = tabL (rel T (ix W x) (ix W y)) := by
    unfold tabL rel
    rw [List.map_set]
  refine ⟨fun h => ?_, fun h => ?_⟩
  · have h : wide T (ix W x) (ix W y) = T.getD (ix W x) 0 := by omega
    have e : rel T (ix W x) (ix W y) = T := by
      unfold rel
      rw [h]
      apply List.ext_getElem?
      intro i
      rw [List.getElem?_set]
      split
      · rename_i e
        subst e
        rw [if_pos (by omega), List.getD_eq_getElem?_getD, List.getElem?_eq_getElem (by omega)]
        rfl
      · rfl
    have := hE (.dat (.int (wide T (ix W x) (ix W y) : Nat))) st fun z => ⟨z, h⟩
    rw [e] at this
    exact this
  · refine setN_i (m := ix W x) rfl (by unfold tabL; rw [List.length_map]; omega) ?_
    walk_at "cl"
    rw [er]
    exact hE _ _ fun z => by cases z
theorem rel_same {T : List Nat} {a b : Nat} (h : wide T a b = T.getD a 0) (hl : a < T.length) : rel T a b = T := by
  unfold rel
  rw [h]
  apply List.ext_getElem?
  intro i
  rw [List.getElem?_set]
  split
  · rename_i e
    subst e
    rw [List.getD_eq_getElem?_getD, List.getElem?_eq_getElem hl]
    first
      | rfl
      | (rw [if_pos hl]; rfl)
  · rfl
def RowS (s : Slot) (l : List Dt) : Prop := s = .own (.lst l) ∨ s = .dat (.lst l)
theorem pas_take {W : Wd} {T0 T : List Nat} {i : Nat} {x y : Sg} (ok : WOk W) (h : Pas W T0 ((steps W).take i) T) (hs : (steps W)[i]? = some (x, y)) : Pas W T0 ((steps W).take (i + 1)) (rel T (ix W x) (ix W y)) := by
  rw [List.take_add_one, hs]
  exact h.step ok (List.mem_of_getElem? hs)
set_option maxHeartbeats 4000000 in
theorem closed_turn {W : Wd} (ok : WOk W) (hn : NN W ≤ 10000) {E : CEnds} {t : Nat} {T : List Nat} (hT : Snd W T) (hL : Lev W t T) {s0 s1 s2 s3 s5 s6 s7 s8 s9 s10 s11 s12 s13 : Slot} (h2 : RowS s2 ((steps W).map (stD W)))
    (hE : ∀ (T' : List Nat) (q2 q9 q10 q11 q12 : Slot), RowS q2 ((steps W).map (stD W)) → Snd W T' → Lev W (t + 1) T' → E.nx [s0, s1, q2, s3, .own (.lst (tabL T')), s5, s6, s7, s8, q9, q10, q11, q12, s13])
    (hB : ∀ (T' : List Nat) (q2 q9 q10 q11 q12 : Slot), TbOk W T' → E.bk [s0, s1, q2, s3, .own (.lst (tabL T')), s5, s6, s7, s8, q9, q10, q11, q12, s13]) :
    l_law_closed6 E [s0, s1, s2, s3, .own (.lst (tabL T)), s5, s6, s7, s8, s9, s10, s11, s12, s13] := by
  unfold l_law_closed6
  rcases h2 with rfl | rfl
  all_goals
    walk_at "cl"
    refine for_map (xs := steps W) (f := stD W) (fun i c => ∃ (T' : List Nat) (st : Bool) (q10 q11 q12 : Slot), Pas W T ((steps W).take i) T' ∧ (st = true → T' = T ∧ ∀ x y, (x, y) ∈ (steps W).take i → wide T (ix W x) (ix W y) = T.getD (ix W x) 0) ∧ c = [s0, s1, .dat (.lst ((steps W).map (stD W))), s3, .own (.lst (tabL T')), s5, s6, s7, s8, .dat (.bl st), q10, q11, q12, s13]) ⟨T, true, _, _, _, Pas.start ok hT, fun _ => ⟨rfl, fun x y h => by cases h⟩, rfl⟩ ?_ ?_
    · rintro i ⟨x, y⟩ c' hs ⟨T', st, q10, q11, q12, pas, hst, rfl⟩
      unfold stD
      walk_at "cl"
      refine closed_step ok (List.mem_of_getElem? hs) pas.snd.len hn fun q12 st' hst' => ?_
      refine ⟨_, st', _, _, q12, pas_take ok pas hs, fun z => ?_, rfl⟩
      obtain ⟨z1, z2⟩ := hst' z
      obtain ⟨e, z3⟩ := hst z1
      subst e
      refine ⟨rel_same z2 (by rw [pas.snd.len]; exact ix_lt (step_ok ok (List.mem_of_getElem? hs)).1), fun a b hab => ?_⟩
      rw [List.take_add_one, hs] at hab
      rcases List.mem_append.mp hab with hab | hab
      · exact z3 a b hab
      · cases List.mem_singleton.mp hab
        exact z2
    · rintro c' ⟨T', st, q10, q11, q12, pas, hst, rfl⟩
      rw [List.take_of_length_le (Nat.le_refl _)] at pas hst
      unfold t_law_closed5
      walk_at "cl"
      cases st with
      | true =>
        walk_at "cl"
        obtain ⟨e, z3⟩ := hst rfl
        subst e
        exact hB _ _ _ _ _ _ (tb_ok ok pas.snd (still_lev ok pas.snd.len z3 _))
      | false =>
        walk_at "cl"
        exact hE _ _ _ _ _ _ (.inr rfl) pas.snd (pas.lev ok hL)
theorem steps_bound {W : Wd} (ok : WOk W) : ∀ k, k ≤ W.length → (stepsTo W k).length ≤ offs W k + k
  | 0, _ => by
    show 0 ≤ _
    omega
  | k + 1, h => by
    have ih := steps_bound ok k (by omega)
    unfold stepsTo offs
    rw [List.length_append]
    by_cases e : k = 0
    · subst e
      rw [if_pos rfl]
      show 0 + 1 ≤ 0 + 2 + 1
      omega
    · have := ok.ne k (by omega) (by omega)
      rw [if_neg e, List.length_append, List.length_cons, List.length_singleton]
      unfold inner
      rw [List.length_map, List.length_range]
      omega
theorem offs_le {W : Wd} {k : Nat} (h : k ≤ W.length) : offs W k ≤ NN W := by
  have := offs_mono (W := W) (c := k) (W.length - k)
  rw [show k + (W.length - k) = W.length by omega] at this
  exact this
theorem all_ok {W : Wd} {d : Dt} {R : Res → List AArg → Prop} (hd : d = wD W) (h1 : 1 ≤ W.length) (h2 : W.length ≤ 1000) (h3 : NN W ≤ 10000) (hR : R (.new (.lst ((marks W).map sgD))) [.dat (wD W)]) : F_law_all [.dat d] R := by
  subst hd
  exact ⟨W, rfl, h1, h2, h3, hR⟩
set_option maxHeartbeats 4000000 in
theorem red_law_closed : ∀ as R, as.length = P_law_closed.length → F_law_closed as R → b_law_closed (fnEnds as R) (c0 as N_law_closed.length) := by
  rintro as R - ⟨W, rfl, ok, hwl, hn, hR⟩
  have h1 := ok.one
  unfold b_law_closed
  walk_at "cl"
  refine all_ok rfl h1 hwl hn ?_
  walk_at "cl"
  have ewl : (W.map btD).length = W.length := List.length_map _
  unfold wD
  walk_at "cl"
  rw [ewl]
  have e1 : Dt.tup [.int 0, .int 1] = stD W (HD, EN) := rfl
  refine ⟨by omega, for_rng (fun k c => ∃ s3 s6 s7 s8 : Slot, c = [.dat (wD W), .own (.lst ((marks W).map sgD)), .own (.lst ((stepsTo W (1 + k)).map (stD W))), s3, .no, .no, s6, s7, s8, .no, .no, .no, .no, .no]) ⟨_, _, _, _, rfl⟩ ?_ ?_⟩
  · rintro k c' hk ⟨s3, s6, s7, s8, rfl⟩
    have hk : 1 + k < W.length := by omega
    show l_law_closed3 _ (List.set _ 3 (.dat (.int (1 + (k : Int)))))
    refine closed_steps ok hn hk ?_ fun q6 q7 q8 => ⟨_, _, _, _, rfl⟩
    have := steps_bound ok (1 + k) (by omega)
    have := offs_le (W := W) (k := 1 + k) (by omega)
    omega
  · rintro c' ⟨s3, s6, s7, s8, rfl⟩
    rw [show 1 + ((W.length : Int) - 1).toNat = W.length by omega]
    unfold t_law_closed8
    walk_at "cl"
    have sb := steps_bound ok W.length (Nat.le_refl _)
    have hn' : offs W W.length ≤ 10000 := hn
    have hml : ((marks W).map sgD).length = NN W := by rw [List.length_map, marksTo_len]
    refine lc_map (fun _ => .int 0) (by rw [hml]; omega) (fun d hd Y hY => by walk_at "cl"; exact hY) ?_
    have ez : ((marks W).map sgD).map (fun _ => Dt.int 0) = tabL (List.replicate (NN W) 0) := by
      unfold tabL
      rw [List.map_replicate]
      rw [List.eq_replicate_iff]
      refine ⟨by rw [List.length_map, hml], fun b hb => ?_⟩
      obtain ⟨_, _, rfl⟩ := List.mem_map.mp hb
      rfl
    rw [ez]
    walk_at "cl"
    rw [List.length_map]
    refine ⟨by omega, for_rng (fun t c => ∃ (T : List Nat) (s2 s5 s9 s10 s11 s12 s13 : Slot), Snd W T ∧ Lev W t T ∧ RowS s2 ((steps W).map (stD W)) ∧ c = [.dat (wD W), .dat (.lst ((marks W).map sgD)), s2, s3, .own (.lst (tabL T)), s5, s6, s7, s8, s9, s10, s11, s12, s13]) ⟨_, _, _, _, _, _, _, _, snd0 ok, lev0 ok _, .inl rfl, rfl⟩ ?_ ?_⟩
    · rintro t c' ht ⟨T, s2, s5, s9, s10, s11, s12, s13, z1, z2, z3, rfl⟩
      show l_law_closed6 _ (List.set _ 5 (.dat (.int (0 + (t : Int)))))
      refine closed_turn ok hn z1 z2 z3 (fun T' q2 q9 q10 q11 q12 y1 y2 y3 => ⟨_, _, _, _, _, _, _, _, y2, y3, y1, rfl⟩) fun T' q2 q9 q10 q11 q12 y1 => ?_
      unfold t_law_closed7
      walk_at "cl"
      exact hR _ y1
    · rintro c' ⟨T, s2, s5, s9, s10, s11, s12, s13, z1, z2, z3, rfl⟩
      unfold t_law_closed7
      walk_at "cl"
      refine hR _ (tb_ok ok z1 fun n x y hn hr => z2 n x y ?_ hr)
      have := steps_many ok
      have : NN W ≤ (stepsTo W W.length).length + 1 := this
      omega
theorem filterMap_if {α β : Type} (p : α → Bool) (g : α → β) : ∀ l : List α, (l.filterMap fun x => if p x = true then some (g x) else none) = (l.filter p).map g
  | [] => rfl
  | x :: r => by
    rw [List.filterMap_cons, List.filter_cons, filterMap_if p g r]
    cases p x <;> simp
theorem bit_int (n : Nat) {k : Int} {m : Nat} (h : k = (m : Int)) : (Builtin.bitAnd ((n : Int) / 2 ^ k.toNat) 1 = 1) ↔ n.testBit m = true := by
  subst h
  rw [Int.toNat_natCast, show ((2 : Int) ^ m) = ((2 ^ m : Nat) : Int) by rw [Int.natCast_pow]; rfl, ← Int.natCast_ediv]
  have := bitAnd_nat (n / 2 ^ m) 1
  rw [show ((1 : Nat) : Int) = 1 from rfl] at this
  rw [this, Nat.and_one_is_mod, Nat.testBit_eq_decide_div_mod_eq, decide_eq_true_eq]
  omega
theorem bit_dec (n : Nat) {k : Int} {m : Nat} (h : k = (m : Int)) : decide (Builtin.bitAnd ((n : Int) / 2 ^ k.toNat) 1 = 1) = n.testBit m := by
  rw [Bool.eq_iff_iff, decide_eq_true_eq]
  exact bit_int n h
theorem rng_map (n : Nat) : rngD 0 n = (List.range n).map fun k : Nat => Dt.int (0 + (k : Int)) := rfl
theorem tabL_len (T : List Nat) : (tabL T).length = T.length := List.length_map _
theorem lc_bits {n : Nat} {g : DG} {dt : DT} {de : DE} {vs : List Nat} {c1 : CEnv} {Q : Res → CEnv → Prop} (p : Nat → Bool) (hn : n ≤ 10000)
    (hs : ∀ k : Nat, k < n → ∀ Y : Option Dt → CEnv → Prop, Y (if p k = true then some (.int (k : Nat)) else none) (wipeC vs c1) → g (.int (0 + (k : Int))) (wipeC vs c1) fun c2 => dt c2 fun b c3 => br b (de c3 fun r c4 => asD r c4 fun e c5 => Y (some e) (wipeC vs c5)) (Y none (wipeC vs c3)))
    (hQ : Q (.new (.lst (tabL ((List.range n).filter p)))) (unw vs c1 (wipeC vs c1))) : LCI (rngD 0 n) g dt de vs c1 Q := by
  rw [rng_map]
  refine lc_fm (fun k : Nat => if p k = true then some (.int (k : Nat)) else none) (by rw [List.length_range]; omega) (fun k hk Y hY => hs k (List.mem_range.mp hk) Y hY) ?_
  rw [filterMap_if]
  exact hQ
theorem red_law_behind : ∀ as R, as.length = P_law_behind.length → F_law_behind as R → b_law_behind (fnEnds as R) (c0 as N_law_behind.length) := by
  rintro as R - ⟨T, j, rfl, hn, hj, hR⟩
  unfold b_law_behind
  walk_at "cl"
  rw [tabL_len, Int.toNat_natCast]
  refine ⟨by omega, lc_bits (tb T j) hn (fun k hk Y hY => ?_) ?_⟩
  · walk_at "cl"
    refine tab_at rfl hj ?_
    walk_at "cl"
    refine ⟨by omega, fun h => ?_, fun h => ?_⟩
    · rw [if_pos (show tb T j k = true from (bit_int _ (by omega)).mp h)] at hY
      rw [Int.zero_add]
      exact hY
    · rw [if_neg (show ¬ tb T j k = true from fun z => h ((bit_int _ (by omega)).mpr z))] at hY
      exact hY
  · walk_at "cl"
    exact hR
theorem red_law_ahead : ∀ as R, as.length = P_law_ahead.length → F_law_ahead as R → b_law_ahead (fnEnds as R) (c0 as N_law_ahead.length) := by
  rintro as R - ⟨T, j, rfl, hn, hj, hR⟩
  unfold b_law_ahead
  walk_at "cl"
  rw [tabL_len, Int.toNat_natCast]
  refine ⟨by omega, lc_bits (fun k => tb T k j) hn (fun k hk Y hY => ?_) ?_⟩
  · walk_at "cl"
    refine tab_at (j := k) (by omega) hk ?_
    walk_at "cl"
    refine ⟨by omega, fun h => ?_, fun h => ?_⟩
    · rw [if_pos (show tb T k j = true from (bit_int _ (by omega)).mp h)] at hY
      rw [Int.zero_add]
      exact hY
    · rw [if_neg (show ¬ tb T k j = true from fun z => h ((bit_int _ (by omega)).mpr z))] at hY
      exact hY
  · walk_at "cl"
    exact hR
theorem bh_ok {T : List Nat} {j : Nat} {i : Int} {R : Res → List AArg → Prop} (hi : i = (j : Int)) (hn : T.length ≤ 10000) (hj : j < T.length) (hR : R (.new (.lst (tabL (behind T j)))) [.dat (.lst (tabL T)), .dat (.int j)]) : F_law_behind [.dat (.lst (tabL T)), .dat (.int i)] R := by
  subst hi
  exact ⟨T, j, rfl, hn, hj, hR⟩
theorem ad_ok {T : List Nat} {j : Nat} {i : Int} {R : Res → List AArg → Prop} (hi : i = (j : Int)) (hn : T.length ≤ 10000) (hj : j < T.length) (hR : R (.new (.lst (tabL (aheadL T j)))) [.dat (.lst (tabL T)), .dat (.int j)]) : F_law_ahead [.dat (.lst (tabL T)), .dat (.int i)] R := by
  subst hi
  exact ⟨T, j, rfl, hn, hj, hR⟩
theorem cl_ok {T : List Nat} {j : Nat} {i : Int} {R : Res → List AArg → Prop} (hi : i = (j : Int)) (hn : T.length ≤ 10000) (hj : j < T.length) (hR : R (.new (.lst (tabL (closeL T j)))) [.dat (.lst (tabL T)), .dat (.int j)]) : F_law_close [.dat (.lst (tabL T)), .dat (.int i)] R := by
  subst hi
  exact ⟨T, j, rfl, hn, hj, hR⟩
theorem behind_len (T : List Nat) (j : Nat) : (behind T j).length ≤ T.length := by
  have := List.length_filter_le (tb T j) (List.range T.length)
  rw [List.length_range] at this
  exact this
theorem behind_lt {T : List Nat} {j k : Nat} (h : k ∈ behind T j) : k < T.length ∧ tb T j k = true := by
  have := List.mem_filter.mp h
  exact ⟨List.mem_range.mp this.1, this.2⟩
theorem red_law_close : ∀ as R, as.length = P_law_close.length → F_law_close as R → b_law_close (fnEnds as R) (c0 as N_law_close.length) := by
  rintro as R - ⟨T, j, rfl, hn, hj, hR⟩
  unfold b_law_close
  walk_at "cl"
  refine bh_ok rfl hn hj ?_
  walk_at "cl"
  have bl := behind_len T j
  let q : Nat → Bool := fun k => ((behind T j).filter fun m => tb T m k).length == 0
  refine for_map (xs := behind T j) (f := fun n : Nat => Dt.int n) (fun i c => ∃ s4 s5 : Slot, c = [.dat (.lst (tabL T)), .dat (.int j), .dat (.lst (tabL (behind T j))), .own (.lst (tabL (((behind T j).take i).filter q))), s4, s5]) ⟨_, _, rfl⟩ ?_ ?_
  · rintro i k c' hk ⟨s4, s5, rfl⟩
    have hkb := behind_lt (List.mem_of_getElem? hk)
    have hil := (List.getElem?_eq_some_iff.mp hk).1
    unfold l_law_close1
    walk_at "cl"
    have ec : tabL (behind T j) = (behind T j).map fun n : Nat => Dt.int n := rfl
    rw [ec]
    refine lc_fm (fun m : Nat => if tb T m k = true then some (.int (m : Nat)) else none) (by omega) (fun m hm Y hY => ?_) ?_
    · have hmb := behind_lt hm
      walk_at "cl"
      refine tab_at rfl hmb.1 ?_
      walk_at "cl"
      refine ⟨by omega, fun h => ?_, fun h => ?_⟩
      · rw [if_pos (show tb T m k = true from (bit_int _ rfl).mp h)] at hY
        exact hY
      · rw [if_neg (show ¬ tb T m k = true from fun z => h ((bit_int _ rfl).mpr z))] at hY
        exact hY
    · rw [filterMap_if]
      walk_at "cl"
      rw [List.length_map]
      have up : ((behind T j).take (i + 1)).filter q = ((behind T j).take i).filter q ++ (if q k = true then [k] else []) := by
        rw [List.take_add_one, hk, List.filter_append]
        congr 1
        show List.filter q [k] = _
        rw [List.filter_cons]
        cases q k <;> rfl
      have fl : (((behind T j).take i).filter q).length ≤ T.length := by
        have h1 := List.length_filter_le q ((behind T j).take i)
        rw [List.length_take] at h1
        omega
      refine ⟨fun h => ⟨by rw [tabL_len]; omega, .dat (.int k), unwS s5, ?_⟩, fun h => ⟨.dat (.int k), unwS s5, ?_⟩⟩
      · rw [up, if_pos (show q k = true by show (_ == 0) = true; rw [beq_iff_eq]; omega)]
        unfold tabL
        rw [List.map_append]
        rfl
      · rw [up, if_neg (show ¬ q k = true by show ¬ (_ == 0) = true; rw [beq_iff_eq]; omega), List.append_nil]
  · rintro c' ⟨s4, s5, rfl⟩
    rw [List.take_of_length_le (Nat.le_refl _)]
    unfold t_law_close2
    walk_at "cl"
    exact hR
theorem mark_ex {W : Wd} {a : Nat} (h : a < NN W) : ∃ x, Sn W x ∧ a = ix W x := by
  have hl : a < (marks W).length := by rw [marksTo_len]; exact h
  obtain ⟨h1, h2⟩ := mk_at (List.getElem?_eq_getElem hl)
  exact ⟨_, h1, h2⟩
theorem close_ne {W : Wd} {T : List Nat} (ok : WOk W) (tk : TbOk W T) {j : Nat} (h : behind T j ≠ []) : closeL T j ≠ [] := by
  obtain ⟨k, hk, hmin⟩ := least (fun a => rk W ((marks W).getD a HD)) (behind T j) h
  have hk1 := behind_lt hk
  rw [tk.len] at hk1
  obtain ⟨x, hx, rfl⟩ := mark_ex hk1.1
  have e : (behind T j).filter (fun m => tb T m (ix W x)) = [] := by
    rw [List.filter_eq_nil_iff]
    intro m hm hb
    have hm1 := behind_lt hm
    rw [tk.len] at hm1
    obtain ⟨y, hy, rfl⟩ := mark_ex hm1.1
    have h1 := rk_lt ok hy hx ((tk.iff y x hy hx).mp hb)
    have h2 := hmin _ hm
    rw [List.getD_eq_getElem?_getD, List.getD_eq_getElem?_getD, mk_get hx, mk_get hy] at h2
    have h2 : rk W x ≤ rk W y := h2
    omega
  intro z
  have : ix W x ∈ closeL T j := List.mem_filter.mpr ⟨hk, by show (((behind T j).filter fun m => tb T m (ix W x)).length == 0) = true; rw [e]; rfl⟩
  rw [z] at this
  cases this
theorem tabL_ix {l : List Nat} {i : Int} {k : Res → Prop} (h0 : 0 ≤ i) (h1 : i < l.length) (hk : ∀ v ∈ l, k (.dat (.int (v : Nat)))) : ixL (tabL l) i k := by
  refine ixL_mem h0 (by rw [tabL_len]; exact h1) fun d hd => ?_
  obtain ⟨v, hv, rfl⟩ := List.mem_map.mp hd
  exact hk v hv
set_option maxHeartbeats 4000000 in
theorem red_law_pair : ∀ as R, as.length = P_law_pair.length → F_law_pair as R → b_law_pair (fnEnds as R) (c0 as N_law_pair.length) := by
  rintro as R - ⟨W, T, mode, rfl, ok, tk, hn, hR⟩
  have hR' : ∀ a b : Nat, a < T.length → b < T.length → tb T a b = true → R (.dat (.tup [.int a, .int b])) [.ob .pool, .dat (.lst (tabL T)), .dat (.int mode)] := by
    intro a b ha hb hab
    rw [tk.len] at ha hb
    obtain ⟨x, hx, rfl⟩ := mark_ex ha
    obtain ⟨y, hy, rfl⟩ := mark_ex hb
    exact hR x y hx hy ((tk.iff x y hx hy).mp hab)
  have e2 : ix W EN < NN W := ix_lt (en_sn ok.one)
  have e2 : 1 < NN W := e2
  have tl := tk.len
  have t01 : tb T 0 1 = true := (tk.iff HD EN (hd_sn ok.one) (en_sn ok.one)).mpr ((Ah_eq (x := HD) (y := EN) rfl).mpr (by decide))
  have bl := behind_len T
  unfold b_law_pair
  walk_at "cl"
  rw [tabL_len]
  have fin : ∀ (j : Nat) (l : List Nat) (s6 s7 s8 : Slot), j < T.length → l ≠ [] → l.length ≤ 10000 → (∀ v ∈ l, v < T.length ∧ tb T j v = true) → t_law_pair2 (fnEnds [.ob .pool, .dat (.lst (tabL T)), .dat (.int mode)] R) [.arg .pool, .dat (.lst (tabL T)), .dat (.int mode), .dat (.int T.length), .dat (.int j), .own (.lst (tabL l)), s6, s7, s8] := by
    intro j l s6 s7 s8 hj hl hl2 hv
    have hl3 : 0 < l.length := List.length_pos_iff.mpr hl
    unfold t_law_pair2
    walk_at "cl"
    rw [tabL_len]
    refine pk_ok (by omega) (by omega) fun r g1 g2 => ?_
    walk_at "cl"
    refine tabL_ix g1 g2 fun v hvl => ?_
    walk_at "cl"
    exact hR' j v hj (hv v hvl).1 (hv v hvl).2
  have three : ∀ (j : Nat) (s5 s6 s7 s8 : Slot), j < T.length → behind T j ≠ [] → t_law_pair3 (fnEnds [.ob .pool, .dat (.lst (tabL T)), .dat (.int mode)] R) [.arg .pool, .dat (.lst (tabL T)), .dat (.int mode), .dat (.int T.length), .dat (.int j), s5, s6, s7, s8] := by
    intro j s5 s6 s7 s8 hj hb
    have b1 := bl j
    unfold t_law_pair3
    walk_at "cl"
    refine bh_ok rfl (by omega) hj ?_
    walk_at "cl"
    have f0 := fin j (behind T j) s6 s7 s8 hj hb (by omega) fun v hv => behind_lt hv
    refine ⟨fun h => ?_, fun h => f0⟩
    refine pk_ok (by omega) (by omega) fun r g1 g2 => ?_
    walk_at "cl"
    refine ⟨fun h2 => ?_, fun h2 => f0⟩
    refine cl_ok rfl (by omega) hj ?_
    walk_at "cl"
    have cl : (closeL T j).length ≤ (behind T j).length := List.length_filter_le _ _
    exact fin j (closeL T j) s6 s7 s8 hj (close_ne ok tk hb) (by omega) fun v hv => behind_lt (List.mem_filter.mp hv).1
  have four : ∀ (s4 s5 s6 s7 s8 : Slot), t_law_pair4 (fnEnds [.ob .pool, .dat (.lst (tabL T)), .dat (.int mode)] R) [.arg .pool, .dat (.lst (tabL T)), .dat (.int mode), .dat (.int T.length), s4, s5, s6, s7, s8] := by
    intro s4 s5 s6 s7 s8
    unfold t_law_pair4
    walk_at "cl"
    refine pk_ok (by omega) (by omega) fun r g1 g2 => ?_
    walk_at "cl"
    obtain ⟨j, rfl⟩ : ∃ j : Nat, r = (j : Int) := ⟨r.toNat, by omega⟩
    refine bh_ok rfl (by omega) (by omega) ?_
    walk_at "cl"
    rw [tabL_len]
    refine ⟨fun h => three 0 _ _ _ _ (by omega) ?_, fun h => three j _ _ _ _ (by omega) ?_⟩
    · intro z
      have : 1 ∈ behind T 0 := List.mem_filter.mpr ⟨List.mem_range.mpr (by omega), t01⟩
      rw [z] at this
      cases this
    · intro z
      rw [z] at h
      exact h rfl
  have five : ∀ (s4 s5 s6 s7 s8 : Slot), t_law_pair5 (fnEnds [.ob .pool, .dat (.lst (tabL T)), .dat (.int mode)] R) [.arg .pool, .dat (.lst (tabL T)), .dat (.int mode), .dat (.int T.length), s4, s5, s6, s7, s8] := by
    intro s4 s5 s6 s7 s8
    unfold t_law_pair5
    walk_at "cl"
    refine ⟨fun h => ?_, fun h => four _ _ _ _ _⟩
    refine pk_ok (by omega) (by omega) fun r g1 g2 => ?_
    walk_at "cl"
    refine ⟨fun h2 => ?_, fun h2 => four _ _ _ _ _⟩
    exact hR' 0 1 (by omega) (by omega) t01
  have one : ∀ (l7 l5 : List Nat) (s4 s8 : Slot), (∀ v ∈ l5, v < T.length ∧ tb T (T.length - 1) v = true) → l5.length ≤ 10000 → t_law_pair1 { (fnEnds [.ob .pool, .dat (.lst (tabL T)), .dat (.int mode)] R) with nx := t_law_pair5 (fnEnds [.ob .pool, .dat (.lst (tabL T)), .dat (.int mode)] R) } [.arg .pool, .dat (.lst (tabL T)), .dat (.int mode), .dat (.int T.length), s4, .own (.lst (tabL l5)), .dat (.int ((T.length : Int) - 1)), .own (.lst (tabL l7)), s8] := by
    intro l7 l5 s4 s8 h5 hl5
    unfold t_law_pair1
    walk_at "cl"
    rw [tabL_len]
    refine ⟨fun h => ?_, fun h => five _ _ _ _ _⟩
    refine pk_ok (by omega) (by omega) fun r g1 g2 => ?_
    walk_at "cl"
    refine tabL_ix g1 g2 fun v hv => ?_
    walk_at "cl"
    have := hR' (T.length - 1) v (by omega) (h5 v hv).1 (h5 v hv).2
    rw [show ((T.length - 1 : Nat) : Int) = (T.length : Int) - 1 by omega] at this
    exact this
  have inn : i_law_pair1 { (fnEnds [.ob .pool, .dat (.lst (tabL T)), .dat (.int mode)] R) with nx := t_law_pair5 (fnEnds [.ob .pool, .dat (.lst (tabL T)), .dat (.int mode)] R) } [.arg .pool, .dat (.lst (tabL T)), .dat (.int mode), .dat (.int T.length), .no, .no, .no, .no, .no] := by
    unfold i_law_pair1
    walk_at "cl"
    refine ad_ok (j := T.length - 1) (by omega) (by omega) (by omega) ?_
    walk_at "cl"
    refine bh_ok (j := T.length - 1) (by omega) (by omega) (by omega) ?_
    walk_at "cl"
    have b1 := bl (T.length - 1)
    have a1 : (aheadL T (T.length - 1)).length ≤ T.length := by
      have := List.length_filter_le (fun k => tb T k (T.length - 1)) (List.range T.length)
      rw [List.length_range] at this
      exact this
    have o1 : ∀ s8 : Slot, t_law_pair1 { (fnEnds [.ob .pool, .dat (.lst (tabL T)), .dat (.int mode)] R) with nx := t_law_pair5 (fnEnds [.ob .pool, .dat (.lst (tabL T)), .dat (.int mode)] R) } [.arg .pool, .dat (.lst (tabL T)), .dat (.int mode), .dat (.int T.length), .no, .own (.lst (tabL (behind T (T.length - 1)))), .dat (.int ((T.length : Int) - 1)), .own (.lst (tabL (aheadL T (T.length - 1)))), s8] := fun s8 => one _ _ _ _ (fun v hv => behind_lt hv) (by omega)
    have fin2 : ∀ v ∈ aheadL T (T.length - 1), R (.dat (.tup [.int (v : Nat), .int ((T.length : Int) - 1)])) [.ob .pool, .dat (.lst (tabL T)), .dat (.int mode)] := by
      intro v hv
      have hv2 := List.mem_filter.mp hv
      have := hR' v (T.length - 1) (List.mem_range.mp hv2.1) (by omega) hv2.2
      rw [show ((T.length - 1 : Nat) : Int) = (T.length : Int) - 1 by omega] at this
      exact this
    simp only [tabL_len]
    repeat' first
      | exact o1 _
      | (refine pk_ok (by omega) (by omega) fun r g1 g2 => ?_
         walk_at "cl"
         refine tabL_ix g1 g2 fun v hv => ?_
         walk_at "cl"
         exact fin2 v hv)
      | (refine pk_ok (by omega) (by omega) fun r g1 g2 => ?_
         walk_at "cl"
         try simp only [tabL_len])
      | refine br_intro (fun hb => ?_) (fun hb => ?_)
      | refine ⟨fun h => ?_, fun h => ?_⟩
  refine ⟨fun h => inn, fun h => ⟨fun h2 => ?_, fun h2 => ⟨fun h3 => ?_, fun h3 => five _ _ _ _ _⟩⟩⟩
  all_goals
    refine pk_ok (by omega) (by omega) fun r g1 g2 => ?_
    walk_at "cl"
    exact ⟨fun _ => inn, fun _ => five _ _ _ _ _⟩
theorem NN_app {W : Wd} (b : Bt) (h : 1 ≤ W.length) : NN (W ++ [b]) = NN W + b.2.2.2.length := by
  have e : ∀ k, k ≤ W.length → offs (W ++ [b]) k = offs W k := by
    intro k
    induction k with
    | zero => intro _; rfl
    | succ k ih =>
      intro hk
      show offs (W ++ [b]) k + sz (W ++ [b]) k = offs W k + sz W k
      rw [ih (by omega), sz_app (by omega)]
  have e2 : NN (W ++ [b]) = offs (W ++ [b]) (W.length + 1) := by
    show offs (W ++ [b]) (W ++ [b]).length = _
    rw [List.length_append, List.length_singleton]
  rw [e2]
  show offs (W ++ [b]) W.length + sz (W ++ [b]) W.length = _
  rw [e _ (Nat.le_refl _), sz_new h]
theorem cs_ok {W : Wd} {d : Dt} {R : Res → List AArg → Prop} (hd : d = wD W) (ok : WOk W) (h2 : W.length ≤ 1000) (h3 : NN W ≤ 10000) (hR : ∀ T, TbOk W T → R (.new (.lst (tabL T))) [.dat (wD W)]) : F_law_closed [.dat d] R := by
  subst hd
  exact ⟨W, rfl, ok, h2, h3, hR⟩
theorem pr_ok {W : Wd} {T : List Nat} {mode : Int} {R : Res → List AArg → Prop} (ok : WOk W) (tk : TbOk W T) (hn : NN W ≤ 10000) (hR : ∀ x y, Sn W x → Sn W y → Aw W x y → R (.dat (.tup [.int (ix W x : Nat), .int (ix W y : Nat)])) [.ob .pool, .dat (.lst (tabL T)), .dat (.int mode)]) : F_law_pair [.ob .pool, .dat (.lst (tabL T)), .dat (.int mode)] R := ⟨W, T, mode, rfl, ok, tk, hn, hR⟩
theorem say_ok {m : Int} {most : Nat} {R : Res → List AArg → Prop} (hm : m = (most : Int)) (h1 : 1 ≤ most) (h2 : most ≤ 1000) (hR : ∀ t : List Nat, 1 ≤ t.length → t.length ≤ most → R (.dat (.str t)) [.ob .pool, .dat (.int most)]) : F_law_say [.ob .pool, .dat (.int m)] R := by
  subst hm
  exact ⟨most, rfl, h1, h2, hR⟩
theorem mk_ixL {W : Wd} {x : Sg} {i : Int} {k : Res → Prop} (hi : i = ((ix W x : Nat) : Int)) (hx : Sn W x) (hk : k (.dat (sgD x))) : ixL ((marks W).map sgD) i k := ixL_i hi (by rw [List.getElem?_map, mk_get hx]; rfl) hk
theorem wD_app (W : Wd) (b : Bt) : Dt.tup (W.map btD ++ [btD b]) = wD (W ++ [b]) := by
  unfold wD
  rw [List.map_append]
  rfl
theorem red_law_same (n : Nat) (F' : FS) (hF : ∀ m, n = m + 1 → F' = F_same m) : ∀ as R, as.length = P_law_same.length → F_same n as R → b_law_same F' (fnEnds as R) (c0 as N_law_same.length) := by
  rintro as R - ⟨d, rfl, hd, hR⟩
  unfold b_law_same
  cases d with
  | bl b =>
    walk_at "cl"
    unfold t_law_same10
    walk_at "cl"
    exact hR
  | int i =>
    walk_at "cl"
    unfold t_law_same10
    walk_at "cl"
    unfold t_law_same9
    walk_at "cl"
    rw [show decide True = true from rfl]
    exact hR
  | tup l =>
    cases n with
    | zero => exact hd.elim
    | succ n =>
      have e := hF n rfl
      subst e
      walk_at "cl"
      unfold t_law_same10
      walk_at "cl"
      unfold t_law_same9
      walk_at "cl"
      unfold t_law_same8
      walk_at "cl"
      unfold t_law_same7
      walk_at "cl"
      unfold t_law_same6
      walk_at "cl"
      unfold t_law_same5
      walk_at "cl"
      unfold t_law_same4
      walk_at "cl"
      have hl : l.length ≤ 10000 := hd.1
      refine ⟨by omega, ?_⟩
      rw [Int.toNat_natCast]
      refine for_rng (fun k c => ∃ s2 : Slot, c = [.dat (.tup l), .dat (.tup l), s2]) ⟨_, rfl⟩ ?_ ?_
      · rintro k c' hk ⟨s2, rfl⟩
        have hx : l[k]? = some l[k] := List.getElem?_eq_getElem hk
        unfold l_law_same2
        walk_at "cl"
        refine ixL_i (n := k) (by omega) hx ?_
        walk_at "cl"
        refine ixL_i (n := k) (by omega) hx ?_
        walk_at "cl"
        refine ⟨l[k], rfl, hd.2 _ (List.getElem_mem hk), ?_⟩
        walk_at "cl"
        exact ⟨_, rfl⟩
      · rintro c' ⟨s2, rfl⟩
        unfold t_law_same3
        walk_at "cl"
        exact hR
  | _ => exact absurd hd (by cases n <;> exact id)
theorem red_law_hops : ∀ as R, as.length = P_law_hops.length → F_law_hops as R → b_law_hops (fnEnds as R) (c0 as N_law_hops.length) := by
  rintro as R - ⟨W, x, y, rfl, ok, hwl, hx, hy, hR⟩
  have hbx : (bsOf W).length = W.length := bs_len W
  have hlen := hop_len ok hx hy
  unfold b_law_hops
  unfold wD at hR ⊢
  walk_at "cl"
  rw [List.length_map]
  have fin : ∀ (x' y' : Sg) (acc : List (Sg × Sg)) (s4 : Slot), hpT W x y = acc ++ (hpT W x' y').tail → x'.1 = y'.1 → t_law_hops3 (fnEnds [.dat (.tup (W.map btD)), .dat (sgD x), .dat (sgD y)] R) [.dat (.tup (W.map btD)), .dat (sgD x'), .dat (sgD y'), .own (.lst (acc.map prD)), s4] := by
    intro x' y' acc s4 e e2
    unfold t_law_hops3
    walk_at "cl"
    unfold hpT at e
    rw [hopsT_same e2, List.tail_cons, List.append_nil] at e
    have e : hpT W x y = acc := e
    rw [← e]
    exact hR
  refine ⟨by omega, for_rng (fun k c => ∃ (x' y' : Sg) (acc : List (Sg × Sg)) (s4 : Slot), x'.1 < W.length ∧ y'.1 < W.length ∧ max x'.1 y'.1 + k < W.length ∧ hpT W x y = acc ++ (hpT W x' y').tail ∧ c = [.dat (.tup (W.map btD)), .dat (sgD x'), .dat (sgD y'), .own (.lst (acc.map prD)), s4]) ⟨x, y, [(x, y)], _, hx, hy, by omega, ?_, rfl⟩ ?_ ?_⟩
  · by_cases e : x.1 = y.1
    · unfold hpT
      rw [hopsT_same e]
      rfl
    · unfold hpT
      rw [hopsT_step ok.wf (by rw [hbx]; exact hx) (by rw [hbx]; exact hy) e]
      rfl
  · rintro k c' hk ⟨⟨x1, x2⟩, ⟨y1, y2⟩, acc, s4, hx', hy', hm, e, rfl⟩
    have ex : sgD (x1, x2) = .tup [.int x1, .int x2] := rfl
    have ey : sgD (y1, y2) = .tup [.int y1, .int y2] := rfl
    have hal : acc.length ≤ W.length := by
      rw [e, List.length_append] at hlen
      omega
    have fin := fin (x1, x2) (y1, y2) acc
    unfold l_law_hops2
    rw [ex, ey] at fin ⊢
    walk_at "cl"
    refine ⟨fun h => ?_, fun h => ?_⟩
    · exact fin _ e (show x1 = y1 by omega)
    · have h : x1 ≠ y1 := by omega
      have hl := hop_lt ok.wf (x := (x1, x2)) (y := (y1, y2)) (by rw [hbx]; exact hx') (by rw [hbx]; exact hy') h
      rw [hbx] at hl
      have e2 : hpT W x y = (acc ++ [hp W (x1, x2) (y1, y2)]) ++ (hpT W (hp W (x1, x2) (y1, y2)).1 (hp W (x1, x2) (y1, y2)).2).tail := by
        unfold hpT at e ⊢
        rw [hopsT_step ok.wf (x := (x1, x2)) (y := (y1, y2)) (by rw [hbx]; exact hx') (by rw [hbx]; exact hy') h, List.tail_cons] at e
        rw [e, List.append_assoc]
        congr 1
        by_cases e2 : (hp W (x1, x2) (y1, y2)).1.1 = (hp W (x1, x2) (y1, y2)).2.1
        · rw [hopsT_same e2]
          rfl
        · rw [hopsT_step ok.wf (by rw [hbx]; exact hl.1) (by rw [hbx]; exact hl.2.1) e2]
          rfl
      have go : ∀ (E : CEnds) (s4 : Slot), E.nx [.dat (.tup (W.map btD)), .dat (sgD (hp W (x1, x2) (y1, y2)).1), .dat (sgD (hp W (x1, x2) (y1, y2)).2), .own (.lst ((acc ++ [hp W (x1, x2) (y1, y2)]).map prD)), s4] → t_law_hops1 E [.dat (.tup (W.map btD)), .dat (sgD (hp W (x1, x2) (y1, y2)).1), .dat (sgD (hp W (x1, x2) (y1, y2)).2), .own (.lst (acc.map prD)), s4] := by
        intro E s4 hE
        unfold t_law_hops1
        walk_at "cl"
        refine ⟨by rw [List.length_map]; omega, ?_⟩
        rw [List.map_append] at hE
        exact hE
      have fit : max (hp W (x1, x2) (y1, y2)).1.1 (hp W (x1, x2) (y1, y2)).2.1 + (k + 1) < W.length := by
        have := hl.2.2.2
        have hm : max x1 y1 + k < W.length := hm
        have this : max (hp W (x1, x2) (y1, y2)).1.1 (hp W (x1, x2) (y1, y2)).2.1 < max x1 y1 := this
        omega
      refine ⟨fun h2 => ?_, fun h2 => ?_⟩
      · obtain ⟨b, hb⟩ := bt_ex (show y1 < W.length from hy')
        have hh : hp W (x1, x2) (y1, y2) = ((x1, x2), b.2.1) := by
          unfold hp hop
          rw [if_pos (show x1 < y1 by omega)]
          rw [show lf (bsOf W) y1 = _ from Lf_at hb]
        refine bt_at rfl hb ?_
        walk_at "cl"
        rw [hh] at go fit e2
        exact go _ _ ⟨_, _, _, _, hx', (show b.2.1.1 < W.length by have := hop_lt ok.wf (x := (x1, x2)) (y := (y1, y2)) (by rw [hbx]; exact hx') (by rw [hbx]; exact hy') h; rw [hbx, show hop (bsOf W) (x1, x2) (y1, y2) = _ from hh] at this; exact this.2.1), fit, e2, rfl⟩
      · obtain ⟨b, hb⟩ := bt_ex (show x1 < W.length from hx')
        have hh : hp W (x1, x2) (y1, y2) = (b.2.2.1, (y1, y2)) := by
          unfold hp hop
          rw [if_neg (show ¬ x1 < y1 by omega)]
          rw [show rt (bsOf W) x1 = _ from Rt_at hb]
        refine bt_at rfl hb ?_
        walk_at "cl"
        rw [hh] at go fit e2
        exact go _ _ ⟨_, _, _, _, (show b.2.2.1.1 < W.length by have := hop_lt ok.wf (x := (x1, x2)) (y := (y1, y2)) (by rw [hbx]; exact hx') (by rw [hbx]; exact hy') h; rw [hbx, show hop (bsOf W) (x1, x2) (y1, y2) = _ from hh] at this; exact this.1), hy', fit, e2, rfl⟩
  · rintro c' ⟨x', y', acc, s4, hx', hy', hm, e, rfl⟩
    omega
theorem same_ok {d d' : Dt} {R : Res → List AArg → Prop} (h : d = d') (hs : sv 4 d) (hR : R (.dat (.bl true)) [.dat d, .dat d']) : F_law_same [.dat d, .dat d'] R := by
  subst h
  exact ⟨d, rfl, hs, hR⟩
theorem hof_ok {W : Wd} {x y : Sg} {dw dx dy : Dt} {R : Res → List AArg → Prop} (ew : dw = wD W) (ex : dx = sgD x) (ey : dy = sgD y) (ok : WOk W) (hl : W.length ≤ 1000) (hx : x.1 < W.length) (hy : y.1 < W.length) (hR : R (.dat (hopsD (hpT W x y))) [.dat (wD W), .dat (sgD x), .dat (sgD y)]) : F_hops_of [.dat dw, .dat dx, .dat dy] R := by
  subst ew ex ey
  exact ⟨W, x, y, rfl, ok, hl, hx, hy, hR⟩
theorem lhp_ok {W : Wd} {x y : Sg} {dw dx dy : Dt} {R : Res → List AArg → Prop} (ew : dw = wD W) (ex : dx = sgD x) (ey : dy = sgD y) (ok : WOk W) (hl : W.length ≤ 1000) (hx : x.1 < W.length) (hy : y.1 < W.length) (hR : R (.dat (hopsD (hpT W x y))) [.dat (wD W), .dat (sgD x), .dat (sgD y)]) : F_law_hops [.dat dw, .dat dx, .dat dy] R := by
  subst ew ex ey
  exact ⟨W, x, y, rfl, ok, hl, hx, hy, hR⟩
theorem sv_hops {l : List (Sg × Sg)} (h : l.length ≤ 10000) : sv 4 (hopsD l) := by
  refine ⟨by rw [List.length_map]; exact h, fun d hd => ?_⟩
  obtain ⟨p, _, rfl⟩ := List.mem_map.mp hd
  refine ⟨by show 2 ≤ 10000; decide, fun d hd => ?_⟩
  have hs : ∀ x : Sg, sv 2 (sgD x) := fun x => ⟨by show 2 ≤ 10000; decide, fun d hd => by
    rcases List.mem_cons.mp hd with rfl | hd
    · trivial
    · rw [List.mem_singleton.mp hd]
      trivial⟩
  rcases List.mem_cons.mp hd with rfl | hd
  · exact hs _
  · rw [List.mem_singleton.mp hd]
    exact hs _
theorem sv_bl {n : Nat} {b : Bool} : sv n (.bl b) := by cases n <;> trivial
theorem row_at {row : List Sg} {i : Int} {j : Nat} {x : Sg} {k : Res → Prop} (hi : i = (j : Int)) (h : row[j]? = some x) (hk : k (.dat (sgD x))) : ixL (row.map sgD) i k := ixL_i hi (by rw [List.getElem?_map, h]; rfl) hk
theorem wAdd {W : Wd} {b : Bt} {k : Res → Prop} (h1 : 1 ≤ W.length) (h2 : W.length ≤ 1000) (hk : k (.dat (wD (W ++ [b])))) : fAdd (wD W) (.tup [btD b]) k := by
  rw [show wD W = .tup (W.map btD) from rfl, c_fadd_tup]
  rw [← wD_app] at hk
  refine ⟨fun z => ?_, by rw [List.length_map, List.length_singleton]; omega, hk⟩
  rw [List.map_eq_nil_iff] at z
  rw [z] at h1
  simp at h1
theorem two_le {W : Wd} (ok : WOk W) : 2 ≤ NN W := by
  have := ix_lt (en_sn ok.one)
  have : 1 < NN W := this
  omega
theorem NN_take {W : Wd} {k : Nat} (h : k ≤ W.length) : NN (W.take k) ≤ NN W := by
  have e : ∀ j, j ≤ k → offs (W.take k) j = offs W j := by
    intro j
    induction j with
    | zero => intro _; rfl
    | succ j ih =>
      intro hj
      show offs (W.take k) j + sz (W.take k) j = offs W j + sz W j
      rw [ih (by omega), sz_take (by omega)]
  have h1 : NN (W.take k) = offs (W.take k) k := by
    show offs (W.take k) (W.take k).length = _
    rw [List.length_take, Nat.min_eq_left h]
  rw [h1, e k (Nat.le_refl _)]
  exact offs_le h
end K26


namespace K26
open PySem PySem.Spec PyProof.Rows L2 Cl Bo
local macro_rules | `(tactic| walk_at "cl") => `(tactic| simp only [c0, toSlot, pick, wipeC, e_dSeq, e_dAsg, e_dAsgG, e_dIf, e_dTru, e_dC, e_dBin, e_dBinT, e_dUn, e_dRet, e_dRetN, e_dDrop, e_dMeth, e_dNext, e_dBreak, e_dCont, e_dAnd, e_dOr, e_dNot, e_dAndV, e_dOrV, e_dNotV, e_dIfE, e_dTup, e_dLst, e_dCB, e_dSl, e_dNoPart, e_dIsi, e_dYes, e_aCons, e_aNil, e_lCons, e_lNil, e_vCons, e_vNil, e_dItems, e_dRng2, e_dRng3, e_dCall, e_dCallK, e_dRev, e_dEnum, c_on1_dat, c_on1_sl, c_onS_dat, c_onS_own, c_onS_arg, c_on2, c_hd_dat, c_hd_sl, c_hd_new, c_asD_dat, c_asD_new, c_asD_sl, c_asS_dat, c_asS_own, c_var, c_varS_dat, c_varS_own, c_varS_arg, c_blR, c_blD, c_tru_non, c_tru_bl, c_tru_int, c_tru_lst, c_tru_tup, c_put_dat, c_put_new, c_put_sl, c_putS_dat, c_putS_own, c_toRet_dat, c_toRet_new, c_toRet_sl, c_toRetS_dat, c_toRetS_own, c_retC_dat, c_retC_new, c_ends_rt, c_ends_nx, c_ends_bk, c_ends_ct, c_retB_dat, c_retB_new, c_retB_sl, c_retBS_own, c_bk_nil, c_bk_dat, c_bk_ob, c_gt0, c_gtS, c_fsub, c_faddI, c_fadd_int, c_fadd_str, c_fadd_lst, c_fadd_tup, c_fmul_int, c_fmul_lst, c_fmul_str, c_fdiv, c_fmod, c_fpow, c_fshl, c_fshr, c_fand, c_for, c_fxor, c_flt, c_fle, c_fgt, c_fge, c_fneg, c_feq_int, c_fne_int, c_feq_str, c_fne_str, c_feq_bl, c_fne_bl, c_fin_str, c_fin_lst, c_fin_tup, c_fisn, c_fisb, c_isn_non, c_isb_non, c_tyd_non, c_isn_bl, c_isb_bl, c_tyd_bl, c_isn_int, c_isb_int, c_tyd_int, c_isn_str, c_isb_str, c_tyd_str, c_isn_tup, c_isb_tup, c_tyd_tup, c_isn_lst, c_isb_lst, c_tyd_lst, c_isn_frz, c_isb_frz, c_tyd_frz, c_isi_NoneType_bool, c_isi_NoneType_int, c_isi_NoneType_str, c_isi_NoneType_tuple, c_isi_NoneType_list, c_isi_bool_bool, c_isi_bool_int, c_isi_bool_str, c_isi_bool_tuple, c_isi_bool_list, c_isi_int_bool, c_isi_int_int, c_isi_int_str, c_isi_int_tuple, c_isi_int_list, c_isi_str_bool, c_isi_str_int, c_isi_str_str, c_isi_str_tuple, c_isi_str_list, c_isi_tuple_bool, c_isi_tuple_int, c_isi_tuple_str, c_isi_tuple_tuple, c_isi_tuple_list, c_isi_list_bool, c_isi_list_int, c_isi_list_str, c_isi_list_tuple, c_isi_list_list, c_fix_lst, c_fix_tup, c_fix_frz, c_fix_str, c_ixL0, c_ixL1, c_ixL2, c_ixL3, c_len_lst, c_len_tup, c_len_frz, c_len_str, c_int1_int, c_int1_bl, c_abs, c_min2, c_max2, c_len, c_int1, c_fabs, c_ftuple, c_flist, c_tuple_lst, c_tuple_tup, c_list_lst, c_list_tup, c_sl_lst, c_sl_str, c_sl_tup, c_part_int, c_part, c_mappend, c_mpop, c_obS_own, c_setS_own, c_obS_arg, c_setS_arg, c_obL, c_setL, c_setIx, c_ixQ, c_setN, c_ixN10, c_ixN20, c_ixN21, c_ixN30, c_ixN31, c_ixN32, c_mt, c_mtQ, c_vws_nil, c_vws_cons, c_rfind4, c_rfind, c_join_lst, c_join_tup, c_one1, c_cints2, c_cints3, c_own, c_isOb_own, c_isOb_arg, c_callQ, c_look_nil, c_look_dat, c_look_own, c_lookS_own, c_lookS_arg, c_nd_nil, c_nd_dat, c_nd_own, c_ni_nil, c_ni_dat, c_ni_own, c_putA_nil, c_putA_cons, c_new_none, c_new_arg, c_new_own, c_oa_nil, c_oa_dat, c_oa_own, c_gT, c_gsCons, c_gsNil, c_gN, c_it_lst, c_it_tup, c_it_frz, c_it_str, c_rng1, c_rngQ, c_par, c_two, c_aug, c_augS, c_loop, c_lc, List.map_cons, List.map_nil, List.length_cons, List.length_nil, Nat.reduceAdd, Nat.reduceSub, Nat.reduceLT, Nat.reduceLeDiff, Nat.zero_le, List.replicate, List.cons_append, List.nil_append, List.append_nil, List.set_cons_zero, List.set_cons_succ, List.getD_cons_zero, List.getD_cons_succ, br_true, br_false, br_not, br_dec, true_and, and_true, if_true, if_false, reduceIte, reduceCtorEq, Nat.reduceEqDiff, Nat.reduceBNe, Bool.and_true, Bool.true_and, Bool.bne_false, Bool.bne_true, Bool.not_true, Bool.not_false, Bool.true_bne, Bool.false_bne, not_true_eq_false, not_false_eq_true, implies_true, one_eq, rngD_length, rngC_length, Int.reduceToNat, Int.cast_ofNat_Int, Int.natCast_one, Int.natCast_zero, Int.reduceEq, eq_self, true_implies, false_implies, not_false_eq_true, Int.reducePow, Int.reduceNeg, Int.reduceLT, Int.reduceLE, true_or, or_true, decide_eq_true_eq, beq_self_eq_true, Nat.zero_add, c_unw_nil, c_unw, c_unwS_no, c_unwS_dat, c_rev_lst, c_rev_tup, c_oneD, c_bad, c_ext, c_extK, c_mrev, c_popAt, c_popK, c_idx, c_forA, fEq_pair, fNe_pair, e_dIsiT, e_dLstRg, c_rgL, c_idxD, c_gL, c_isiD_bool, c_isiD_int, c_isiD_str, c_isiD_tuple, c_isiD_list, c_isiD_NoneType, Bool.or_false, Bool.false_or, Bool.or_true, Bool.true_or, Bool.and_false, Bool.false_and, e_dZip2, e_dZip3, c_twoD, c_threeD, c_zip2t, c_zip2l, c_zip3t, c_addT_int, c_addT_str, c_addT_lst, c_addT_tup, e_dSlT, c_slT_lst, c_slT_tup, c_slT_str, c_ntB, e_dRvT, c_rvT, c_finD, e_dIdxS, c_slL])
theorem ixL_mem2 {l : List Dt} {i : Int} {k : Res → Prop} (P : Int → Prop) (h0 : 0 ≤ i) (h1 : i < l.length) (hl : ∀ d ∈ l, ∃ v : Int, d = .int v ∧ P v) (hk : ∀ v, P v → k (.dat (.int v))) : ixL l i k := by
  refine ixL_mem h0 h1 fun d hd => ?_
  obtain ⟨v, rfl, hp⟩ := hl d hd
  exact hk v hp
theorem cut1 {α : Type} (l : List α) : cut l (some 1) none = l.tail := by
  unfold cut
  cases l with
  | nil => rfl
  | cons a r =>
    have e : HT.sIx (a :: r).length 0 (some 1) = 1 := by
      have := HT.sIx_nat (a :: r).length 0 1
      rw [show ((1 : Nat) : Int) = 1 from rfl] at this
      rw [this, List.length_cons]
      omega
    rw [e, HT.sIx_none, List.drop_succ_cons, List.drop_zero, List.length_cons, Nat.add_sub_cancel, List.take_length]
    rfl
theorem zip2_map {α β : Type} (f : α → Dt) (g : β → Dt) : ∀ (l : List α) (m : List β), zip2D (l.map f) (m.map g) = (l.zip m).map fun p => .tup [f p.1, g p.2]
  | [], _ => rfl
  | _ :: _, [] => rfl
  | a :: l, b :: m => by
    rw [List.map_cons, List.map_cons, List.zip_cons_cons, List.map_cons, ← zip2_map f g l m]
    rfl
theorem nb_zip (row : List Sg) : zip2D (row.map sgD) (cut (row.map sgD) (some 1) none) = (nb row).map prD := by
  rw [cut1, ← List.map_tail, zip2_map]
  rfl
theorem zip3_map {α β γ : Type} (f : α → Dt) (g : β → Dt) (h : γ → Dt) : ∀ (l : List α) (m : List β) (n : List γ), zip3D (l.map f) (m.map g) (n.map h) = ((l.zip m).zip n).map fun p => .tup [f p.1.1, g p.1.2, h p.2]
  | [], _, _ => rfl
  | _ :: _, [], _ => rfl
  | _ :: _, _ :: _, [] => rfl
  | a :: l, b :: m, c :: n => by
    rw [List.map_cons, List.map_cons, List.map_cons, List.zip_cons_cons, List.zip_cons_cons, List.map_cons, ← zip3_map f g h l m n]
    rfl
theorem nb_zip3 (row : List Sg) (paper : List (List Pr)) : zip3D (row.map sgD) (cut (row.map sgD) (some 1) none) (paper.map hopsD) = ((nb row).zip paper).map fun q => .tup [sgD q.1.1, sgD q.1.2, hopsD q.2] := by
  rw [cut1, ← List.map_tail, zip3_map]
  rfl
theorem lc_f {α : Type} {xs : List α} {ff : α → Dt} {g : DG} {de : DE} {vs : List Nat} {c1 : CEnv} {Q : Res → CEnv → Prop} (f : α → Dt) (hl : xs.length ≤ 9000000)
    (hs : ∀ x ∈ xs, ∀ Y : Dt → CEnv → Prop, Y (f x) (wipeC vs c1) → g (ff x) (wipeC vs c1) fun c2 => (de c2 fun r c4 => asD r c4 fun e c5 => Y e (wipeC vs c5)))
    (hQ : Q (.new (.lst (xs.map f))) (unw vs c1 (wipeC vs c1))) : LCI (xs.map ff) g dYes de vs c1 Q := by
  refine lc_fm (fun x => some (f x)) hl (fun x hx Y hY => hs x hx (fun e c => Y (some e) c) hY) ?_
  have e : ∀ l : List α, l.filterMap (fun x => some (f x)) = l.map f := fun l => by
    induction l with
    | nil => rfl
    | cons a r ih => rw [List.filterMap_cons, List.map_cons, ih]
  rw [e]
  exact hQ
theorem pr_lay (p : Pr) : (toPy (prD p)).canLay0 = true := by
  unfold prD toPy toPys toPys toPys
  simp [PyData.canLay0, PyData.canLayAll0, sg_lay]
theorem pr_depth (p : Pr) : (toPy (prD p)).depth ≤ 2 := by
  have h1 := sg_depth p.1
  have h2 := sg_depth p.2
  unfold prD toPy toPys toPys toPys
  simp only [PyData.depth, PyData.depthAll]
  omega
theorem prs_lay : ∀ l : List Pr, PyData.canLayAll0 (toPys (l.map prD)) = true
  | [] => by
    rw [List.map_nil]
    unfold toPys
    simp [PyData.canLayAll0]
  | x :: l => by
    rw [List.map_cons]
    unfold toPys
    simp [PyData.canLayAll0, pr_lay x, prs_lay l]
theorem prs_depth : ∀ l : List Pr, PyData.depthAll (toPys (l.map prD)) ≤ 2
  | [] => by
    rw [List.map_nil]
    unfold toPys
    simp [PyData.depthAll]
  | x :: l => by
    have h1 := prs_depth l
    have h2 := pr_depth x
    rw [List.map_cons]
    unfold toPys
    simp only [PyData.depthAll]
    omega
theorem shp_prs (l : List Pr) : shp (.lst (l.map prD)) = true := by
  have h1 := prs_depth l
  have h2 : PyData.depth (.list (toPys (l.map prD))) ≤ 64 := by
    simp only [PyData.depth]
    omega
  unfold shp toPy
  show (PyData.canLay0 (.list (toPys (l.map prD))) && decide (PyData.depth (.list (toPys (l.map prD))) ≤ 64)) = true
  rw [Bool.and_eq_true]
  exact ⟨by simp only [PyData.canLay0]; exact prs_lay l, decide_eq_true h2⟩
theorem shp_pr (p : Pr) : shp (prD p) = true := by
  unfold shp
  show ((toPy (prD p)).canLay0 && decide ((toPy (prD p)).depth ≤ 64)) = true
  rw [Bool.and_eq_true]
  exact ⟨pr_lay p, decide_eq_true (by have := pr_depth p; omega)⟩
theorem eqD_pr (p q : Pr) : eqD (prD p) (prD q) = decide (p = q) := by
  unfold prD
  rw [eqD_tup]
  have e : eqsD [sgD p.1, sgD p.2] [sgD q.1, sgD q.2] = (decide (p.1 = q.1) && decide (p.2 = q.2)) := by
    simp [eqsD, eqD_sg]
  rw [e, Bool.eq_iff_iff, Bool.and_eq_true, decide_eq_true_eq, decide_eq_true_eq, decide_eq_true_eq]
  constructor
  · rintro ⟨a, c⟩
    exact Prod.ext a c
  · rintro rfl
    exact ⟨rfl, rfl⟩
theorem okEq_pr (p q : Pr) : okEq (prD p) (prD q) = true := by
  unfold okEq
  rw [shp_pr, shp_pr]
  simp
theorem fNe_pr {p q : Pr} {k : Res → Prop} (h : k (.dat (.bl (!decide (p = q))))) : fNe (prD p) (prD q) k := ⟨okEq_pr p q, by rw [eqD_pr]; exact h⟩
theorem any_pr (l : List Pr) (q : Pr) : ((l.map prD).any fun z => eqD z (prD q)) = decide (q ∈ l) := by
  rw [Bool.eq_iff_iff, List.any_eq_true, decide_eq_true_eq]
  refine ⟨fun ⟨z, hz, he⟩ => ?_, fun h => ⟨prD q, List.mem_map.mpr ⟨q, h, rfl⟩, by rw [eqD_pr]; simp⟩⟩
  obtain ⟨p, hp, rfl⟩ := List.mem_map.mp hz
  rw [eqD_pr, decide_eq_true_eq] at he
  rw [← he]
  exact hp
theorem nin_pr {l : List Pr} {q : Pr} {k : Res → Prop} (h : k (.dat (.bl (!decide (q ∈ l))))) : fInD true (prD q) (.lst (l.map prD)) k := by
  rw [c_finD, any_pr, Bool.bne_true]
  exact ⟨⟨shp_prs l, shp_pr q⟩, h⟩
theorem at_take {α : Type} {P : α → Bool} {xs : List α} {k : Nat} {x : α} (h : (xs.take k).all P = true) (hx : xs[k]? = some x) (hp : P x = true) : (xs.take (k + 1)).all P = true := by
  rw [List.take_add_one, hx, List.all_append, h]
  simp [hp]
theorem at_false {α : Type} {P : α → Bool} {xs : List α} {k : Nat} {x : α} (hx : xs[k]? = some x) (hp : P x = false) : xs.all P = false := by
  rw [List.all_eq_false]
  exact ⟨x, List.mem_of_getElem? hx, by rw [hp]; decide⟩
theorem steps_all (W : Wd) : ∀ e : List Pr, stepsF W e = (e.zip e.tail).all fun q => decide (q.2 ∈ exch W q.1)
  | [] => rfl
  | [_] => rfl
  | p :: q :: r => by
    unfold stepsF
    rw [steps_all W (q :: r)]
    rfl
theorem steps_in {W : Wd} (ok : WOk W) : ∀ (r : List Pr) (p : Pr) (k : Nat), InP W p → ((((p :: r).zip r).take k).all fun q => decide (q.2 ∈ exch W q.1)) = true → ∀ q, ((p :: r).zip r)[k]? = some q → InP W q.1
  | [], _, _, _, _, _, hq => by cases hq
  | p' :: r, p, 0, hp, _, q, hq => by
    cases hq
    exact hp
  | p' :: r, p, k + 1, hp, ha, q, hq => by
    rw [List.zip_cons_cons, List.take_succ_cons, List.all_cons, Bool.and_eq_true, decide_eq_true_eq] at ha
    exact steps_in ok r p' k (exch_in ok hp ha.1) ha.2 q hq
theorem red_chain_paper : ∀ as R, as.length = P_chain_paper.length → F_chain_paper as R → b_chain_paper (fnEnds as R) (c0 as N_chain_paper.length) := by
  rintro as R - ⟨W, row, rfl, ok, hl, hr, hin, hR⟩
  unfold b_chain_paper
  unfold rowD at hR ⊢
  walk_at "cl"
  rw [nb_zip]
  refine lc_f (fun p => hopsD (hpT W p.1 p.2)) (by rw [nb_len]; omega) (fun p hp Y hY => ?_) ?_
  · unfold prD
    walk_at "cl"
    have := nb_in ok hin p hp
    refine hof_ok rfl rfl rfl ok hl this.1 this.2 ?_
    walk_at "cl"
    exact hY
  walk_at "cl"
  unfold papD chP at hR
  rw [List.map_map] at hR
  exact hR
theorem red_exchanges : ∀ as R, as.length = P_exchanges.length → F_exchanges as R → b_exchanges (fnEnds as R) (c0 as N_exchanges.length) := by
  rintro as R - ⟨W, ⟨⟨x1, x2⟩, ⟨y1, y2⟩⟩, rfl, ⟨hx, hy⟩, hR⟩
  obtain ⟨bx, hbx⟩ := bt_ex (show x1 < W.length from hx)
  obtain ⟨by_, hby⟩ := bt_ex (show y1 < W.length from hy)
  unfold exch at hR
  simp only [show Lf W y1 = _ from Lf_at hby, show Rt W x1 = _ from Rt_at hbx] at hR
  unfold b_exchanges
  unfold prD sgD wD at hR ⊢
  walk_at "cl"
  refine ⟨fun h => ?_, fun h => ?_⟩
  · refine bt_at rfl hby ?_
    rw [if_pos (show 1 ≤ y1 by omega)] at hR
    unfold t_exchanges2 t_exchanges1
    walk_at "cl"
    refine ⟨fun h2 => ?_, fun h2 => ?_⟩
    · refine bt_at rfl hbx ?_
      rw [if_pos (show 1 ≤ x1 by omega)] at hR
      walk_at "cl"
      exact hR
    · rw [if_neg (show ¬ 1 ≤ x1 by omega)] at hR
      exact hR
  · rw [if_neg (show ¬ 1 ≤ y1 by omega)] at hR
    unfold t_exchanges2 t_exchanges1
    walk_at "cl"
    refine ⟨fun h2 => ?_, fun h2 => ?_⟩
    · refine bt_at rfl hbx ?_
      rw [if_pos (show 1 ≤ x1 by omega)] at hR
      walk_at "cl"
      exact hR
    · rw [if_neg (show ¬ 1 ≤ x1 by omega)] at hR
      exact hR
theorem red_law_next : ∀ as R, as.length = P_law_next.length → F_law_next as R → b_law_next (fnEnds as R) (c0 as N_law_next.length) := by
  rintro as R - ⟨W, ⟨⟨x1, x2⟩, ⟨y1, y2⟩⟩, rfl, ⟨hx, hy⟩, hR⟩
  obtain ⟨bx, hbx⟩ := bt_ex (show x1 < W.length from hx)
  obtain ⟨by_, hby⟩ := bt_ex (show y1 < W.length from hy)
  unfold exch at hR
  simp only [show Lf W y1 = _ from Lf_at hby, show Rt W x1 = _ from Rt_at hbx] at hR
  unfold b_law_next
  unfold prD sgD wD at hR ⊢
  walk_at "cl"
  refine ⟨fun h => ?_, fun h => ?_⟩
  · refine bt_at rfl hby ?_
    rw [if_pos (show 1 ≤ y1 by omega)] at hR
    unfold t_law_next2 t_law_next1
    walk_at "cl"
    refine ⟨fun h2 => ?_, fun h2 => ?_⟩
    · refine bt_at rfl hbx ?_
      rw [if_pos (show 1 ≤ x1 by omega)] at hR
      walk_at "cl"
      exact hR
    · rw [if_neg (show ¬ 1 ≤ x1 by omega)] at hR
      exact hR
  · rw [if_neg (show ¬ 1 ≤ y1 by omega)] at hR
    unfold t_law_next2 t_law_next1
    walk_at "cl"
    refine ⟨fun h2 => ?_, fun h2 => ?_⟩
    · refine bt_at rfl hbx ?_
      rw [if_pos (show 1 ≤ x1 by omega)] at hR
      walk_at "cl"
      exact hR
    · rw [if_neg (show ¬ 1 ≤ x1 by omega)] at hR
      exact hR
theorem red_law_ends : ∀ as R, as.length = P_law_ends.length → F_law_ends as R → b_law_ends (fnEnds as R) (c0 as N_law_ends.length) := by
  rintro as R - ⟨⟨⟨x1, x2⟩, ⟨y1, y2⟩⟩, n, rfl, hR⟩
  unfold b_law_ends
  unfold prD sgD at hR ⊢
  walk_at "cl"
  have key : ∀ b : Bool, (b = true ↔ (x1 = y1 ∧ (x2 < y2 ∨ (1 < n ∧ x2 = y2)))) → endF ((x1, x2), (y1, y2)) n = b := by
    intro b hb
    unfold endF
    rw [Bool.eq_iff_iff, decide_eq_true_eq]
    exact hb.symm
  refine ⟨fun h => ⟨fun h2 => ?_, fun h2 => ⟨fun h3 => ?_, fun h3 => ?_⟩⟩, fun h => ?_⟩
  · rw [key true (by constructor <;> intro _ <;> first | rfl | omega)] at hR
    exact hR
  · rw [key (decide ((x2 : Int) = y2)) (by rw [decide_eq_true_eq]; omega)] at hR
    exact hR
  · rw [key false ⟨(fun z => by cases z), (fun z => by exfalso; omega)⟩] at hR
    exact hR
  · rw [key false ⟨(fun z => by cases z), (fun z => by exfalso; omega)⟩] at hR
    exact hR
theorem end_key {x1 x2 y1 y2 n : Nat} {b : Bool} (hb : b = true ↔ (x1 = y1 ∧ (x2 < y2 ∨ (1 < n ∧ x2 = y2)))) : endF ((x1, x2), (y1, y2)) n = b := by
  unfold endF
  rw [Bool.eq_iff_iff, decide_eq_true_eq]
  exact hb.symm
theorem ex_ok {W : Wd} {p : Pr} {dw dp : Dt} {R : Res → List AArg → Prop} (ew : dw = wD W) (ep : dp = prD p) (hp : InP W p) (hR : R (.new (.lst ((exch W p).map prD))) [.dat (wD W), .dat (prD p)]) : F_exchanges [.dat dw, .dat dp] R := by
  subst ew ep
  exact ⟨W, p, rfl, hp, hR⟩
theorem nx_ok {W : Wd} {p : Pr} {dw dp : Dt} {R : Res → List AArg → Prop} (ew : dw = wD W) (ep : dp = prD p) (hp : InP W p) (hR : R (.new (.lst ((exch W p).map prD))) [.dat (wD W), .dat (prD p)]) : F_law_next [.dat dw, .dat dp] R := ex_ok ew ep hp hR
theorem en_ok {p : Pr} {n : Nat} {dp dn : Dt} {R : Res → List AArg → Prop} (ep : dp = prD p) (en : dn = .int n) (hR : R (.dat (.bl (endF p n))) [.dat (prD p), .dat (.int n)]) : F_law_ends [.dat dp, .dat dn] R := by
  subst ep en
  exact ⟨p, n, rfl, hR⟩
theorem lastP_last (p : Pr) (r : List Pr) : ((p :: r).map prD).getLast? = some (prD (lastP p r)) := by
  have := lastP_get p r
  rw [List.getLast?_eq_getElem?, List.length_map, List.length_cons, Nat.add_sub_cancel, List.getElem?_map, this]
  rfl
theorem tail_zip (e : List Pr) : zip2D (e.map prD) (cut (e.map prD) (some 1) none) = (e.zip e.tail).map fun q => .tup [prD q.1, prD q.2] := by
  rw [cut1, ← List.map_tail, zip2_map]
set_option maxHeartbeats 4000000 in
theorem red_entry_fits : ∀ as R, as.length = P_entry_fits.length → F_entry_fits as R → b_entry_fits (fnEnds as R) (c0 as N_entry_fits.length) := by
  rintro as R - ⟨W, x, y, e, rfl, ok, hx, hy, hl, hR⟩
  unfold b_entry_fits
  unfold hopsD at hR ⊢
  walk_at "cl"
  rw [List.length_map]
  by_cases he : e = []
  · subst he
    exact ⟨fun _ => hR, fun h => absurd rfl h⟩
  obtain ⟨p, r, he⟩ : ∃ p r, e = p :: r := by
    cases e with
    | nil => exact absurd rfl he
    | cons p r => exact ⟨p, r, rfl⟩
  have e0 : entF W x y e = (decide (p = (x, y)) && (stepsF W e && endF (lastP p r) (r.length + 1))) := by
    rw [he]
    rfl
  have el : e.length = r.length + 1 := by rw [he]; rfl
  rw [e0] at hR
  refine ⟨fun h => by omega, fun _ => ?_⟩
  refine ixL_i (n := 0) (d := prD p) rfl (by rw [he]; rfl) ?_
  walk_at "cl"
  refine fNe_pr (q := (x, y)) ?_
  walk_at "cl"
  refine ⟨fun h => ?_, fun h => ?_⟩
  · unfold t_entry_fits3
    walk_at "cl"
    rw [tail_zip]
    rw [decide_eq_true h, Bool.true_and, steps_all] at hR
    have hp : InP W p := by rw [h]; exact ⟨hx, hy⟩
    refine for_map (xs := e.zip e.tail) (f := fun q => Dt.tup [prD q.1, prD q.2]) (fun k c => ((e.zip e.tail).take k).all (fun q => decide (q.2 ∈ exch W q.1)) = true ∧ ∃ s4 s5 : Slot, c = [.dat (wD W), .dat (sgD x), .dat (sgD y), .dat (.tup (e.map prD)), s4, s5]) ⟨rfl, _, _, rfl⟩ ?_ ?_
    · rintro k q c' hq ⟨ha, s4, s5, rfl⟩
      have hin : InP W q.1 := by
        rw [he] at ha hq
        exact steps_in ok r p k hp ha q hq
      unfold l_entry_fits1
      walk_at "cl"
      refine ex_ok rfl rfl hin ?_
      walk_at "cl"
      refine ⟨⟨shp_prs _, shp_pr _⟩, ?_⟩
      rw [any_pr]
      walk_at "cl"
      refine ⟨fun hm => ⟨at_take ha hq (decide_eq_true hm), _, _, rfl⟩, fun hm => ?_⟩
      rw [at_false (P := fun q : Pr × Pr => decide (q.2 ∈ exch W q.1)) hq (decide_eq_false hm), Bool.false_and] at hR
      exact hR
    · rintro c' ⟨ha, s4, s5, rfl⟩
      rw [List.take_length] at ha
      rw [ha, Bool.true_and] at hR
      unfold t_entry_fits2
      walk_at "cl"
      refine ixL_last (d := prD (lastP p r)) (by rw [he]; exact lastP_last p r) ?_
      rw [← el] at hR
      generalize lastP p r = q at hR ⊢
      obtain ⟨⟨x1, x2⟩, ⟨y1, y2⟩⟩ := q
      have eq : prD ((x1, x2), (y1, y2)) = Dt.tup [.tup [.int x1, .int x2], .tup [.int y1, .int y2]] := rfl
      rw [eq]
      walk_at "cl"
      rw [List.length_map]
      refine ⟨fun h => ⟨fun h2 => ?_, fun h2 => ⟨fun h3 => ?_, fun h3 => ?_⟩⟩, fun h => ?_⟩
      · rw [end_key (b := true) (by constructor <;> intro _ <;> first | rfl | omega)] at hR
        exact hR
      · rw [end_key (b := decide ((2 : Int) ≤ (e.length : Nat))) (by rw [decide_eq_true_eq]; omega)] at hR
        exact hR
      · rw [end_key (b := false) ⟨(fun z => by cases z), (fun z => by exfalso; omega)⟩] at hR
        exact hR
      · rw [end_key (b := false) ⟨(fun z => by cases z), (fun z => by exfalso; omega)⟩] at hR
        exact hR
  · rw [decide_eq_false h, Bool.false_and] at hR
    exact hR
theorem ent_ok {W : Wd} {x y : Sg} {e : List Pr} {dw dx dy de : Dt} {R : Res → List AArg → Prop} (ew : dw = wD W) (ex : dx = sgD x) (ey : dy = sgD y) (ee : de = hopsD e) (ok : WOk W) (hx : x.1 < W.length) (hy : y.1 < W.length) (hl : e.length ≤ 10000) (hR : R (.dat (.bl (entF W x y e))) [.dat (wD W), .dat (sgD x), .dat (sgD y), .dat (hopsD e)]) : F_entry_fits [.dat dw, .dat dx, .dat dy, .dat de] R := by
  subst ew ex ey ee
  exact ⟨W, x, y, e, rfl, ok, hx, hy, hl, hR⟩
theorem lent_ok {W : Wd} {x y : Sg} {e : List Pr} {dw dx dy de : Dt} {R : Res → List AArg → Prop} (ew : dw = wD W) (ex : dx = sgD x) (ey : dy = sgD y) (ee : de = hopsD e) (ok : WOk W) (hx : x.1 < W.length) (hy : y.1 < W.length) (hl : e.length ≤ 10000) (hR : R (.dat (.bl (entF W x y e))) [.dat (wD W), .dat (sgD x), .dat (sgD y), .dat (hopsD e)]) : F_law_entry_fits [.dat dw, .dat dx, .dat dy, .dat de] R := ent_ok ew ex ey ee ok hx hy hl hR
theorem zip_get {α : Type} {e : List α} {k : Nat} (h : k + 1 < e.length) : ∃ a b, e[k]? = some a ∧ e[k + 1]? = some b ∧ (e.zip e.tail)[k]? = some (a, b) := by
  refine ⟨e[k], e[k + 1], List.getElem?_eq_getElem (by omega), List.getElem?_eq_getElem h, ?_⟩
  rw [List.getElem?_zip_eq_some]
  refine ⟨List.getElem?_eq_getElem (by omega), ?_⟩
  rw [List.getElem?_tail]
  exact List.getElem?_eq_getElem h
theorem zip_len {α : Type} (e : List α) : (e.zip e.tail).length = e.length - 1 := by
  rw [List.length_zip, List.length_tail]
  omega
set_option maxHeartbeats 4000000 in
theorem red_law_entry_fits : ∀ as R, as.length = P_law_entry_fits.length → F_law_entry_fits as R → b_law_entry_fits (fnEnds as R) (c0 as N_law_entry_fits.length) := by
  rintro as R - ⟨W, x, y, e, rfl, ok, hx, hy, hl, hR⟩
  unfold b_law_entry_fits
  unfold hopsD at hR ⊢
  walk_at "cl"
  rw [List.length_map]
  by_cases he : e = []
  · subst he
    exact ⟨fun _ => hR, fun h => absurd rfl h⟩
  obtain ⟨p, r, he⟩ : ∃ p r, e = p :: r := by
    cases e with
    | nil => exact absurd rfl he
    | cons p r => exact ⟨p, r, rfl⟩
  have e0 : entF W x y e = (decide (p = (x, y)) && (stepsF W e && endF (lastP p r) (r.length + 1))) := by
    rw [he]
    rfl
  have el : e.length = r.length + 1 := by rw [he]; rfl
  rw [e0] at hR
  refine ⟨fun h => by omega, fun _ => ?_⟩
  refine ixL_i (n := 0) (d := prD p) rfl (by rw [he]; rfl) ?_
  walk_at "cl"
  refine fNe_pr (q := (x, y)) ?_
  walk_at "cl"
  refine ⟨fun h => ?_, fun h => ?_⟩
  · unfold t_law_entry_fits3
    walk_at "cl"
    rw [List.length_map]
    rw [decide_eq_true h, Bool.true_and, steps_all] at hR
    have hp : InP W p := by rw [h]; exact ⟨hx, hy⟩
    refine ⟨by omega, for_rng (fun k c => ((e.zip e.tail).take k).all (fun q => decide (q.2 ∈ exch W q.1)) = true ∧ ∃ s4 : Slot, c = [.dat (wD W), .dat (sgD x), .dat (sgD y), .dat (.tup (e.map prD)), s4]) ⟨rfl, _, rfl⟩ ?_ ?_⟩
    · rintro k c' hk ⟨ha, s4, rfl⟩
      obtain ⟨a, b, ha1, hb1, hq⟩ := zip_get (e := e) (k := k) (by omega)
      have hin : InP W a := by
        rw [he] at ha hq
        exact steps_in ok r p k hp ha (a, b) hq
      unfold l_law_entry_fits1
      walk_at "cl"
      refine ixL_i (n := k + 1) (d := prD b) (by omega) (by rw [List.getElem?_map, hb1]; rfl) ?_
      walk_at "cl"
      refine ixL_i (n := k) (d := prD a) (by omega) (by rw [List.getElem?_map, ha1]; rfl) ?_
      walk_at "cl"
      refine nx_ok rfl rfl hin ?_
      walk_at "cl"
      refine ⟨⟨shp_prs _, shp_pr _⟩, ?_⟩
      rw [any_pr]
      walk_at "cl"
      refine ⟨fun hm => ⟨at_take ha hq (decide_eq_true hm), _, rfl⟩, fun hm => ?_⟩
      rw [at_false (P := fun q : Pr × Pr => decide (q.2 ∈ exch W q.1)) hq (decide_eq_false hm), Bool.false_and] at hR
      exact hR
    · rintro c' ⟨ha, s4, rfl⟩
      rw [List.take_of_length_le (by rw [zip_len]; omega)] at ha
      rw [ha, Bool.true_and] at hR
      unfold t_law_entry_fits2
      walk_at "cl"
      refine ixL_last (d := prD (lastP p r)) (by rw [he]; exact lastP_last p r) ?_
      walk_at "cl"
      rw [List.length_map, el]
      refine en_ok rfl rfl ?_
      walk_at "cl"
      exact hR
  · rw [decide_eq_false h, Bool.false_and] at hR
    exact hR
theorem nb_get {row : List Sg} {k : Nat} (h : k + 1 < row.length) : ∃ a b, row[k]? = some a ∧ row[k + 1]? = some b ∧ (nb row)[k]? = some (a, b) := zip_get h
set_option maxHeartbeats 4000000 in
theorem red_chain_fits : ∀ as R, as.length = P_chain_fits.length → F_chain_fits as R → b_chain_fits (fnEnds as R) (c0 as N_chain_fits.length) := by
  rintro as R - ⟨W, row, paper, rfl, ok, hin, hr, hp, he, hR⟩
  unfold b_chain_fits
  unfold fitsB at hR
  unfold rowD papD at hR ⊢
  walk_at "cl"
  rw [List.length_map, List.length_map]
  have e1 : (paper.length : Int) = max 0 ((row.length : Int) - 1) ↔ paper.length = row.length - 1 := by omega
  refine ⟨fun h => ?_, fun h => ?_⟩
  · rw [decide_eq_true (e1.mp h), Bool.true_and] at hR
    unfold t_chain_fits3
    walk_at "cl"
    rw [nb_zip3]
    refine for_map (xs := (nb row).zip paper) (f := fun q => Dt.tup [sgD q.1.1, sgD q.1.2, hopsD q.2]) (fun k c => (((nb row).zip paper).take k).all (fun q => entF W q.1.1 q.1.2 q.2) = true ∧ ∃ s3 s4 s5 : Slot, c = [.dat (wD W), .dat (.tup (row.map sgD)), .dat (.tup (paper.map hopsD)), s3, s4, s5]) ⟨rfl, _, _, _, rfl⟩ ?_ ?_
    · rintro k q c' hq ⟨ha, s3, s4, s5, rfl⟩
      have hm := List.of_mem_zip (show (q.1, q.2) ∈ (nb row).zip paper from List.mem_of_getElem? hq)
      have hi := nb_in ok hin q.1 hm.1
      unfold l_chain_fits1
      walk_at "cl"
      refine ent_ok rfl rfl rfl rfl ok hi.1 hi.2 (he _ hm.2) ?_
      walk_at "cl"
      cases hv : entF W q.1.1 q.1.2 q.2 with
      | true =>
        walk_at "cl"
        exact ⟨at_take ha hq hv, _, _, _, rfl⟩
      | false =>
        walk_at "cl"
        rw [at_false (P := fun q : Pr × List Pr => entF W q.1.1 q.1.2 q.2) hq hv] at hR
        exact hR
    · rintro c' ⟨ha, s3, s4, s5, rfl⟩
      rw [List.take_length] at ha
      rw [ha] at hR
      unfold t_chain_fits2
      walk_at "cl"
      exact hR
  · rw [decide_eq_false (fun z => h (e1.mpr z)), Bool.false_and] at hR
    exact hR
set_option maxHeartbeats 4000000 in
theorem red_law_fits : ∀ as R, as.length = P_law_fits.length → F_law_fits as R → b_law_fits (fnEnds as R) (c0 as N_law_fits.length) := by
  rintro as R - ⟨W, row, paper, rfl, ok, hin, hr, hp, he, hR⟩
  unfold b_law_fits
  unfold fitsB at hR
  unfold rowD papD at hR ⊢
  walk_at "cl"
  rw [List.length_map, List.length_map]
  have e1 : (paper.length : Int) = max 0 ((row.length : Int) - 1) ↔ paper.length = row.length - 1 := by omega
  refine ⟨fun h => ?_, fun h => ?_⟩
  · have h := e1.mp h
    rw [decide_eq_true h, Bool.true_and] at hR
    unfold t_law_fits3
    walk_at "cl"
    rw [List.length_map]
    have zl : ((nb row).zip paper).length = paper.length := by
      rw [List.length_zip, nb_len]
      omega
    refine ⟨by omega, for_rng (fun k c => (((nb row).zip paper).take k).all (fun q => entF W q.1.1 q.1.2 q.2) = true ∧ ∃ s3 : Slot, c = [.dat (wD W), .dat (.tup (row.map sgD)), .dat (.tup (paper.map hopsD)), s3]) ⟨rfl, _, rfl⟩ ?_ ?_⟩
    · rintro k c' hk ⟨ha, s3, rfl⟩
      obtain ⟨a, b, ha1, hb1, hq1⟩ := nb_get (row := row) (k := k) (by omega)
      obtain ⟨e, hpe⟩ : ∃ e, paper[k]? = some e := ⟨_, List.getElem?_eq_getElem (by omega)⟩
      have hq : ((nb row).zip paper)[k]? = some ((a, b), e) := by
        rw [List.getElem?_zip_eq_some]
        exact ⟨hq1, hpe⟩
      have hm := List.of_mem_zip (show ((a, b), e) ∈ (nb row).zip paper from List.mem_of_getElem? hq)
      have hi := nb_in ok hin (a, b) hm.1
      unfold l_law_fits1
      walk_at "cl"
      refine row_at (j := k) (by omega) ha1 ?_
      walk_at "cl"
      refine row_at (j := k + 1) (by omega) hb1 ?_
      walk_at "cl"
      refine ixL_i (n := k) (d := hopsD e) (by omega) (by rw [List.getElem?_map, hpe]; rfl) ?_
      walk_at "cl"
      refine lent_ok rfl rfl rfl rfl ok hi.1 hi.2 (he _ hm.2) ?_
      walk_at "cl"
      cases hv : entF W a b e with
      | true =>
        walk_at "cl"
        exact ⟨at_take ha hq hv, _, rfl⟩
      | false =>
        walk_at "cl"
        rw [at_false (P := fun q : Pr × List Pr => entF W q.1.1 q.1.2 q.2) hq hv] at hR
        exact hR
    · rintro c' ⟨ha, s3, rfl⟩
      rw [List.take_of_length_le (by rw [zl]; omega)] at ha
      rw [ha] at hR
      unfold t_law_fits2
      walk_at "cl"
      exact hR
  · rw [decide_eq_false (fun z => h (e1.mpr z)), Bool.false_and] at hR
    exact hR
end K26


namespace K26
open PySem PySem.Spec PyProof.Rows L2 Cl Bo
local macro_rules | `(tactic| walk_at "cl") => `(tactic| simp only [c0, toSlot, pick, wipeC, e_dSeq, e_dAsg, e_dAsgG, e_dIf, e_dTru, e_dC, e_dBin, e_dBinT, e_dUn, e_dRet, e_dRetN, e_dDrop, e_dMeth, e_dNext, e_dBreak, e_dCont, e_dAnd, e_dOr, e_dNot, e_dAndV, e_dOrV, e_dNotV, e_dIfE, e_dTup, e_dLst, e_dCB, e_dSl, e_dNoPart, e_dIsi, e_dYes, e_aCons, e_aNil, e_lCons, e_lNil, e_vCons, e_vNil, e_dItems, e_dRng2, e_dRng3, e_dCall, e_dCallK, e_dRev, e_dEnum, c_on1_dat, c_on1_sl, c_onS_dat, c_onS_own, c_onS_arg, c_on2, c_hd_dat, c_hd_sl, c_hd_new, c_asD_dat, c_asD_new, c_asD_sl, c_asS_dat, c_asS_own, c_var, c_varS_dat, c_varS_own, c_varS_arg, c_blR, c_blD, c_tru_non, c_tru_bl, c_tru_int, c_tru_lst, c_tru_tup, c_put_dat, c_put_new, c_put_sl, c_putS_dat, c_putS_own, c_toRet_dat, c_toRet_new, c_toRet_sl, c_toRetS_dat, c_toRetS_own, c_retC_dat, c_retC_new, c_ends_rt, c_ends_nx, c_ends_bk, c_ends_ct, c_retB_dat, c_retB_new, c_retB_sl, c_retBS_own, c_bk_nil, c_bk_dat, c_bk_ob, c_gt0, c_gtS, c_fsub, c_faddI, c_fadd_int, c_fadd_str, c_fadd_lst, c_fadd_tup, c_fmul_int, c_fmul_lst, c_fmul_str, c_fdiv, c_fmod, c_fpow, c_fshl, c_fshr, c_fand, c_for, c_fxor, c_flt, c_fle, c_fgt, c_fge, c_fneg, c_feq_int, c_fne_int, c_feq_str, c_fne_str, c_feq_bl, c_fne_bl, c_fin_str, c_fin_lst, c_fin_tup, c_fisn, c_fisb, c_isn_non, c_isb_non, c_tyd_non, c_isn_bl, c_isb_bl, c_tyd_bl, c_isn_int, c_isb_int, c_tyd_int, c_isn_str, c_isb_str, c_tyd_str, c_isn_tup, c_isb_tup, c_tyd_tup, c_isn_lst, c_isb_lst, c_tyd_lst, c_isn_frz, c_isb_frz, c_tyd_frz, c_isi_NoneType_bool, c_isi_NoneType_int, c_isi_NoneType_str, c_isi_NoneType_tuple, c_isi_NoneType_list, c_isi_bool_bool, c_isi_bool_int, c_isi_bool_str, c_isi_bool_tuple, c_isi_bool_list, c_isi_int_bool, c_isi_int_int, c_isi_int_str, c_isi_int_tuple, c_isi_int_list, c_isi_str_bool, c_isi_str_int, c_isi_str_str, c_isi_str_tuple, c_isi_str_list, c_isi_tuple_bool, c_isi_tuple_int, c_isi_tuple_str, c_isi_tuple_tuple, c_isi_tuple_list, c_isi_list_bool, c_isi_list_int, c_isi_list_str, c_isi_list_tuple, c_isi_list_list, c_fix_lst, c_fix_tup, c_fix_frz, c_fix_str, c_ixL0, c_ixL1, c_ixL2, c_ixL3, c_len_lst, c_len_tup, c_len_frz, c_len_str, c_int1_int, c_int1_bl, c_abs, c_min2, c_max2, c_len, c_int1, c_fabs, c_ftuple, c_flist, c_tuple_lst, c_tuple_tup, c_list_lst, c_list_tup, c_sl_lst, c_sl_str, c_sl_tup, c_part_int, c_part, c_mappend, c_mpop, c_obS_own, c_setS_own, c_obS_arg, c_setS_arg, c_obL, c_setL, c_setIx, c_ixQ, c_setN, c_ixN10, c_ixN20, c_ixN21, c_ixN30, c_ixN31, c_ixN32, c_mt, c_mtQ, c_vws_nil, c_vws_cons, c_rfind4, c_rfind, c_join_lst, c_join_tup, c_one1, c_cints2, c_cints3, c_own, c_isOb_own, c_isOb_arg, c_callQ, c_look_nil, c_look_dat, c_look_own, c_lookS_own, c_lookS_arg, c_nd_nil, c_nd_dat, c_nd_own, c_ni_nil, c_ni_dat, c_ni_own, c_putA_nil, c_putA_cons, c_new_none, c_new_arg, c_new_own, c_oa_nil, c_oa_dat, c_oa_own, c_gT, c_gsCons, c_gsNil, c_gN, c_it_lst, c_it_tup, c_it_frz, c_it_str, c_rng1, c_rngQ, c_par, c_two, c_aug, c_augS, c_loop, c_lc, List.map_cons, List.map_nil, List.length_cons, List.length_nil, Nat.reduceAdd, Nat.reduceSub, Nat.reduceLT, Nat.reduceLeDiff, Nat.zero_le, List.replicate, List.cons_append, List.nil_append, List.append_nil, List.set_cons_zero, List.set_cons_succ, List.getD_cons_zero, List.getD_cons_succ, br_true, br_false, br_not, br_dec, true_and, and_true, if_true, if_false, reduceIte, reduceCtorEq, Nat.reduceEqDiff, Nat.reduceBNe, Bool.and_true, Bool.true_and, Bool.bne_false, Bool.bne_true, Bool.not_true, Bool.not_false, Bool.true_bne, Bool.false_bne, not_true_eq_false, not_false_eq_true, implies_true, one_eq, rngD_length, rngC_length, Int.reduceToNat, Int.cast_ofNat_Int, Int.natCast_one, Int.natCast_zero, Int.reduceEq, eq_self, true_implies, false_implies, not_false_eq_true, Int.reducePow, Int.reduceNeg, Int.reduceLT, Int.reduceLE, true_or, or_true, decide_eq_true_eq, beq_self_eq_true, Nat.zero_add, c_unw_nil, c_unw, c_unwS_no, c_unwS_dat, c_rev_lst, c_rev_tup, c_oneD, c_bad, c_ext, c_extK, c_mrev, c_popAt, c_popK, c_idx, c_forA, fEq_pair, fNe_pair, e_dIsiT, e_dLstRg, c_rgL, c_idxD, c_gL, c_isiD_bool, c_isiD_int, c_isiD_str, c_isiD_tuple, c_isiD_list, c_isiD_NoneType, Bool.or_false, Bool.false_or, Bool.or_true, Bool.true_or, Bool.and_false, Bool.false_and, e_dZip2, e_dZip3, c_twoD, c_threeD, c_zip2t, c_zip2l, c_zip3t, c_addT_int, c_addT_str, c_addT_lst, c_addT_tup, e_dSlT, c_slT_lst, c_slT_tup, c_slT_str, c_ntB, e_dRvT, c_rvT, c_finD, e_dIdxS, c_slL])
theorem hops_len {W : Wd} {x y : Sg} (ok : WOk W) (hl : W.length ≤ 1000) (hx : x.1 < W.length) (hy : y.1 < W.length) : (hpT W x y).length ≤ 1000 := by
  have := hopsT_len ok.wf (b := bsOf W) _ x y (Nat.le_refl _) (by rw [bs_len]; exact hx) (by rw [bs_len]; exact hy)
  show (hopsT (bsOf W) x y).length ≤ 1000
  omega
theorem red_law_paper : ∀ as R, as.length = P_law_paper.length → F_law_paper as R → b_law_paper (fnEnds as R) (c0 as N_law_paper.length) := by
  rintro as R - ⟨W, row, rfl, ok, hl, hr, hin, hR⟩
  unfold b_law_paper
  unfold rowD at hR ⊢
  walk_at "cl"
  rw [List.length_map]
  have er : rngD 0 ((row.length : Int) - 1).toNat = (List.range (row.length - 1)).map fun k : Nat => Dt.int (0 + (k : Int)) := by
    rw [show ((row.length : Int) - 1).toNat = row.length - 1 by omega]
    rfl
  rw [er]
  refine ⟨by omega, lc_f (fun k : Nat => hopsD (hpT W (row.getD k HD) (row.getD (k + 1) HD))) (by rw [List.length_range]; omega) (fun k hk Y hY => ?_) ?_⟩
  · have hk := List.mem_range.mp hk
    obtain ⟨a, b, ha, hb, hq⟩ := nb_get (row := row) (k := k) (by omega)
    have hi := nb_in ok hin (a, b) (List.mem_of_getElem? hq)
    walk_at "cl"
    refine row_at (j := k) (by omega) ha ?_
    walk_at "cl"
    refine row_at (j := k + 1) (by omega) hb ?_
    walk_at "cl"
    refine lhp_ok rfl rfl rfl ok hl hi.1 hi.2 ?_
    walk_at "cl"
    rw [List.getD_eq_getElem?_getD, List.getD_eq_getElem?_getD, ha, hb] at hY
    exact hY
  walk_at "cl"
  unfold papD chP at hR
  rw [List.map_map] at hR
  have en : (List.range (row.length - 1)).map (fun k : Nat => hopsD (hpT W (row.getD k HD) (row.getD (k + 1) HD))) = (nb row).map (hopsD ∘ fun p => hpT W p.1 p.2) := by
    refine List.ext_getElem? fun k => ?_
    rw [List.getElem?_map, List.getElem?_map]
    by_cases h : k + 1 < row.length
    · obtain ⟨a, b, ha, hb, hq⟩ := nb_get h
      rw [List.getElem?_range (by omega), hq]
      show some (hopsD (hpT W (row.getD k HD) (row.getD (k + 1) HD))) = some (hopsD (hpT W a b))
      rw [List.getD_eq_getElem?_getD, List.getD_eq_getElem?_getD, ha, hb]
      rfl
    · rw [List.getElem?_eq_none (by rw [List.length_range]; omega), List.getElem?_eq_none (by rw [nb_len]; omega)]
      rfl
  rw [en]
  exact hR
theorem ah_bit {W : Wd} {T : List Nat} (tk : TbOk W T) {x y : Sg} (hx : Sn W x) (hy : Sn W y) : ahB W x y = tb T (ix W x) (ix W y) := by
  rw [Bool.eq_iff_iff, tk.iff x y hx hy]
  exact ahB_iff
theorem red_law_told : ∀ as R, as.length = P_law_told.length → F_law_told as R → b_law_told (fnEnds as R) (c0 as N_law_told.length) := by
  rintro as R - ⟨W, T, x, y, rfl, ok, hn, tk, hx, hy, hR⟩
  have lx := ix_lt hx
  have ly := ix_lt hy
  have tl := tk.len
  unfold b_law_told
  unfold marksD at hR ⊢
  walk_at "cl"
  refine idx_at hx rfl ?_
  walk_at "cl"
  refine tab_at rfl (by omega) ?_
  walk_at "cl"
  refine idx_at hy rfl ?_
  walk_at "cl"
  rw [ah_bit tk hx hy] at hR
  rw [bit_dec _ rfl]
  exact ⟨by omega, hR⟩
theorem told_ok {W : Wd} {T : List Nat} {x y : Sg} {dx dy : Dt} {R : Res → List AArg → Prop} (ex : dx = sgD x) (ey : dy = sgD y) (ok : WOk W) (hn : NN W ≤ 10000) (tk : TbOk W T) (hx : Sn W x) (hy : Sn W y) (hR : R (.dat (.bl (ahB W x y))) [.dat (.lst ((marks W).map sgD)), .dat (.lst (tabL T)), .dat (sgD x), .dat (sgD y)]) : F_law_told [.dat (.lst ((marks W).map sgD)), .dat (.lst (tabL T)), .dat dx, .dat dy] R := by
  subst ex ey
  exact ⟨W, T, x, y, rfl, ok, hn, tk, hx, hy, hR⟩
theorem red_law_chained : ∀ as R, as.length = P_law_chained.length → F_law_chained as R → b_law_chained (fnEnds as R) (c0 as N_law_chained.length) := by
  rintro as R - ⟨W, T, row, rfl, ok, hn, tk, hs, hl, hR⟩
  unfold b_law_chained
  unfold marksD rowD at hR ⊢
  unfold chained at hR
  walk_at "cl"
  rw [List.length_map]
  refine ⟨by omega, for_rng (fun k c => ((nb row).take k).all (fun q => ahB W q.1 q.2) = true ∧ ∃ s3 : Slot, c = [.dat (.lst ((marks W).map sgD)), .dat (.lst (tabL T)), .dat (.tup (row.map sgD)), s3]) ⟨rfl, _, rfl⟩ ?_ ?_⟩
  · rintro k c' hk ⟨ha, s3, rfl⟩
    obtain ⟨a, b, ha1, hb1, hq⟩ := nb_get (row := row) (k := k) (by omega)
    unfold l_law_chained1
    walk_at "cl"
    refine row_at (j := k) (by omega) ha1 ?_
    walk_at "cl"
    refine row_at (j := k + 1) (by omega) hb1 ?_
    walk_at "cl"
    refine told_ok rfl rfl ok hn tk (hs a (List.mem_of_getElem? ha1)) (hs b (List.mem_of_getElem? hb1)) ?_
    walk_at "cl"
    cases hv : ahB W a b with
    | true =>
      walk_at "cl"
      exact ⟨at_take ha hq hv, _, rfl⟩
    | false =>
      walk_at "cl"
      rw [at_false (P := fun q : Pr => ahB W q.1 q.2) hq hv] at hR
      exact hR
  · rintro c' ⟨ha, s3, rfl⟩
    rw [List.take_of_length_le (by rw [nb_len]; omega)] at ha
    rw [ha] at hR
    unfold t_law_chained2
    walk_at "cl"
    exact hR
theorem marks_ex {W : Wd} {i : Int} {k : Res → Prop} (h0 : 0 ≤ i) (h1 : i < (NN W : Nat)) (hk : ∀ x, Sn W x → ix W x = i.toNat → k (.dat (sgD x))) : ixL ((marks W).map sgD) i k := by
  obtain ⟨x, hx, e⟩ := mark_ex (W := W) (a := i.toNat) (by omega)
  exact mk_ixL (by omega) hx (hk x hx e.symm)
theorem bh_mem {T : List Nat} {j k : Nat} (h : k ∈ behind T j) : k < T.length := by
  unfold behind at h
  exact List.mem_range.mp (List.mem_filter.mp h).1
theorem cl_mem {T : List Nat} {j k : Nat} (h : k ∈ closeL T j) : k < T.length := by
  unfold closeL at h
  exact bh_mem (List.mem_filter.mp h).1
theorem lc_row {c c0 : CEnv} {W : Wd} {v : Nat} {g : DG} {de : DE} {Q : Res → CEnv → Prop} {n : Nat} (hn : n ≤ 1000) (hw : wipeC [v] c = c0)
    (hs : ∀ k : Nat, ∀ Y : Dt → CEnv → Prop, (∀ x : Sg, Sn W x → Y (sgD x) c0) → g (.int (0 + (k : Int))) c0 fun c2 => de c2 fun r c4 => asD r c4 fun e c5 => Y e (wipeC [v] c5))
    (hQ : ∀ l : List Sg, l.length = n → (∀ x ∈ l, Sn W x) → Q (.new (.lst (l.map sgD))) (unw [v] c c0)) : LCI (rngD 0 n) g dYes de [v] c Q := by
  refine ⟨by rw [rngD_length]; omega, fun k acc c' => ∃ t : List Sg, t.length = k ∧ (∀ x ∈ t, Sn W x) ∧ acc = t.map sgD ∧ c' = c0, ⟨[], rfl, (fun x hx => by cases hx), rfl, hw⟩, ?_, ?_⟩
  · rintro k acc d c' hd _ ⟨t, ht, h4, rfl, rfl⟩
    obtain ⟨hk, rfl⟩ := rngD_get hd
    refine hs k (fun e c5 => ∃ t' : List Sg, t'.length = k + 1 ∧ (∀ x ∈ t', Sn W x) ∧ t.map sgD ++ [e] = t'.map sgD ∧ c5 = c') fun x hx => ⟨t ++ [x], by rw [List.length_append, ht]; rfl, fun y hy => ?_, by rw [List.map_append]; rfl, rfl⟩
    rcases List.mem_append.mp hy with hy | hy
    · exact h4 y hy
    · rw [List.mem_singleton.mp hy]
      exact hx
  · rintro acc c' _ ⟨t, ht, h4, rfl, rfl⟩
    rw [rngD_length] at ht
    exact hQ t ht h4
set_option maxHeartbeats 4000000 in
theorem red_law_row : ∀ as R, as.length = P_law_row.length → F_law_row as R → b_law_row (fnEnds as R) (c0 as N_law_row.length) := by
  rintro as R - ⟨W, T, rfl, ok, hn, tk, hR⟩
  have n2 := two_le ok
  have tl := tk.len
  have ml : ((marks W).map sgD).length = NN W := by rw [List.length_map, marksTo_len]
  unfold b_law_row
  unfold marksD at hR ⊢
  walk_at "cl"
  refine pk_ok (by omega) (by omega) fun r1 g1 g2 => ?_
  walk_at "cl"
  obtain ⟨m, rfl⟩ : ∃ m : Nat, r1 = (m : Int) := ⟨r1.toNat, by omega⟩
  refine ⟨by omega, ?_⟩
  rw [Int.toNat_natCast]
  refine lc_row (W := W) (by omega) rfl (fun k Y hY => ?_) fun l hll hls => ?_
  · walk_at "cl"
    rw [ml]
    refine pk_ok (by omega) (by omega) fun r g3 g4 => ?_
    walk_at "cl"
    refine marks_ex g3 g4 fun x hx _ => ?_
    walk_at "cl"
    exact hY x hx
  walk_at "cl"
  refine pk_ok (by omega) (by omega) fun r2 g3 g4 => ?_
  walk_at "cl"
  have fin : ∀ (l : List Sg) (s4 s5 s6 : Slot), (∀ x ∈ l, Sn W x) → l.length ≤ 6 → t_law_row4 (fnEnds [.ob .pool, .dat (.lst ((marks W).map sgD)), .dat (.lst (tabL T))] R) [.arg .pool, .dat (.lst ((marks W).map sgD)), .dat (.lst (tabL T)), .own (.lst (l.map sgD)), s4, s5, s6, .no] := by
    intro l s4 s5 s6 h1 h2
    unfold t_law_row4
    walk_at "cl"
    exact hR l h1 (by omega)
  refine ⟨fun h => ?_, fun h => fin l _ _ _ hls (by omega)⟩
  rw [ml]
  refine pk_ok (by omega) (by omega) fun r3 g5 g6 => ?_
  walk_at "cl"
  refine pk_ok (by omega) (by omega) fun r4 g7 g8 => ?_
  walk_at "cl"
  refine ixL_mem2 (fun v => 0 ≤ v ∧ v < (NN W : Nat)) g7 (by simpa using g8) ?_ fun at_ hat => ?_
  · intro d hd
    simp only [List.mem_cons, List.not_mem_nil, or_false] at hd
    rcases hd with rfl | rfl | rfl
    · exact ⟨_, rfl, by omega, by omega⟩
    · exact ⟨_, rfl, by omega, by omega⟩
    · exact ⟨_, rfl, by omega, by omega⟩
  walk_at "cl"
  refine marks_ex hat.1 hat.2 fun x hx _ => ?_
  walk_at "cl"
  refine pk_ok (by omega) (by omega) fun r5 g9 g10 => ?_
  walk_at "cl"
  refine ⟨by omega, for_rng (fun k c => ∃ (l : List Sg) (j : Int) (s5 s6 : Slot), (∀ x ∈ l, Sn W x) ∧ 1 ≤ l.length ∧ l.length ≤ 1 + k ∧ 0 ≤ j ∧ j < (NN W : Nat) ∧ c = [.arg .pool, .dat (.lst ((marks W).map sgD)), .dat (.lst (tabL T)), .own (.lst (l.map sgD)), .dat (.int j), s5, s6, .no]) ⟨[x], at_, _, _, (fun y hy => by rw [List.mem_singleton.mp hy]; exact hx), by simp, by simp, hat.1, hat.2, rfl⟩ ?_ ?_⟩
  · rintro k c' hk ⟨l, j, s5, s6, h1, h2, h3, j0, j1, rfl⟩
    unfold l_law_row2
    walk_at "cl"
    refine bh_ok (j := j.toNat) (by omega) (by omega) (by omega) ?_
    walk_at "cl"
    refine pk_ok (by omega) (by omega) fun r6 g11 g12 => ?_
    walk_at "cl"
    have go : ∀ (L : List Nat) (d5 : Slot), (∀ k ∈ L, k < T.length) → L.length ≤ 10000 → ∀ E : CEnds, (∀ (l' : List Sg) (j : Int) (s5 s6 : Slot), (∀ x ∈ l', Sn W x) → 1 ≤ l'.length → l'.length ≤ 1 + (k + 1) → 0 ≤ j → j < (NN W : Nat) → E.nx [.arg .pool, .dat (.lst ((marks W).map sgD)), .dat (.lst (tabL T)), .own (.lst (l'.map sgD)), .dat (.int j), s5, s6, .no]) → t_law_row1 E [.arg .pool, .dat (.lst ((marks W).map sgD)), .dat (.lst (tabL T)), .own (.lst (l.map sgD)), .dat (.int j), d5, .own (.lst (tabL L)), .no] := by
      intro L d5 hL hLl E hE
      unfold t_law_row1
      walk_at "cl"
      rw [tabL_len]
      refine ⟨fun q => ?_, fun q => hE l j _ _ h1 h2 (by omega) j0 j1⟩
      refine pk_ok (by omega) (by omega) fun r7 g13 g14 => ?_
      walk_at "cl"
      refine tabL_ix g13 g14 fun v hv => ?_
      walk_at "cl"
      have hv := hL v hv
      refine marks_ex (by omega) (by omega) fun y hy _ => ?_
      walk_at "cl"
      rw [List.length_map]
      refine ⟨by omega, ?_⟩
      rw [show l.map sgD ++ [sgD y] = (l ++ [y]).map sgD by rw [List.map_append]; rfl]
      refine hE (l ++ [y]) v _ _ (fun z hz => ?_) (by rw [List.length_append]; omega) (by rw [List.length_append, List.length_singleton]; omega) (by omega) (by omega)
      rcases List.mem_append.mp hz with hz | hz
      · exact h1 z hz
      · rw [List.mem_singleton.mp hz]
        exact hy
    have lb : (behind T j.toNat).length ≤ 10000 := by
      have := List.length_filter_le (tb T j.toNat) (List.range T.length)
      rw [List.length_range] at this
      show ((List.range T.length).filter (tb T j.toNat)).length ≤ 10000
      omega
    refine ⟨fun q => ?_, fun q => ?_⟩
    · refine cl_ok (j := j.toNat) (by omega) (by omega) (by omega) ?_
      walk_at "cl"
      refine go _ _ (fun k hk => cl_mem hk) ?_ _ fun l' j s5 s6 a1 a2 a3 a4 a5 => ⟨l', j, s5, s6, a1, a2, a3, a4, a5, rfl⟩
      unfold closeL
      exact Nat.le_trans (List.length_filter_le _ _) lb
    · exact go _ _ (fun k hk => bh_mem hk) lb _ fun l' j s5 s6 a1 a2 a3 a4 a5 => ⟨l', j, s5, s6, a1, a2, a3, a4, a5, rfl⟩
  · rintro c' ⟨l, j, s5, s6, h1, h2, h3, j0, j1, rfl⟩
    unfold t_law_row3
    walk_at "cl"
    refine pk_ok (by omega) (by omega) fun r6 g11 g12 => ?_
    walk_at "cl"
    refine ⟨fun q => ?_, fun q => fin l _ _ _ h1 (by omega)⟩
    rw [ml]
    refine pk_ok (by omega) (by omega) fun r7 g13 g14 => ?_
    walk_at "cl"
    refine marks_ex g13 g14 fun y hy _ => ?_
    walk_at "cl"
    rw [List.length_map]
    refine pk_ok (by omega) (by omega) fun r8 g15 g16 => ?_
    walk_at "cl"
    refine setN_i (m := r8.toNat) (by omega) (by rw [List.length_map]; omega) ?_
    walk_at "cl"
    have es : (l.map sgD).set r8.toNat (sgD y) = (l.set r8.toNat y).map sgD := by rw [List.map_set]
    rw [es]
    refine fin _ _ _ _ (fun z hz => ?_) (by rw [List.length_set]; omega)
    rcases List.mem_or_eq_of_mem_set hz with hz | hz
    · exact h1 z hz
    · rw [hz]
      exact hy
theorem exch_len (W : Wd) (p : Pr) : (exch W p).length ≤ 2 := by
  unfold exch
  rw [List.length_append]
  split <;> split <;> simp
theorem fEq_sg {x y : Sg} {k : Res → Prop} : fEq (sgD x) (sgD y) k = k (.dat (.bl (decide (x = y)))) := by
  have : eqD (sgD x) (sgD y) = decide (x = y) := eqD_sg x y
  unfold fEq
  rw [this]
  have o : okEq (sgD x) (sgD y) = true := okEq_pair _ _ _ _
  rw [o]
  simp
theorem prD_eq (p : Pr) : prD p = .tup [sgD p.1, sgD p.2] := rfl
set_option maxHeartbeats 4000000 in
theorem walk_one {E : CEnds} {W : Wd} {T : List Nat} (ok : WOk W) (hn : NN W ≤ 10000) (tk : TbOk W T) {e : List Pr} {q : Pr} (hlast : (e.map prD).getLast? = some (prD q)) (hq : SnP W q) (hl : e.length ≤ 1000) {s4 s5 s7 s8 s9 s10 : Slot}
    (hN : ∀ (p : Pr) (s8 s9 s10 : Slot), SnP W p → E.nx [.arg .pool, .dat (wD W), .dat (.lst ((marks W).map sgD)), .dat (.lst (tabL T)), s4, s5, .own (.lst ((e ++ [p]).map prD)), s7, s8, s9, s10])
    (hB : ∀ (s8 s9 s10 : Slot), E.bk [.arg .pool, .dat (wD W), .dat (.lst ((marks W).map sgD)), .dat (.lst (tabL T)), s4, s5, .own (.lst (e.map prD)), s7, s8, s9, s10]) :
    t_law_walk4 E [.arg .pool, .dat (wD W), .dat (.lst ((marks W).map sgD)), .dat (.lst (tabL T)), s4, s5, .own (.lst (e.map prD)), s7, s8, s9, s10] := by
  unfold t_law_walk4
  walk_at "cl"
  refine ixL_last hlast ?_
  walk_at "cl"
  refine nx_ok rfl rfl ⟨hq.1.1, hq.2.1⟩ ?_
  walk_at "cl"
  have xl := exch_len W q
  refine for_map (xs := exch W q) (f := prD) (fun k c => ∃ (g : List Pr) (s9 s10 : Slot), g.length ≤ k ∧ (∀ p ∈ g, SnP W p) ∧ c = [.arg .pool, .dat (wD W), .dat (.lst ((marks W).map sgD)), .dat (.lst (tabL T)), s4, s5, .own (.lst (e.map prD)), s7, .own (.lst (g.map prD)), s9, s10]) ⟨[], _, _, Nat.le_refl _, (fun p hp => by cases hp), rfl⟩ ?_ ?_
  · rintro k p c' hp ⟨g, s9, s10, h1, h2, rfl⟩
    have hps := exch_sn ok hq (List.mem_of_getElem? hp)
    have hkl : k < 2 := by
      have := (List.getElem?_eq_some_iff.mp hp).1
      omega
    rw [prD_eq]
    unfold l_law_walk1
    walk_at "cl"
    rw [fEq_sg]
    walk_at "cl"
    have add : ∃ (g' : List Pr) (s9 s10 : Slot), g'.length ≤ k + 1 ∧ (∀ p ∈ g', SnP W p) ∧ ([.arg .pool, .dat (wD W), .dat (.lst ((marks W).map sgD)), .dat (.lst (tabL T)), s4, s5, .own (.lst (e.map prD)), s7, .own (.lst (g.map prD ++ [.tup [sgD p.1, sgD p.2]])), .dat (sgD p.1), .dat (sgD p.2)] : CEnv) = [.arg .pool, .dat (wD W), .dat (.lst ((marks W).map sgD)), .dat (.lst (tabL T)), s4, s5, .own (.lst (e.map prD)), s7, .own (.lst (g'.map prD)), s9, s10] := by
      refine ⟨g ++ [p], _, _, by rw [List.length_append, List.length_singleton]; omega, fun z hz => ?_, by rw [List.map_append]; rfl⟩
      rcases List.mem_append.mp hz with hz | hz
      · exact h2 z hz
      · rw [List.mem_singleton.mp hz]
        exact hps
    rw [List.length_map]
    refine ⟨fun h => ⟨by omega, add⟩, fun h => ?_⟩
    refine told_ok rfl rfl ok hn tk hps.1 hps.2 ?_
    walk_at "cl"
    rw [List.length_map]
    cases hv : ahB W p.1 p.2 with
    | true =>
      walk_at "cl"
      exact ⟨by omega, add⟩
    | false =>
      walk_at "cl"
      exact ⟨g, _, _, by omega, h2, rfl⟩
  · rintro c' ⟨g, s9, s10, h1, h2, rfl⟩
    unfold t_law_walk3
    walk_at "cl"
    rw [List.length_map]
    refine ⟨fun h => hB _ _ _, fun h => ?_⟩
    unfold t_law_walk2
    walk_at "cl"
    rw [List.length_map]
    refine pk_ok (by omega) (by omega) fun r1 g1 g2 => ?_
    walk_at "cl"
    refine ixL_mem g1 (by rw [List.length_map]; exact g2) fun d hd => ?_
    obtain ⟨p, hp, rfl⟩ := List.mem_map.mp hd
    walk_at "cl"
    rw [List.length_map]
    refine ⟨by omega, ?_⟩
    have := hN p (.own (.lst (g.map prD))) s9 s10 (h2 p hp)
    rw [List.map_append] at this
    exact this
set_option maxHeartbeats 4000000 in
theorem red_law_walk : ∀ as R, as.length = P_law_walk.length → F_law_walk as R → b_law_walk (fnEnds as R) (c0 as N_law_walk.length) := by
  rintro as R - ⟨W, T, x, y, rfl, ok, hn, tk, hx, hy, hR⟩
  unfold b_law_walk
  unfold marksD at hR ⊢
  walk_at "cl"
  have e0 : [Dt.tup [sgD x, sgD y]] = ([(x, y)] : List Pr).map prD := rfl
  rw [e0]
  have fin : ∀ (e : List Pr) (s7 s8 s9 s10 : Slot), e ≠ [] → e.length ≤ 41 → (∀ p ∈ e, SnP W p) → t_law_walk6 (fnEnds [.ob .pool, .dat (wD W), .dat (.lst ((marks W).map sgD)), .dat (.lst (tabL T)), .dat (sgD x), .dat (sgD y)] R) [.arg .pool, .dat (wD W), .dat (.lst ((marks W).map sgD)), .dat (.lst (tabL T)), .dat (sgD x), .dat (sgD y), .own (.lst (e.map prD)), s7, s8, s9, s10] := by
    intro e s7 s8 s9 s10 h1 h2 h3
    unfold t_law_walk6
    walk_at "cl"
    exact hR e h1 (by omega) h3
  refine for_rng (fun k c => ∃ (e : List Pr) (s7 s8 s9 s10 : Slot), e ≠ [] ∧ e.length ≤ 1 + k ∧ (∀ p ∈ e, SnP W p) ∧ c = [.arg .pool, .dat (wD W), .dat (.lst ((marks W).map sgD)), .dat (.lst (tabL T)), .dat (sgD x), .dat (sgD y), .own (.lst (e.map prD)), s7, s8, s9, s10]) ⟨[(x, y)], _, _, _, _, by simp, by simp, (fun p hp => by rw [List.mem_singleton.mp hp]; exact ⟨hx, hy⟩), rfl⟩ ?_ ?_
  · rintro k c' hk ⟨e, s7, s8, s9, s10, h1, h2, h3, rfl⟩
    obtain ⟨p, r, he⟩ : ∃ p r, e = p :: r := by
      cases e with
      | nil => exact absurd rfl h1
      | cons p r => exact ⟨p, r, rfl⟩
    have hlast : (e.map prD).getLast? = some (prD (lastP p r)) := by rw [he]; exact lastP_last p r
    have hls : SnP W (lastP p r) := h3 _ (by rw [he]; exact List.mem_of_getElem? (lastP_get p r))
    unfold l_law_walk5
    walk_at "cl"
    refine ixL_last hlast ?_
    walk_at "cl"
    rw [List.length_map]
    refine en_ok rfl rfl ?_
    walk_at "cl"
    have go : ∀ E : CEnds, E.bk = t_law_walk6 (fnEnds [.ob .pool, .dat (wD W), .dat (.lst ((marks W).map sgD)), .dat (.lst (tabL T)), .dat (sgD x), .dat (sgD y)] R) → (∀ c, (∃ (e : List Pr) (s7 s8 s9 s10 : Slot), e ≠ [] ∧ e.length ≤ 1 + (k + 1) ∧ (∀ p ∈ e, SnP W p) ∧ c = [.arg .pool, .dat (wD W), .dat (.lst ((marks W).map sgD)), .dat (.lst (tabL T)), .dat (sgD x), .dat (sgD y), .own (.lst (e.map prD)), s7, s8, s9, s10]) → E.nx c) → t_law_walk4 E [.arg .pool, .dat (wD W), .dat (.lst ((marks W).map sgD)), .dat (.lst (tabL T)), .dat (sgD x), .dat (sgD y), .own (.lst (e.map prD)), .dat (.int (0 + (k : Int))), s8, s9, s10] := by
      intro E hE hE2
      refine walk_one ok hn tk hlast hls (by omega) (fun p s8 s9 s10 hp => hE2 _ ⟨e ++ [p], _, s8, s9, s10, by simp, by rw [List.length_append, List.length_singleton]; omega, fun z hz => ?_, rfl⟩) (fun s8 s9 s10 => ?_)
      · rcases List.mem_append.mp hz with hz | hz
        · exact h3 z hz
        · rw [List.mem_singleton.mp hz]
          exact hp
      · rw [hE]
        exact fin e _ s8 s9 s10 h1 (by omega) h3
    cases endF (lastP p r) e.length with
    | false =>
      walk_at "cl"
      exact go _ rfl fun c h => h
    | true =>
      walk_at "cl"
      refine pk_ok (by omega) (by omega) fun r1 g1 g2 => ?_
      walk_at "cl"
      exact ⟨fun _ => fin e _ s8 s9 s10 h1 (by omega) h3, fun _ => go _ rfl fun c h => h⟩
  · rintro c' ⟨e, s7, s8, s9, s10, h1, h2, h3, rfl⟩
    exact fin e s7 s8 s9 s10 h1 (by omega) h3
end K26


namespace K26
open PySem PySem.Spec PyProof.Rows L2 Cl Bo
local macro_rules | `(tactic| walk_at "cl") => `(tactic| simp only [c0, toSlot, pick, wipeC, e_dSeq, e_dAsg, e_dAsgG, e_dIf, e_dTru, e_dC, e_dBin, e_dBinT, e_dUn, e_dRet, e_dRetN, e_dDrop, e_dMeth, e_dNext, e_dBreak, e_dCont, e_dAnd, e_dOr, e_dNot, e_dAndV, e_dOrV, e_dNotV, e_dIfE, e_dTup, e_dLst, e_dCB, e_dSl, e_dNoPart, e_dIsi, e_dYes, e_aCons, e_aNil, e_lCons, e_lNil, e_vCons, e_vNil, e_dItems, e_dRng2, e_dRng3, e_dCall, e_dCallK, e_dRev, e_dEnum, c_on1_dat, c_on1_sl, c_onS_dat, c_onS_own, c_onS_arg, c_on2, c_hd_dat, c_hd_sl, c_hd_new, c_asD_dat, c_asD_new, c_asD_sl, c_asS_dat, c_asS_own, c_var, c_varS_dat, c_varS_own, c_varS_arg, c_blR, c_blD, c_tru_non, c_tru_bl, c_tru_int, c_tru_lst, c_tru_tup, c_put_dat, c_put_new, c_put_sl, c_putS_dat, c_putS_own, c_toRet_dat, c_toRet_new, c_toRet_sl, c_toRetS_dat, c_toRetS_own, c_retC_dat, c_retC_new, c_ends_rt, c_ends_nx, c_ends_bk, c_ends_ct, c_retB_dat, c_retB_new, c_retB_sl, c_retBS_own, c_bk_nil, c_bk_dat, c_bk_ob, c_gt0, c_gtS, c_fsub, c_faddI, c_fadd_int, c_fadd_str, c_fadd_lst, c_fadd_tup, c_fmul_int, c_fmul_lst, c_fmul_str, c_fdiv, c_fmod, c_fpow, c_fshl, c_fshr, c_fand, c_for, c_fxor, c_flt, c_fle, c_fgt, c_fge, c_fneg, c_feq_int, c_fne_int, c_feq_str, c_fne_str, c_feq_bl, c_fne_bl, c_fin_str, c_fin_lst, c_fin_tup, c_fisn, c_fisb, c_isn_non, c_isb_non, c_tyd_non, c_isn_bl, c_isb_bl, c_tyd_bl, c_isn_int, c_isb_int, c_tyd_int, c_isn_str, c_isb_str, c_tyd_str, c_isn_tup, c_isb_tup, c_tyd_tup, c_isn_lst, c_isb_lst, c_tyd_lst, c_isn_frz, c_isb_frz, c_tyd_frz, c_isi_NoneType_bool, c_isi_NoneType_int, c_isi_NoneType_str, c_isi_NoneType_tuple, c_isi_NoneType_list, c_isi_bool_bool, c_isi_bool_int, c_isi_bool_str, c_isi_bool_tuple, c_isi_bool_list, c_isi_int_bool, c_isi_int_int, c_isi_int_str, c_isi_int_tuple, c_isi_int_list, c_isi_str_bool, c_isi_str_int, c_isi_str_str, c_isi_str_tuple, c_isi_str_list, c_isi_tuple_bool, c_isi_tuple_int, c_isi_tuple_str, c_isi_tuple_tuple, c_isi_tuple_list, c_isi_list_bool, c_isi_list_int, c_isi_list_str, c_isi_list_tuple, c_isi_list_list, c_fix_lst, c_fix_tup, c_fix_frz, c_fix_str, c_ixL0, c_ixL1, c_ixL2, c_ixL3, c_len_lst, c_len_tup, c_len_frz, c_len_str, c_int1_int, c_int1_bl, c_abs, c_min2, c_max2, c_len, c_int1, c_fabs, c_ftuple, c_flist, c_tuple_lst, c_tuple_tup, c_list_lst, c_list_tup, c_sl_lst, c_sl_str, c_sl_tup, c_part_int, c_part, c_mappend, c_mpop, c_obS_own, c_setS_own, c_obS_arg, c_setS_arg, c_obL, c_setL, c_setIx, c_ixQ, c_setN, c_ixN10, c_ixN20, c_ixN21, c_ixN30, c_ixN31, c_ixN32, c_mt, c_mtQ, c_vws_nil, c_vws_cons, c_rfind4, c_rfind, c_join_lst, c_join_tup, c_one1, c_cints2, c_cints3, c_own, c_isOb_own, c_isOb_arg, c_callQ, c_look_nil, c_look_dat, c_look_own, c_lookS_own, c_lookS_arg, c_nd_nil, c_nd_dat, c_nd_own, c_ni_nil, c_ni_dat, c_ni_own, c_putA_nil, c_putA_cons, c_new_none, c_new_arg, c_new_own, c_oa_nil, c_oa_dat, c_oa_own, c_gT, c_gsCons, c_gsNil, c_gN, c_it_lst, c_it_tup, c_it_frz, c_it_str, c_rng1, c_rngQ, c_par, c_two, c_aug, c_augS, c_loop, c_lc, List.map_cons, List.map_nil, List.length_cons, List.length_nil, Nat.reduceAdd, Nat.reduceSub, Nat.reduceLT, Nat.reduceLeDiff, Nat.zero_le, List.replicate, List.cons_append, List.nil_append, List.append_nil, List.set_cons_zero, List.set_cons_succ, List.getD_cons_zero, List.getD_cons_succ, br_true, br_false, br_not, br_dec, true_and, and_true, if_true, if_false, reduceIte, reduceCtorEq, Nat.reduceEqDiff, Nat.reduceBNe, Bool.and_true, Bool.true_and, Bool.bne_false, Bool.bne_true, Bool.not_true, Bool.not_false, Bool.true_bne, Bool.false_bne, not_true_eq_false, not_false_eq_true, implies_true, one_eq, rngD_length, rngC_length, Int.reduceToNat, Int.cast_ofNat_Int, Int.natCast_one, Int.natCast_zero, Int.reduceEq, eq_self, true_implies, false_implies, not_false_eq_true, Int.reducePow, Int.reduceNeg, Int.reduceLT, Int.reduceLE, true_or, or_true, decide_eq_true_eq, beq_self_eq_true, Nat.zero_add, c_unw_nil, c_unw, c_unwS_no, c_unwS_dat, c_rev_lst, c_rev_tup, c_oneD, c_bad, c_ext, c_extK, c_mrev, c_popAt, c_popK, c_idx, c_forA, fEq_pair, fNe_pair, e_dIsiT, e_dLstRg, c_rgL, c_idxD, c_gL, c_isiD_bool, c_isiD_int, c_isiD_str, c_isiD_tuple, c_isiD_list, c_isiD_NoneType, Bool.or_false, Bool.false_or, Bool.or_true, Bool.true_or, Bool.and_false, Bool.false_and, e_dZip2, e_dZip3, c_twoD, c_threeD, c_zip2t, c_zip2l, c_zip3t, c_addT_int, c_addT_str, c_addT_lst, c_addT_tup, e_dSlT, c_slT_lst, c_slT_tup, c_slT_str, c_ntB, e_dRvT, c_rvT, c_finD, e_dIdxS, c_slL])
theorem steps_app {W : Wd} : ∀ (r : List Pr) (p q : Pr), stepsF W (p :: r) = true → q ∈ exch W (lastP p r) → stepsF W (p :: r ++ [q]) = true
  | [], p, q, _, h => by
    show (decide (q ∈ exch W p) && stepsF W [q]) = true
    have h : q ∈ exch W p := h
    rw [decide_eq_true h]
    rfl
  | p' :: r, p, q, hs, h => by
    unfold stepsF at hs
    rw [Bool.and_eq_true] at hs
    show (decide (p' ∈ exch W p) && stepsF W (p' :: r ++ [q])) = true
    rw [hs.1, steps_app r p' q hs.2 h]
    rfl
theorem steps_last {W : Wd} (ok : WOk W) : ∀ (r : List Pr) (p : Pr), InP W p → stepsF W (p :: r) = true → InP W (lastP p r)
  | [], _, hp, _ => hp
  | q :: r, p, hp, hs => by
    unfold stepsF at hs
    rw [Bool.and_eq_true, decide_eq_true_eq] at hs
    exact steps_last ok r q (exch_in ok hp hs.1) hs.2
def Wk (W : Wd) (x y : Sg) (n : Nat) (e : List Pr) : Prop := ∃ r, e = (x, y) :: r ∧ stepsF W e = true ∧ e.length ≤ n
theorem Wk.up {W : Wd} {x y : Sg} {n m : Nat} {e : List Pr} (h : Wk W x y n e) (hm : n ≤ m) : Wk W x y m e := by
  obtain ⟨r, h1, h2, h3⟩ := h
  exact ⟨r, h1, h2, by omega⟩
set_option maxHeartbeats 4000000 in
theorem red_law_walks : ∀ as R, as.length = P_law_walks.length → F_law_walks as R → b_law_walks (fnEnds as R) (c0 as N_law_walks.length) := by
  rintro as R - ⟨W, x, y, rfl, ok, hx, hy, hR⟩
  unfold b_law_walks
  walk_at "cl"
  have e0 : [Dt.tup [Dt.tup [sgD x, sgD y]]] = ([[(x, y)]] : List (List Pr)).map hopsD := rfl
  rw [e0]
  refine for_rng (fun k c => ∃ (rows dn : List (List Pr)) (s5 s6 : Slot), rows.length ≤ 1 + 2 * k ∧ dn.length ≤ k ∧ (∀ e ∈ rows, Wk W x y (1 + k) e) ∧ (∀ e ∈ dn, Wk W x y (1 + k) e) ∧ c = [.dat (wD W), .dat (sgD x), .dat (sgD y), .own (.lst (rows.map hopsD)), .own (.lst (dn.map hopsD)), s5, s6]) ⟨[[(x, y)]], [], _, _, by simp, by simp, (fun e he => by rw [List.mem_singleton.mp he]; exact ⟨[], rfl, rfl, by simp⟩), (fun e he => by cases he), rfl⟩ ?_ ?_
  · rintro k c' hk ⟨rows, dn, s5, s6, h1, h2, h3, h4, rfl⟩
    unfold l_law_walks2
    walk_at "cl"
    rw [List.length_map]
    refine ⟨fun h => ?_, fun h => ⟨rows, dn, _, _, by omega, by omega, (fun e he => (h3 e he).up (by omega)), (fun e he => (h4 e he).up (by omega)), rfl⟩⟩
    obtain ⟨e, he⟩ : ∃ e, rows[k]? = some e := ⟨_, List.getElem?_eq_getElem (by omega)⟩
    have hw := h3 e (List.mem_of_getElem? he)
    obtain ⟨r, e1, e2, e3⟩ := hw
    have hxy : InP W (x, y) := ⟨hx, hy⟩
    have hli : InP W (lastP (x, y) r) := steps_last ok r _ hxy (by rw [← e1]; exact e2)
    refine ixL_i (n := k) (d := hopsD e) (by omega) (by rw [List.getElem?_map, he]; rfl) ?_
    walk_at "cl"
    refine ⟨by rw [List.length_map]; omega, ?_⟩
    refine ixL_i (n := k) (d := .tup (e.map prD)) (by omega) (by rw [List.getElem?_map, he]; rfl) ?_
    walk_at "cl"
    refine ixL_last (d := prD (lastP (x, y) r)) (by rw [e1]; exact lastP_last _ r) ?_
    walk_at "cl"
    refine nx_ok rfl rfl hli ?_
    walk_at "cl"
    have xl := exch_len W (lastP (x, y) r)
    have ed : dn.map hopsD ++ [hopsD e] = (dn ++ [e]).map hopsD := by rw [List.map_append]; rfl
    rw [ed]
    refine for_map (xs := exch W (lastP (x, y) r)) (f := prD) (fun i c => ∃ (ro : List (List Pr)) (s6 : Slot), ro.length ≤ rows.length + i ∧ ro[k]? = some e ∧ (∀ e ∈ ro, Wk W x y (1 + (k + 1)) e) ∧ c = [.dat (wD W), .dat (sgD x), .dat (sgD y), .own (.lst (ro.map hopsD)), .own (.lst ((dn ++ [e]).map hopsD)), .dat (.int (0 + (k : Int))), s6]) ⟨rows, _, by omega, he, (fun e he => (h3 e he).up (by omega)), rfl⟩ ?_ ?_
    · rintro i q c' hq ⟨ro, s6, g1, g2, g3, rfl⟩
      have hil : i < 2 := by
        have := (List.getElem?_eq_some_iff.mp hq).1
        omega
      unfold l_law_walks1
      walk_at "cl"
      refine ixL_i (n := k) (d := .tup (e.map prD)) (by omega) (by rw [List.getElem?_map, g2]; rfl) ?_
      walk_at "cl"
      rw [List.length_map, List.length_map]
      refine ⟨by omega, by omega, ro ++ [e ++ [q]], .dat (prD q), by rw [List.length_append, List.length_singleton]; omega, ?_, fun z hz => ?_, ?_⟩
      · rw [List.getElem?_append_left (List.getElem?_eq_some_iff.mp g2).1]
        exact g2
      · rcases List.mem_append.mp hz with hz | hz
        · exact g3 z hz
        · rw [List.mem_singleton.mp hz]
          refine ⟨r ++ [q], by rw [e1]; rfl, ?_, by rw [List.length_append, List.length_singleton]; omega⟩
          rw [e1]
          rw [e1] at e2
          exact steps_app r _ q e2 (List.mem_of_getElem? hq)
      · have eq : (ro ++ [e ++ [q]]).map hopsD = ro.map hopsD ++ [.tup (e.map prD ++ [prD q])] := by
          rw [List.map_append]
          show ro.map hopsD ++ [.tup ((e ++ [q]).map prD)] = _
          rw [List.map_append]
          rfl
        rw [eq]
    · rintro c' ⟨ro, s6, g1, g2, g3, rfl⟩
      refine ⟨ro, dn ++ [e], _, s6, by omega, by rw [List.length_append, List.length_singleton]; omega, g3, fun z hz => ?_, rfl⟩
      rcases List.mem_append.mp hz with hz | hz
      · exact (h4 z hz).up (by omega)
      · rw [List.mem_singleton.mp hz]
        exact ⟨r, e1, e2, by omega⟩
  · rintro c' ⟨rows, dn, s5, s6, h1, h2, h3, h4, rfl⟩
    unfold t_law_walks3
    walk_at "cl"
    exact hR dn (fun e he => (h4 e he).up (by omega)) (by omega)
end K26


namespace K26
open PySem PySem.Spec PyProof.Rows L2 Cl Bo
local macro_rules | `(tactic| walk_at "cl") => `(tactic| simp only [c0, toSlot, pick, wipeC, e_dSeq, e_dAsg, e_dAsgG, e_dIf, e_dTru, e_dC, e_dBin, e_dBinT, e_dUn, e_dRet, e_dRetN, e_dDrop, e_dMeth, e_dNext, e_dBreak, e_dCont, e_dAnd, e_dOr, e_dNot, e_dAndV, e_dOrV, e_dNotV, e_dIfE, e_dTup, e_dLst, e_dCB, e_dSl, e_dNoPart, e_dIsi, e_dYes, e_aCons, e_aNil, e_lCons, e_lNil, e_vCons, e_vNil, e_dItems, e_dRng2, e_dRng3, e_dCall, e_dCallK, e_dRev, e_dEnum, c_on1_dat, c_on1_sl, c_onS_dat, c_onS_own, c_onS_arg, c_on2, c_hd_dat, c_hd_sl, c_hd_new, c_asD_dat, c_asD_new, c_asD_sl, c_asS_dat, c_asS_own, c_var, c_varS_dat, c_varS_own, c_varS_arg, c_blR, c_blD, c_tru_non, c_tru_bl, c_tru_int, c_tru_lst, c_tru_tup, c_put_dat, c_put_new, c_put_sl, c_putS_dat, c_putS_own, c_toRet_dat, c_toRet_new, c_toRet_sl, c_toRetS_dat, c_toRetS_own, c_retC_dat, c_retC_new, c_ends_rt, c_ends_nx, c_ends_bk, c_ends_ct, c_retB_dat, c_retB_new, c_retB_sl, c_retBS_own, c_bk_nil, c_bk_dat, c_bk_ob, c_gt0, c_gtS, c_fsub, c_faddI, c_fadd_int, c_fadd_str, c_fadd_lst, c_fadd_tup, c_fmul_int, c_fmul_lst, c_fmul_str, c_fdiv, c_fmod, c_fpow, c_fshl, c_fshr, c_fand, c_for, c_fxor, c_flt, c_fle, c_fgt, c_fge, c_fneg, c_feq_int, c_fne_int, c_feq_str, c_fne_str, c_feq_bl, c_fne_bl, c_fin_str, c_fin_lst, c_fin_tup, c_fisn, c_fisb, c_isn_non, c_isb_non, c_tyd_non, c_isn_bl, c_isb_bl, c_tyd_bl, c_isn_int, c_isb_int, c_tyd_int, c_isn_str, c_isb_str, c_tyd_str, c_isn_tup, c_isb_tup, c_tyd_tup, c_isn_lst, c_isb_lst, c_tyd_lst, c_isn_frz, c_isb_frz, c_tyd_frz, c_isi_NoneType_bool, c_isi_NoneType_int, c_isi_NoneType_str, c_isi_NoneType_tuple, c_isi_NoneType_list, c_isi_bool_bool, c_isi_bool_int, c_isi_bool_str, c_isi_bool_tuple, c_isi_bool_list, c_isi_int_bool, c_isi_int_int, c_isi_int_str, c_isi_int_tuple, c_isi_int_list, c_isi_str_bool, c_isi_str_int, c_isi_str_str, c_isi_str_tuple, c_isi_str_list, c_isi_tuple_bool, c_isi_tuple_int, c_isi_tuple_str, c_isi_tuple_tuple, c_isi_tuple_list, c_isi_list_bool, c_isi_list_int, c_isi_list_str, c_isi_list_tuple, c_isi_list_list, c_fix_lst, c_fix_tup, c_fix_frz, c_fix_str, c_ixL0, c_ixL1, c_ixL2, c_ixL3, c_len_lst, c_len_tup, c_len_frz, c_len_str, c_int1_int, c_int1_bl, c_abs, c_min2, c_max2, c_len, c_int1, c_fabs, c_ftuple, c_flist, c_tuple_lst, c_tuple_tup, c_list_lst, c_list_tup, c_sl_lst, c_sl_str, c_sl_tup, c_part_int, c_part, c_mappend, c_mpop, c_obS_own, c_setS_own, c_obS_arg, c_setS_arg, c_obL, c_setL, c_setIx, c_ixQ, c_setN, c_ixN10, c_ixN20, c_ixN21, c_ixN30, c_ixN31, c_ixN32, c_mt, c_mtQ, c_vws_nil, c_vws_cons, c_rfind4, c_rfind, c_join_lst, c_join_tup, c_one1, c_cints2, c_cints3, c_own, c_isOb_own, c_isOb_arg, c_callQ, c_look_nil, c_look_dat, c_look_own, c_lookS_own, c_lookS_arg, c_nd_nil, c_nd_dat, c_nd_own, c_ni_nil, c_ni_dat, c_ni_own, c_putA_nil, c_putA_cons, c_new_none, c_new_arg, c_new_own, c_oa_nil, c_oa_dat, c_oa_own, c_gT, c_gsCons, c_gsNil, c_gN, c_it_lst, c_it_tup, c_it_frz, c_it_str, c_rng1, c_rngQ, c_par, c_two, c_aug, c_augS, c_loop, c_lc, List.map_cons, List.map_nil, List.length_cons, List.length_nil, Nat.reduceAdd, Nat.reduceSub, Nat.reduceLT, Nat.reduceLeDiff, Nat.zero_le, List.replicate, List.cons_append, List.nil_append, List.append_nil, List.set_cons_zero, List.set_cons_succ, List.getD_cons_zero, List.getD_cons_succ, br_true, br_false, br_not, br_dec, true_and, and_true, if_true, if_false, reduceIte, reduceCtorEq, Nat.reduceEqDiff, Nat.reduceBNe, Bool.and_true, Bool.true_and, Bool.bne_false, Bool.bne_true, Bool.not_true, Bool.not_false, Bool.true_bne, Bool.false_bne, not_true_eq_false, not_false_eq_true, implies_true, one_eq, rngD_length, rngC_length, Int.reduceToNat, Int.cast_ofNat_Int, Int.natCast_one, Int.natCast_zero, Int.reduceEq, eq_self, true_implies, false_implies, not_false_eq_true, Int.reducePow, Int.reduceNeg, Int.reduceLT, Int.reduceLE, true_or, or_true, decide_eq_true_eq, beq_self_eq_true, Nat.zero_add, c_unw_nil, c_unw, c_unwS_no, c_unwS_dat, c_rev_lst, c_rev_tup, c_oneD, c_bad, c_ext, c_extK, c_mrev, c_popAt, c_popK, c_idx, c_forA, fEq_pair, fNe_pair, e_dIsiT, e_dLstRg, c_rgL, c_idxD, c_gL, c_isiD_bool, c_isiD_int, c_isiD_str, c_isiD_tuple, c_isiD_list, c_isiD_NoneType, Bool.or_false, Bool.false_or, Bool.or_true, Bool.true_or, Bool.and_false, Bool.false_and, e_dZip2, e_dZip3, c_twoD, c_threeD, c_zip2t, c_zip2l, c_zip3t, c_addT_int, c_addT_str, c_addT_lst, c_addT_tup, e_dSlT, c_slT_lst, c_slT_tup, c_slT_str, c_ntB, e_dRvT, c_rvT, c_finD, e_dIdxS, c_slL])
theorem ix_two {W : Wd} {x : Sg} (hx : Sn W x) (h : 2 ≤ ix W x) : 1 ≤ x.1 := by
  rcases Nat.lt_or_ge x.1 1 with q | q
  · obtain ⟨c, i⟩ := x
    have q : c < 1 := q
    obtain rfl : c = 0 := by omega
    have h1 : i < sz W 0 := hx.2
    have h2 : sz W 0 = 2 := rfl
    have h3 : ix W (0, i) = 0 + i := rfl
    omega
  · exact q
theorem bt_at' {W : Wd} {c : Nat} {b : Bt} {i : Int} {k : Res → Prop} (hi : i = (c : Int)) (h : W[c]? = some b) (hk : k (.dat (.tup [.int b.1, sgD b.2.1, sgD b.2.2.1, .str b.2.2.2]))) : ixL (W.map btD) i k := ixL_i hi (by rw [List.getElem?_map, h]; rfl) hk
theorem ix_sg0 {x : Sg} {k : Res → Prop} : fIx (sgD x) (.int 0) k = k (.dat (.int (x.1 : Nat))) := by
  unfold sgD
  walk_at "cl"
theorem sgs_append (l : List Pr) (x y : Sg) : l.map prD ++ [.tup [sgD x, sgD y]] = (l ++ [(x, y)]).map prD := by
  rw [List.map_append]
  rfl
set_option maxHeartbeats 8000000 in
theorem red_law_rich : ∀ as R, as.length = P_law_rich.length → F_law_rich as R → b_law_rich (fnEnds as R) (c0 as N_law_rich.length) := by
  rintro as R - ⟨W, T, rfl, ok, hn, tk, hR⟩
  have tl := tk.len
  have n2 := two_le ok
  have ml : ((marks W).map sgD).length = NN W := by rw [List.length_map, marksTo_len]
  unfold b_law_rich
  unfold marksD wD at hR ⊢
  walk_at "cl"
  rw [ml]
  refine ⟨by omega, for_rng (fun k c => ∃ (l : List Pr) (s4 s5 s6 s7 : Slot), l.length ≤ 2 * NN W * k ∧ (∀ p ∈ l, SnP W p) ∧ c = [.dat (.tup (W.map btD)), .dat (.lst ((marks W).map sgD)), .dat (.lst (tabL T)), .own (.lst (l.map prD)), s4, s5, s6, s7]) ⟨[], _, _, _, _, by simp, (fun p hp => by cases hp), rfl⟩ ?_ ?_⟩
  · rintro k c' hk ⟨l, s4, s5, s6, s7, h1, h2, rfl⟩
    obtain ⟨x, hx, ex⟩ := mark_ex (W := W) (a := 2 + k) (by omega)
    have x1 := ix_two hx (by omega)
    unfold l_law_rich3
    walk_at "cl"
    rw [ml]
    refine ⟨by omega, for_rng (fun j c => ∃ (l : List Pr) (s5 s6 s7 : Slot), l.length ≤ 2 * NN W * k + 2 * j ∧ (∀ p ∈ l, SnP W p) ∧ c = [.dat (.tup (W.map btD)), .dat (.lst ((marks W).map sgD)), .dat (.lst (tabL T)), .own (.lst (l.map prD)), .dat (.int (2 + (k : Int))), s5, s6, s7]) ⟨l, s5, s6, s7, by omega, h2, rfl⟩ ?_ ?_⟩
    · rintro j c' hj ⟨l, s5, s6, s7, h1, h2, rfl⟩
      obtain ⟨y, hy, ey⟩ := mark_ex (W := W) (a := 2 + j) (by omega)
      have y1 := ix_two hy (by omega)
      have big : 2 * NN W * k + 2 * j ≤ 500000 := by
        have : 2 * NN W * k ≤ 1000 * 498 := Nat.mul_le_mul (by omega) (by omega)
        omega
      have skip : ∀ s5 s6 s7 : Slot, ∃ (l' : List Pr) (s5' s6' s7' : Slot), l'.length ≤ 2 * NN W * k + 2 * (j + 1) ∧ (∀ p ∈ l', SnP W p) ∧ ([.dat (.tup (W.map btD)), .dat (.lst ((marks W).map sgD)), .dat (.lst (tabL T)), .own (.lst (l.map prD)), .dat (.int (2 + (k : Int))), s5, s6, s7] : CEnv) = [.dat (.tup (W.map btD)), .dat (.lst ((marks W).map sgD)), .dat (.lst (tabL T)), .own (.lst (l'.map prD)), .dat (.int (2 + (k : Int))), s5', s6', s7'] := fun s5 s6 s7 => ⟨l, s5, s6, s7, by omega, h2, rfl⟩
      unfold l_law_rich2
      walk_at "cl"
      refine tab_at (j := 2 + k) (by omega) (by omega) ?_
      walk_at "cl"
      refine ⟨by omega, fun q => ?_, fun q => skip _ _ _⟩
      refine mk_ixL (x := x) (by omega) hx ?_
      try walk_at "cl"
      rw [ix_sg0]
      try walk_at "cl"
      refine mk_ixL (x := y) (by omega) hy ?_
      try walk_at "cl"
      rw [ix_sg0]
      try walk_at "cl"
      refine ⟨fun q2 => skip _ _ _, fun q2 => ?_⟩
      obtain ⟨bx, hbx⟩ := bt_ex hx.1
      obtain ⟨by_, hby⟩ := bt_ex hy.1
      have sl := (ok.sn _ y1 hy.1).1
      have sr := (ok.sn _ x1 hx.1).2
      rw [show Lf W y.1 = _ from Lf_at hby] at sl
      rw [show Rt W x.1 = _ from Rt_at hbx] at sr
      have ll := ix_lt sl
      have lr := ix_lt sr
      unfold i_law_rich1
      try walk_at "cl"
      refine mk_ixL (x := y) (by omega) hy ?_
      try walk_at "cl"
      rw [ix_sg0]
      try walk_at "cl"
      refine bt_at' rfl hby ?_
      try walk_at "cl"
      refine idx_at sl rfl ?_
      try walk_at "cl"
      refine mk_ixL (x := x) (by omega) hx ?_
      try walk_at "cl"
      rw [ix_sg0]
      try walk_at "cl"
      refine bt_at' rfl hbx ?_
      try walk_at "cl"
      refine idx_at sr rfl ?_
      try walk_at "cl"
      have tail : ∀ (l' : List Pr) (E : CEnds), l'.length ≤ 600000 → (∀ l'' : List Pr, (l'' = l' ∨ l'' = l' ++ [(x, y)]) → E.nx [.dat (.tup (W.map btD)), .dat (.lst ((marks W).map sgD)), .dat (.lst (tabL T)), .own (.lst (l''.map prD)), .dat (.int (2 + (k : Int))), .dat (.int (2 + (j : Int))), .dat (.int (ix W by_.2.1 : Nat)), .dat (.int (ix W bx.2.2.1 : Nat))]) → t_law_rich1 E [.dat (.tup (W.map btD)), .dat (.lst ((marks W).map sgD)), .dat (.lst (tabL T)), .own (.lst (l'.map prD)), .dat (.int (2 + (k : Int))), .dat (.int (2 + (j : Int))), .dat (.int (ix W by_.2.1 : Nat)), .dat (.int (ix W bx.2.2.1 : Nat))] := by
        intro l' E hl hE
        unfold t_law_rich1
        walk_at "cl"
        refine mk_ixL (x := y) (by omega) hy ?_
        try walk_at "cl"
        rw [ix_sg0]
        try walk_at "cl"
        refine mk_ixL (x := x) (by omega) hx ?_
        try walk_at "cl"
        rw [ix_sg0]
        try walk_at "cl"
        refine ⟨fun z => ?_, fun z => hE _ (.inl rfl)⟩
        refine tab_at (j := 2 + k) (by omega) (by omega) ?_
        try walk_at "cl"
        refine ⟨by omega, fun _ => ?_, fun _ => ⟨fun _ => ?_, fun _ => hE _ (.inl rfl)⟩⟩
        all_goals
          refine mk_ixL (x := x) (by omega) hx ?_
          try walk_at "cl"
          refine mk_ixL (x := y) (by omega) hy ?_
          try walk_at "cl"
          rw [List.length_map, sgs_append]
          exact ⟨by omega, hE _ (.inr rfl)⟩
      have two : ∀ (l' : List Pr) (E : CEnds), (l' = l ∨ l' = l ++ [(x, y)]) → (∀ c, (∃ (l : List Pr) (s5 s6 s7 : Slot), l.length ≤ 2 * NN W * k + 2 * (j + 1) ∧ (∀ p ∈ l, SnP W p) ∧ c = [.dat (.tup (W.map btD)), .dat (.lst ((marks W).map sgD)), .dat (.lst (tabL T)), .own (.lst (l.map prD)), .dat (.int (2 + (k : Int))), s5, s6, s7]) → E.nx c) → t_law_rich1 E [.dat (.tup (W.map btD)), .dat (.lst ((marks W).map sgD)), .dat (.lst (tabL T)), .own (.lst (l'.map prD)), .dat (.int (2 + (k : Int))), .dat (.int (2 + (j : Int))), .dat (.int (ix W by_.2.1 : Nat)), .dat (.int (ix W bx.2.2.1 : Nat))] := by
        intro l' E hl hE
        have hl1 : l'.length ≤ l.length + 1 ∧ ∀ p ∈ l', SnP W p := by
          rcases hl with rfl | rfl
          · exact ⟨by omega, h2⟩
          · refine ⟨by rw [List.length_append]; exact Nat.le_refl _, fun p hp => ?_⟩
            rcases List.mem_append.mp hp with hp | hp
            · exact h2 p hp
            · rw [List.mem_singleton.mp hp]
              exact ⟨hx, hy⟩
        refine tail l' E (by omega) fun l'' hl'' => hE _ ⟨l'', _, _, _, ?_, ?_, rfl⟩
        · rcases hl'' with rfl | rfl
          · omega
          · rw [List.length_append, List.length_singleton]
            omega
        · rcases hl'' with rfl | rfl
          · exact hl1.2
          · intro p hp
            rcases List.mem_append.mp hp with hp | hp
            · exact hl1.2 p hp
            · rw [List.mem_singleton.mp hp]
              exact ⟨hx, hy⟩
      refine mk_ixL (x := x) (by omega) hx ?_
      try walk_at "cl"
      rw [ix_sg0]
      try walk_at "cl"
      refine mk_ixL (x := y) (by omega) hy ?_
      try walk_at "cl"
      rw [ix_sg0]
      try walk_at "cl"
      refine ⟨fun z => ?_, fun z => two l _ (.inl rfl) fun c h => h⟩
      refine tab_at (j := ix W bx.2.2.1) (by omega) (by omega) ?_
      try walk_at "cl"
      refine ⟨by omega, fun _ => ?_, fun _ => ⟨fun _ => ?_, fun _ => two l _ (.inl rfl) fun c h => h⟩⟩
      all_goals
        refine mk_ixL (x := x) (by omega) hx ?_
        try walk_at "cl"
        refine mk_ixL (x := y) (by omega) hy ?_
        try walk_at "cl"
        rw [List.length_map, sgs_append]
        exact ⟨by omega, two _ _ (.inr rfl) fun c h => h⟩
    · rintro c' ⟨l, s5, s6, s7, h1, h2, rfl⟩
      refine ⟨l, _, s5, s6, s7, ?_, h2, rfl⟩
      have e : 2 * NN W * (k + 1) = 2 * NN W * k + 2 * NN W := Nat.mul_succ _ _
      omega
  · rintro c' ⟨l, s4, s5, s6, s7, h1, h2, rfl⟩
    unfold t_law_rich4
    walk_at "cl"
    refine hR l h2 ?_
    have : 2 * NN W * (((NN W : Nat) : Int) - 2).toNat ≤ 1000 * 500 := Nat.mul_le_mul (by omega) (by omega)
    omega
end K26


namespace K26
open PySem PySem.Spec PyProof.Rows L2 Cl Bo
local macro_rules | `(tactic| walk_at "cl") => `(tactic| simp only [c0, toSlot, pick, wipeC, e_dSeq, e_dAsg, e_dAsgG, e_dIf, e_dTru, e_dC, e_dBin, e_dBinT, e_dUn, e_dRet, e_dRetN, e_dDrop, e_dMeth, e_dNext, e_dBreak, e_dCont, e_dAnd, e_dOr, e_dNot, e_dAndV, e_dOrV, e_dNotV, e_dIfE, e_dTup, e_dLst, e_dCB, e_dSl, e_dNoPart, e_dIsi, e_dYes, e_aCons, e_aNil, e_lCons, e_lNil, e_vCons, e_vNil, e_dItems, e_dRng2, e_dRng3, e_dCall, e_dCallK, e_dRev, e_dEnum, c_on1_dat, c_on1_sl, c_onS_dat, c_onS_own, c_onS_arg, c_on2, c_hd_dat, c_hd_sl, c_hd_new, c_asD_dat, c_asD_new, c_asD_sl, c_asS_dat, c_asS_own, c_var, c_varS_dat, c_varS_own, c_varS_arg, c_blR, c_blD, c_tru_non, c_tru_bl, c_tru_int, c_tru_lst, c_tru_tup, c_put_dat, c_put_new, c_put_sl, c_putS_dat, c_putS_own, c_toRet_dat, c_toRet_new, c_toRet_sl, c_toRetS_dat, c_toRetS_own, c_retC_dat, c_retC_new, c_ends_rt, c_ends_nx, c_ends_bk, c_ends_ct, c_retB_dat, c_retB_new, c_retB_sl, c_retBS_own, c_bk_nil, c_bk_dat, c_bk_ob, c_gt0, c_gtS, c_fsub, c_faddI, c_fadd_int, c_fadd_str, c_fadd_lst, c_fadd_tup, c_fmul_int, c_fmul_lst, c_fmul_str, c_fdiv, c_fmod, c_fpow, c_fshl, c_fshr, c_fand, c_for, c_fxor, c_flt, c_fle, c_fgt, c_fge, c_fneg, c_feq_int, c_fne_int, c_feq_str, c_fne_str, c_feq_bl, c_fne_bl, c_fin_str, c_fin_lst, c_fin_tup, c_fisn, c_fisb, c_isn_non, c_isb_non, c_tyd_non, c_isn_bl, c_isb_bl, c_tyd_bl, c_isn_int, c_isb_int, c_tyd_int, c_isn_str, c_isb_str, c_tyd_str, c_isn_tup, c_isb_tup, c_tyd_tup, c_isn_lst, c_isb_lst, c_tyd_lst, c_isn_frz, c_isb_frz, c_tyd_frz, c_isi_NoneType_bool, c_isi_NoneType_int, c_isi_NoneType_str, c_isi_NoneType_tuple, c_isi_NoneType_list, c_isi_bool_bool, c_isi_bool_int, c_isi_bool_str, c_isi_bool_tuple, c_isi_bool_list, c_isi_int_bool, c_isi_int_int, c_isi_int_str, c_isi_int_tuple, c_isi_int_list, c_isi_str_bool, c_isi_str_int, c_isi_str_str, c_isi_str_tuple, c_isi_str_list, c_isi_tuple_bool, c_isi_tuple_int, c_isi_tuple_str, c_isi_tuple_tuple, c_isi_tuple_list, c_isi_list_bool, c_isi_list_int, c_isi_list_str, c_isi_list_tuple, c_isi_list_list, c_fix_lst, c_fix_tup, c_fix_frz, c_fix_str, c_ixL0, c_ixL1, c_ixL2, c_ixL3, c_len_lst, c_len_tup, c_len_frz, c_len_str, c_int1_int, c_int1_bl, c_abs, c_min2, c_max2, c_len, c_int1, c_fabs, c_ftuple, c_flist, c_tuple_lst, c_tuple_tup, c_list_lst, c_list_tup, c_sl_lst, c_sl_str, c_sl_tup, c_part_int, c_part, c_mappend, c_mpop, c_obS_own, c_setS_own, c_obS_arg, c_setS_arg, c_obL, c_setL, c_setIx, c_ixQ, c_setN, c_ixN10, c_ixN20, c_ixN21, c_ixN30, c_ixN31, c_ixN32, c_mt, c_mtQ, c_vws_nil, c_vws_cons, c_rfind4, c_rfind, c_join_lst, c_join_tup, c_one1, c_cints2, c_cints3, c_own, c_isOb_own, c_isOb_arg, c_callQ, c_look_nil, c_look_dat, c_look_own, c_lookS_own, c_lookS_arg, c_nd_nil, c_nd_dat, c_nd_own, c_ni_nil, c_ni_dat, c_ni_own, c_putA_nil, c_putA_cons, c_new_none, c_new_arg, c_new_own, c_oa_nil, c_oa_dat, c_oa_own, c_gT, c_gsCons, c_gsNil, c_gN, c_it_lst, c_it_tup, c_it_frz, c_it_str, c_rng1, c_rngQ, c_par, c_two, c_aug, c_augS, c_loop, c_lc, List.map_cons, List.map_nil, List.length_cons, List.length_nil, Nat.reduceAdd, Nat.reduceSub, Nat.reduceLT, Nat.reduceLeDiff, Nat.zero_le, List.replicate, List.cons_append, List.nil_append, List.append_nil, List.set_cons_zero, List.set_cons_succ, List.getD_cons_zero, List.getD_cons_succ, br_true, br_false, br_not, br_dec, true_and, and_true, if_true, if_false, reduceIte, reduceCtorEq, Nat.reduceEqDiff, Nat.reduceBNe, Bool.and_true, Bool.true_and, Bool.bne_false, Bool.bne_true, Bool.not_true, Bool.not_false, Bool.true_bne, Bool.false_bne, not_true_eq_false, not_false_eq_true, implies_true, one_eq, rngD_length, rngC_length, Int.reduceToNat, Int.cast_ofNat_Int, Int.natCast_one, Int.natCast_zero, Int.reduceEq, eq_self, true_implies, false_implies, not_false_eq_true, Int.reducePow, Int.reduceNeg, Int.reduceLT, Int.reduceLE, true_or, or_true, decide_eq_true_eq, beq_self_eq_true, Nat.zero_add, c_unw_nil, c_unw, c_unwS_no, c_unwS_dat, c_rev_lst, c_rev_tup, c_oneD, c_bad, c_ext, c_extK, c_mrev, c_popAt, c_popK, c_idx, c_forA, fEq_pair, fNe_pair, e_dIsiT, e_dLstRg, c_rgL, c_idxD, c_gL, c_isiD_bool, c_isiD_int, c_isiD_str, c_isiD_tuple, c_isiD_list, c_isiD_NoneType, Bool.or_false, Bool.false_or, Bool.or_true, Bool.true_or, Bool.and_false, Bool.false_and, e_dZip2, e_dZip3, c_twoD, c_threeD, c_zip2t, c_zip2l, c_zip3t, c_addT_int, c_addT_str, c_addT_lst, c_addT_tup, e_dSlT, c_slT_lst, c_slT_tup, c_slT_str, c_ntB, e_dRvT, c_rvT, c_finD, e_dIdxS, c_slL])
theorem sv3_hops {l : List Pr} (h : l.length ≤ 10000) : sv 3 (hopsD l) := by
  refine ⟨by rw [List.length_map]; exact h, fun d hd => ?_⟩
  obtain ⟨p, _, rfl⟩ := List.mem_map.mp hd
  refine ⟨by show 2 ≤ 10000; decide, fun d hd => ?_⟩
  have hs : ∀ x : Sg, sv 1 (sgD x) := fun x => ⟨by show 2 ≤ 10000; decide, fun d hd => by
    rcases List.mem_cons.mp hd with rfl | hd
    · trivial
    · rw [List.mem_singleton.mp hd]
      trivial⟩
  rcases List.mem_cons.mp hd with rfl | hd
  · exact hs _
  · rw [List.mem_singleton.mp hd]
    exact hs _
theorem sv_pap {p : List (List Pr)} (h : p.length ≤ 10000) (he : ∀ e ∈ p, e.length ≤ 10000) : sv 4 (papD p) := by
  refine ⟨by rw [List.length_map]; exact h, fun d hd => ?_⟩
  obtain ⟨e, hm, rfl⟩ := List.mem_map.mp hd
  exact sv3_hops (he e hm)
theorem wks_ok {W : Wd} {x y : Sg} {R : Res → List AArg → Prop} (ok : WOk W) (hx : x.1 < W.length) (hy : y.1 < W.length) (hR : ∀ es : List (List Pr), (∀ e ∈ es, ∃ r, e = (x, y) :: r ∧ stepsF W e = true ∧ e.length ≤ 100) → es.length ≤ 100 → R (.new (.lst (es.map hopsD))) [.dat (wD W), .dat (sgD x), .dat (sgD y)]) : F_law_walks [.dat (wD W), .dat (sgD x), .dat (sgD y)] R := ⟨W, x, y, rfl, ok, hx, hy, hR⟩
theorem cf_ok {W : Wd} {row : List Sg} {paper : List (List Pr)} {dw dr dp : Dt} {R : Res → List AArg → Prop} (ew : dw = wD W) (er : dr = rowD row) (ep : dp = papD paper) (ok : WOk W) (h1 : ∀ x ∈ row, x.1 < W.length) (h2 : row.length ≤ 10000) (h3 : paper.length ≤ 10000) (h4 : ∀ e ∈ paper, e.length ≤ 10000) (hR : R (.dat (.bl (fitsB W row paper))) [.dat (wD W), .dat (rowD row), .dat (papD paper)]) : F_chain_fits [.dat dw, .dat dr, .dat dp] R := by
  subst ew er ep
  exact ⟨W, row, paper, rfl, ok, h1, h2, h3, h4, hR⟩
theorem lf_ok {W : Wd} {row : List Sg} {paper : List (List Pr)} {dw dr dp : Dt} {R : Res → List AArg → Prop} (ew : dw = wD W) (er : dr = rowD row) (ep : dp = papD paper) (ok : WOk W) (h1 : ∀ x ∈ row, x.1 < W.length) (h2 : row.length ≤ 10000) (h3 : paper.length ≤ 10000) (h4 : ∀ e ∈ paper, e.length ≤ 10000) (hR : R (.dat (.bl (fitsB W row paper))) [.dat (wD W), .dat (rowD row), .dat (papD paper)]) : F_law_fits [.dat dw, .dat dr, .dat dp] R := cf_ok ew er ep ok h1 h2 h3 h4 hR
theorem cp_ok {W : Wd} {row : List Sg} {dw dr : Dt} {R : Res → List AArg → Prop} (ew : dw = wD W) (er : dr = rowD row) (ok : WOk W) (hl : W.length ≤ 1000) (h2 : row.length ≤ 10000) (h1 : ∀ x ∈ row, x.1 < W.length) (hR : R (.dat (papD (chP W row))) [.dat (wD W), .dat (rowD row)]) : F_chain_paper [.dat dw, .dat dr] R := by
  subst ew er
  exact ⟨W, row, rfl, ok, hl, h2, h1, hR⟩
theorem lp_ok {W : Wd} {row : List Sg} {dw dr : Dt} {R : Res → List AArg → Prop} (ew : dw = wD W) (er : dr = rowD row) (ok : WOk W) (hl : W.length ≤ 1000) (h2 : row.length ≤ 10000) (h1 : ∀ x ∈ row, x.1 < W.length) (hR : R (.dat (papD (chP W row))) [.dat (wD W), .dat (rowD row)]) : F_law_paper [.dat dw, .dat dr] R := cp_ok ew er ok hl h2 h1 hR
theorem fits_one {W : Wd} {x y : Sg} {e : List Pr} : fitsB W [x, y] [e] = entF W x y e := by
  unfold fitsB nb
  simp
set_option maxHeartbeats 4000000 in
theorem red_law_pair_holds : ∀ as R, as.length = P_law_pair_holds.length → F_law_pair_holds as R → b_law_pair_holds (fnEnds as R) (c0 as N_law_pair_holds.length) := by
  rintro as R - ⟨W, T, x, y, rfl, ok, hl, hn, tk, hx, hy, hR⟩
  have h2i : ∀ z ∈ [x, y], z.1 < W.length := fun z hz => by
    rcases List.mem_cons.mp hz with rfl | hz
    · exact hx.1
    · rw [List.mem_singleton.mp hz]
      exact hy.1
  unfold b_law_pair_holds
  unfold marksD at hR ⊢
  walk_at "cl"
  refine wks_ok ok hx.1 hy.1 fun es hes hel => ?_
  walk_at "cl"
  refine for_map (xs := es) (f := hopsD) (fun k c => ∃ (f : Nat) (s6 s7 : Slot), (0 < f → ahB W x y = true) ∧ f ≤ k ∧ c = [.dat (wD W), .dat (.lst ((marks W).map sgD)), .dat (.lst (tabL T)), .dat (sgD x), .dat (sgD y), .dat (.int f), s6, s7]) ⟨0, _, _, (fun h => absurd h (Nat.lt_irrefl _)), Nat.le_refl _, rfl⟩ ?_ ?_
  · rintro k e c' hk ⟨f, s6, s7, hf, hfk, rfl⟩
    obtain ⟨r, e1, e2, e3⟩ := hes e (List.mem_of_getElem? hk)
    have due : entF W x y e = endF (lastP (x, y) r) e.length := by
      rw [e1] at e2 ⊢
      show (decide ((x, y) = (x, y)) && (stepsF W ((x, y) :: r) && endF (lastP (x, y) r) (r.length + 1))) = _
      rw [e2, decide_eq_true rfl]
      rfl
    have eh : hopsD e = .tup (e.map prD) := rfl
    rw [eh]
    unfold l_law_pair_holds1
    walk_at "cl"
    refine ixL_last (d := prD (lastP (x, y) r)) (by rw [e1]; exact lastP_last _ r) ?_
    walk_at "cl"
    rw [List.length_map]
    refine en_ok rfl rfl ?_
    rw [← due]
    walk_at "cl"
    refine cf_ok (row := [x, y]) (paper := [e]) rfl rfl rfl ok h2i (by show 2 ≤ 10000; decide) (by show 1 ≤ 10000; decide) (fun z hz => by rw [List.mem_singleton.mp hz]; omega) ?_
    rw [fits_one]
    walk_at "cl"
    refine same_ok rfl sv_bl ?_
    walk_at "cl"
    cases hv : entF W x y e with
    | true => exact ⟨f + 1, _, _, fun _ => ent_sound ok hx.1 hy.1 hv, by omega, rfl⟩
    | false =>
      refine ⟨f, .dat (.tup (e.map prD)), .dat (.bl false), hf, by omega, ?_⟩
      have : ((f : Int) + if false = true then 1 else 0) = (f : Int) := by
        rw [if_neg (by decide)]
        omega
      rw [this]
  · rintro c' ⟨f, s6, s7, hf, hfk, rfl⟩
    unfold t_law_pair_holds3
    walk_at "cl"
    refine cp_ok (row := [x, y]) rfl rfl ok hl (by show 2 ≤ 10000; decide) h2i ?_
    walk_at "cl"
    refine lhp_ok rfl rfl rfl ok hl hx.1 hy.1 ?_
    walk_at "cl"
    have ec : papD (chP W [x, y]) = .tup [hopsD (hpT W x y)] := rfl
    have hh := hops_len ok hl hx.1 hy.1
    refine same_ok ec (sv_pap (by show 1 ≤ 10000; decide) fun e he => ?_) ?_
    · have he : e ∈ [hpT W x y] := he
      rw [List.mem_singleton.mp he]
      omega
    walk_at "cl"
    unfold t_law_pair_holds2
    walk_at "cl"
    refine ⟨fun h => hR, fun h => ?_⟩
    refine told_ok rfl rfl ok hn tk hx hy ?_
    walk_at "cl"
    rw [hf (by omega)]
    exact hR
end K26


namespace K26
open PySem PySem.Spec PyProof.Rows L2 Cl Bo
local macro_rules | `(tactic| walk_at "cl") => `(tactic| simp only [c0, toSlot, pick, wipeC, e_dSeq, e_dAsg, e_dAsgG, e_dIf, e_dTru, e_dC, e_dBin, e_dBinT, e_dUn, e_dRet, e_dRetN, e_dDrop, e_dMeth, e_dNext, e_dBreak, e_dCont, e_dAnd, e_dOr, e_dNot, e_dAndV, e_dOrV, e_dNotV, e_dIfE, e_dTup, e_dLst, e_dCB, e_dSl, e_dNoPart, e_dIsi, e_dYes, e_aCons, e_aNil, e_lCons, e_lNil, e_vCons, e_vNil, e_dItems, e_dRng2, e_dRng3, e_dCall, e_dCallK, e_dRev, e_dEnum, c_on1_dat, c_on1_sl, c_onS_dat, c_onS_own, c_onS_arg, c_on2, c_hd_dat, c_hd_sl, c_hd_new, c_asD_dat, c_asD_new, c_asD_sl, c_asS_dat, c_asS_own, c_var, c_varS_dat, c_varS_own, c_varS_arg, c_blR, c_blD, c_tru_non, c_tru_bl, c_tru_int, c_tru_lst, c_tru_tup, c_put_dat, c_put_new, c_put_sl, c_putS_dat, c_putS_own, c_toRet_dat, c_toRet_new, c_toRet_sl, c_toRetS_dat, c_toRetS_own, c_retC_dat, c_retC_new, c_ends_rt, c_ends_nx, c_ends_bk, c_ends_ct, c_retB_dat, c_retB_new, c_retB_sl, c_retBS_own, c_bk_nil, c_bk_dat, c_bk_ob, c_gt0, c_gtS, c_fsub, c_faddI, c_fadd_int, c_fadd_str, c_fadd_lst, c_fadd_tup, c_fmul_int, c_fmul_lst, c_fmul_str, c_fdiv, c_fmod, c_fpow, c_fshl, c_fshr, c_fand, c_for, c_fxor, c_flt, c_fle, c_fgt, c_fge, c_fneg, c_feq_int, c_fne_int, c_feq_str, c_fne_str, c_feq_bl, c_fne_bl, c_fin_str, c_fin_lst, c_fin_tup, c_fisn, c_fisb, c_isn_non, c_isb_non, c_tyd_non, c_isn_bl, c_isb_bl, c_tyd_bl, c_isn_int, c_isb_int, c_tyd_int, c_isn_str, c_isb_str, c_tyd_str, c_isn_tup, c_isb_tup, c_tyd_tup, c_isn_lst, c_isb_lst, c_tyd_lst, c_isn_frz, c_isb_frz, c_tyd_frz, c_isi_NoneType_bool, c_isi_NoneType_int, c_isi_NoneType_str, c_isi_NoneType_tuple, c_isi_NoneType_list, c_isi_bool_bool, c_isi_bool_int, c_isi_bool_str, c_isi_bool_tuple, c_isi_bool_list, c_isi_int_bool, c_isi_int_int, c_isi_int_str, c_isi_int_tuple, c_isi_int_list, c_isi_str_bool, c_isi_str_int, c_isi_str_str, c_isi_str_tuple, c_isi_str_list, c_isi_tuple_bool, c_isi_tuple_int, c_isi_tuple_str, c_isi_tuple_tuple, c_isi_tuple_list, c_isi_list_bool, c_isi_list_int, c_isi_list_str, c_isi_list_tuple, c_isi_list_list, c_fix_lst, c_fix_tup, c_fix_frz, c_fix_str, c_ixL0, c_ixL1, c_ixL2, c_ixL3, c_len_lst, c_len_tup, c_len_frz, c_len_str, c_int1_int, c_int1_bl, c_abs, c_min2, c_max2, c_len, c_int1, c_fabs, c_ftuple, c_flist, c_tuple_lst, c_tuple_tup, c_list_lst, c_list_tup, c_sl_lst, c_sl_str, c_sl_tup, c_part_int, c_part, c_mappend, c_mpop, c_obS_own, c_setS_own, c_obS_arg, c_setS_arg, c_obL, c_setL, c_setIx, c_ixQ, c_setN, c_ixN10, c_ixN20, c_ixN21, c_ixN30, c_ixN31, c_ixN32, c_mt, c_mtQ, c_vws_nil, c_vws_cons, c_rfind4, c_rfind, c_join_lst, c_join_tup, c_one1, c_cints2, c_cints3, c_own, c_isOb_own, c_isOb_arg, c_callQ, c_look_nil, c_look_dat, c_look_own, c_lookS_own, c_lookS_arg, c_nd_nil, c_nd_dat, c_nd_own, c_ni_nil, c_ni_dat, c_ni_own, c_putA_nil, c_putA_cons, c_new_none, c_new_arg, c_new_own, c_oa_nil, c_oa_dat, c_oa_own, c_gT, c_gsCons, c_gsNil, c_gN, c_it_lst, c_it_tup, c_it_frz, c_it_str, c_rng1, c_rngQ, c_par, c_two, c_aug, c_augS, c_loop, c_lc, List.map_cons, List.map_nil, List.length_cons, List.length_nil, Nat.reduceAdd, Nat.reduceSub, Nat.reduceLT, Nat.reduceLeDiff, Nat.zero_le, List.replicate, List.cons_append, List.nil_append, List.append_nil, List.set_cons_zero, List.set_cons_succ, List.getD_cons_zero, List.getD_cons_succ, br_true, br_false, br_not, br_dec, true_and, and_true, if_true, if_false, reduceIte, reduceCtorEq, Nat.reduceEqDiff, Nat.reduceBNe, Bool.and_true, Bool.true_and, Bool.bne_false, Bool.bne_true, Bool.not_true, Bool.not_false, Bool.true_bne, Bool.false_bne, not_true_eq_false, not_false_eq_true, implies_true, one_eq, rngD_length, rngC_length, Int.reduceToNat, Int.cast_ofNat_Int, Int.natCast_one, Int.natCast_zero, Int.reduceEq, eq_self, true_implies, false_implies, not_false_eq_true, Int.reducePow, Int.reduceNeg, Int.reduceLT, Int.reduceLE, true_or, or_true, decide_eq_true_eq, beq_self_eq_true, Nat.zero_add, c_unw_nil, c_unw, c_unwS_no, c_unwS_dat, c_rev_lst, c_rev_tup, c_oneD, c_bad, c_ext, c_extK, c_mrev, c_popAt, c_popK, c_idx, c_forA, fEq_pair, fNe_pair, e_dIsiT, e_dLstRg, c_rgL, c_idxD, c_gL, c_isiD_bool, c_isiD_int, c_isiD_str, c_isiD_tuple, c_isiD_list, c_isiD_NoneType, Bool.or_false, Bool.false_or, Bool.or_true, Bool.true_or, Bool.and_false, Bool.false_and, e_dZip2, e_dZip3, c_twoD, c_threeD, c_zip2t, c_zip2l, c_zip3t, c_addT_int, c_addT_str, c_addT_lst, c_addT_tup, e_dSlT, c_slT_lst, c_slT_tup, c_slT_str, c_ntB, e_dRvT, c_rvT, c_finD, e_dIdxS, c_slL])
set_option maxHeartbeats 4000000 in
theorem red_law_world : ∀ as R, as.length = P_law_world.length → F_law_world as R → b_law_world (fnEnds as R) (c0 as N_law_world.length) := by
  rintro as R - ⟨rfl, hR⟩
  unfold b_law_world
  walk_at "cl"
  refine pk_ok (by omega) (by omega) fun r1 g1 g2 => ?_
  walk_at "cl"
  refine pk_ok (by omega) (by omega) fun r2 g3 g4 => ?_
  walk_at "cl"
  refine ixL_mem2 (fun v => 0 ≤ v ∧ v ≤ 9) g3 (by simpa using g4) ?_ fun mn hmn => ?_
  · intro d hd
    simp only [List.mem_cons, List.not_mem_nil, or_false] at hd
    rcases hd with rfl | rfl | rfl | rfl | rfl | rfl | rfl | rfl | rfl | rfl | rfl | rfl <;> exact ⟨_, rfl, by omega, by omega⟩
  walk_at "cl"
  refine pk_ok (by omega) (by omega) fun r3 g5 g6 => ?_
  walk_at "cl"
  have key : ∀ (mode many : Int) (most : Nat), 0 ≤ many → many ≤ 27 → 1 ≤ most → most ≤ 3 → t_law_world3 (fnEnds [.ob .pool] R) [.arg .pool, .dat (.int mode), .dat (.tup [.tup [.int 0, .tup [.int 0, .int 0], .tup [.int 0, .int 1], .str []]]), .dat (.int many), .dat (.int most), .no, .no, .no, .no, .no] := by
    intro mode many most h1 h2 h3 h4
    unfold t_law_world3
    walk_at "cl"
    have e0 : Dt.tup [.tup [.int 0, .tup [.int 0, .int 0], .tup [.int 0, .int 1], .str []]] = wD W0 := rfl
    rw [e0]
    refine ⟨by omega, for_rng (fun k c => ∃ (W : Wd) (s5 s6 s7 s8 s9 : Slot), WOk W ∧ W.length = 1 + k ∧ NN W ≤ 2 + 3 * k ∧ c = [.arg .pool, .dat (.int mode), .dat (wD W), .dat (.int many), .dat (.int most), s5, s6, s7, s8, s9]) ⟨W0, _, _, _, _, _, ok0, rfl, by decide, rfl⟩ ?_ ?_⟩
    · rintro k c' hk ⟨W, s5, s6, s7, s8, s9, ok, hl, hn, rfl⟩
      unfold l_law_world1
      walk_at "cl"
      refine all_ok rfl (by omega) (by omega) (by omega) ?_
      walk_at "cl"
      refine cs_ok rfl ok (by omega) (by omega) fun T tk => ?_
      walk_at "cl"
      refine pr_ok ok tk (by omega) fun x y hx hy hxy => ?_
      walk_at "cl"
      refine pk_ok (by omega) (by omega) fun r4 g7 g8 => ?_
      walk_at "cl"
      refine mk_ixL rfl hx ?_
      walk_at "cl"
      refine mk_ixL rfl hy ?_
      walk_at "cl"
      refine say_ok rfl h3 (by omega) fun t t1 t2 => ?_
      walk_at "cl"
      refine wAdd (b := (1 + r4, x, y, t)) (by omega) (by omega) ?_
      walk_at "cl"
      refine ⟨W ++ [(1 + r4, x, y, t)], _, _, _, _, _, ok.app hx hy hxy t1, by rw [List.length_append, List.length_singleton]; omega, ?_, rfl⟩
      rw [NN_app _ (by omega)]
      show NN W + t.length ≤ _
      omega
    · rintro c' ⟨W, s5, s6, s7, s8, s9, ok, hl, hn, rfl⟩
      unfold t_law_world2
      walk_at "cl"
      exact hR W ok (by omega) (by omega)
  refine ⟨fun h => ?_, fun h => key _ _ 3 (by omega) (by omega) (by omega) (by omega)⟩
  refine pk_ok (by omega) (by omega) fun r4 g7 g8 => ?_
  walk_at "cl"
  refine pk_ok (by omega) (by omega) fun r5 g9 g10 => ?_
  walk_at "cl"
  exact key _ _ 1 (by omega) (by omega) (by omega) (by omega)
end K26


namespace K26
open PySem PySem.Spec PyProof.Rows L2 Cl Bo
local macro_rules | `(tactic| walk_at "cl") => `(tactic| simp only [c0, toSlot, pick, wipeC, e_dSeq, e_dAsg, e_dAsgG, e_dIf, e_dTru, e_dC, e_dBin, e_dBinT, e_dUn, e_dRet, e_dRetN, e_dDrop, e_dMeth, e_dNext, e_dBreak, e_dCont, e_dAnd, e_dOr, e_dNot, e_dAndV, e_dOrV, e_dNotV, e_dIfE, e_dTup, e_dLst, e_dCB, e_dSl, e_dNoPart, e_dIsi, e_dYes, e_aCons, e_aNil, e_lCons, e_lNil, e_vCons, e_vNil, e_dItems, e_dRng2, e_dRng3, e_dCall, e_dCallK, e_dRev, e_dEnum, c_on1_dat, c_on1_sl, c_onS_dat, c_onS_own, c_onS_arg, c_on2, c_hd_dat, c_hd_sl, c_hd_new, c_asD_dat, c_asD_new, c_asD_sl, c_asS_dat, c_asS_own, c_var, c_varS_dat, c_varS_own, c_varS_arg, c_blR, c_blD, c_tru_non, c_tru_bl, c_tru_int, c_tru_lst, c_tru_tup, c_put_dat, c_put_new, c_put_sl, c_putS_dat, c_putS_own, c_toRet_dat, c_toRet_new, c_toRet_sl, c_toRetS_dat, c_toRetS_own, c_retC_dat, c_retC_new, c_ends_rt, c_ends_nx, c_ends_bk, c_ends_ct, c_retB_dat, c_retB_new, c_retB_sl, c_retBS_own, c_bk_nil, c_bk_dat, c_bk_ob, c_gt0, c_gtS, c_fsub, c_faddI, c_fadd_int, c_fadd_str, c_fadd_lst, c_fadd_tup, c_fmul_int, c_fmul_lst, c_fmul_str, c_fdiv, c_fmod, c_fpow, c_fshl, c_fshr, c_fand, c_for, c_fxor, c_flt, c_fle, c_fgt, c_fge, c_fneg, c_feq_int, c_fne_int, c_feq_str, c_fne_str, c_feq_bl, c_fne_bl, c_fin_str, c_fin_lst, c_fin_tup, c_fisn, c_fisb, c_isn_non, c_isb_non, c_tyd_non, c_isn_bl, c_isb_bl, c_tyd_bl, c_isn_int, c_isb_int, c_tyd_int, c_isn_str, c_isb_str, c_tyd_str, c_isn_tup, c_isb_tup, c_tyd_tup, c_isn_lst, c_isb_lst, c_tyd_lst, c_isn_frz, c_isb_frz, c_tyd_frz, c_isi_NoneType_bool, c_isi_NoneType_int, c_isi_NoneType_str, c_isi_NoneType_tuple, c_isi_NoneType_list, c_isi_bool_bool, c_isi_bool_int, c_isi_bool_str, c_isi_bool_tuple, c_isi_bool_list, c_isi_int_bool, c_isi_int_int, c_isi_int_str, c_isi_int_tuple, c_isi_int_list, c_isi_str_bool, c_isi_str_int, c_isi_str_str, c_isi_str_tuple, c_isi_str_list, c_isi_tuple_bool, c_isi_tuple_int, c_isi_tuple_str, c_isi_tuple_tuple, c_isi_tuple_list, c_isi_list_bool, c_isi_list_int, c_isi_list_str, c_isi_list_tuple, c_isi_list_list, c_fix_lst, c_fix_tup, c_fix_frz, c_fix_str, c_ixL0, c_ixL1, c_ixL2, c_ixL3, c_len_lst, c_len_tup, c_len_frz, c_len_str, c_int1_int, c_int1_bl, c_abs, c_min2, c_max2, c_len, c_int1, c_fabs, c_ftuple, c_flist, c_tuple_lst, c_tuple_tup, c_list_lst, c_list_tup, c_sl_lst, c_sl_str, c_sl_tup, c_part_int, c_part, c_mappend, c_mpop, c_obS_own, c_setS_own, c_obS_arg, c_setS_arg, c_obL, c_setL, c_setIx, c_ixQ, c_setN, c_ixN10, c_ixN20, c_ixN21, c_ixN30, c_ixN31, c_ixN32, c_mt, c_mtQ, c_vws_nil, c_vws_cons, c_rfind4, c_rfind, c_join_lst, c_join_tup, c_one1, c_cints2, c_cints3, c_own, c_isOb_own, c_isOb_arg, c_callQ, c_look_nil, c_look_dat, c_look_own, c_lookS_own, c_lookS_arg, c_nd_nil, c_nd_dat, c_nd_own, c_ni_nil, c_ni_dat, c_ni_own, c_putA_nil, c_putA_cons, c_new_none, c_new_arg, c_new_own, c_oa_nil, c_oa_dat, c_oa_own, c_gT, c_gsCons, c_gsNil, c_gN, c_it_lst, c_it_tup, c_it_frz, c_it_str, c_rng1, c_rngQ, c_par, c_two, c_aug, c_augS, c_loop, c_lc, List.map_cons, List.map_nil, List.length_cons, List.length_nil, Nat.reduceAdd, Nat.reduceSub, Nat.reduceLT, Nat.reduceLeDiff, Nat.zero_le, List.replicate, List.cons_append, List.nil_append, List.append_nil, List.set_cons_zero, List.set_cons_succ, List.getD_cons_zero, List.getD_cons_succ, br_true, br_false, br_not, br_dec, true_and, and_true, if_true, if_false, reduceIte, reduceCtorEq, Nat.reduceEqDiff, Nat.reduceBNe, Bool.and_true, Bool.true_and, Bool.bne_false, Bool.bne_true, Bool.not_true, Bool.not_false, Bool.true_bne, Bool.false_bne, not_true_eq_false, not_false_eq_true, implies_true, one_eq, rngD_length, rngC_length, Int.reduceToNat, Int.cast_ofNat_Int, Int.natCast_one, Int.natCast_zero, Int.reduceEq, eq_self, true_implies, false_implies, not_false_eq_true, Int.reducePow, Int.reduceNeg, Int.reduceLT, Int.reduceLE, true_or, or_true, decide_eq_true_eq, beq_self_eq_true, Nat.zero_add, c_unw_nil, c_unw, c_unwS_no, c_unwS_dat, c_rev_lst, c_rev_tup, c_oneD, c_bad, c_ext, c_extK, c_mrev, c_popAt, c_popK, c_idx, c_forA, fEq_pair, fNe_pair, e_dIsiT, e_dLstRg, c_rgL, c_idxD, c_gL, c_isiD_bool, c_isiD_int, c_isiD_str, c_isiD_tuple, c_isiD_list, c_isiD_NoneType, Bool.or_false, Bool.false_or, Bool.or_true, Bool.true_or, Bool.and_false, Bool.false_and, e_dZip2, e_dZip3, c_twoD, c_threeD, c_zip2t, c_zip2l, c_zip3t, c_addT_int, c_addT_str, c_addT_lst, c_addT_tup, e_dSlT, c_slT_lst, c_slT_tup, c_slT_str, c_ntB, e_dRvT, c_rvT, c_finD, e_dIdxS, c_slL])
theorem ch_ok {W : Wd} {T : List Nat} {row : List Sg} {dr : Dt} {R : Res → List AArg → Prop} (er : dr = rowD row) (ok : WOk W) (hn : NN W ≤ 10000) (tk : TbOk W T) (hs : ∀ x ∈ row, Sn W x) (hl : row.length ≤ 10000) (hR : R (.dat (.bl (chained W row))) [.dat (.lst ((marks W).map sgD)), .dat (.lst (tabL T)), .dat (rowD row)]) : F_law_chained [.dat (.lst ((marks W).map sgD)), .dat (.lst (tabL T)), .dat dr] R := by
  subst er
  exact ⟨W, T, row, rfl, ok, hn, tk, hs, hl, hR⟩
theorem wk_ok {W : Wd} {T : List Nat} {x y : Sg} {R : Res → List AArg → Prop} (ok : WOk W) (hn : NN W ≤ 10000) (tk : TbOk W T) (hx : Sn W x) (hy : Sn W y) (hR : ∀ e : List Pr, e ≠ [] → e.length ≤ 100 → (∀ p ∈ e, SnP W p) → R (.dat (hopsD e)) [.ob .pool, .dat (wD W), .dat (.lst ((marks W).map sgD)), .dat (.lst (tabL T)), .dat (sgD x), .dat (sgD y)]) : F_law_walk [.ob .pool, .dat (wD W), .dat (.lst ((marks W).map sgD)), .dat (.lst (tabL T)), .dat (sgD x), .dat (sgD y)] R := ⟨W, T, x, y, rfl, ok, hn, tk, hx, hy, hR⟩
theorem be_ok {W : Wd} {paper : List (List Pr)} {dp : Dt} {R : Res → List AArg → Prop} (ep : dp = papD paper) (ok : WOk W) (hl : W.length ≤ 1000) (hn : NN W ≤ 10000) (h1 : paper ≠ []) (h2 : paper.length ≤ 1000) (h3 : ∀ e ∈ paper, e ≠ [] ∧ e.length ≤ 2000 ∧ ∀ p ∈ e, InP W p) (hR : ∀ ps : List (List (List Pr)), (∀ q ∈ ps, q.length ≤ 2000 ∧ ∀ e ∈ q, e.length ≤ 4000) → ps.length ≤ 100 → R (.new (.lst (ps.map papD))) [.ob .pool, .dat (wD W), .dat (.lst ((marks W).map sgD)), .dat (papD paper)]) : F_law_bent [.ob .pool, .dat (wD W), .dat (.lst ((marks W).map sgD)), .dat dp] R := by
  subst ep
  exact ⟨W, paper, rfl, ok, hl, hn, h1, h2, h3, hR⟩
theorem lc_ents {c c0 : CEnv} {v : Nat} {g : DG} {de : DE} {Q : Res → CEnv → Prop} {n : Nat} (P : List Pr → Prop) (hn : n ≤ 1000) (hw : wipeC [v] c = c0)
    (hs : ∀ k : Nat, k < n → ∀ Y : Dt → CEnv → Prop, (∀ e : List Pr, P e → Y (hopsD e) c0) → g (.int (0 + (k : Int))) c0 fun c2 => de c2 fun r c4 => asD r c4 fun e c5 => Y e (wipeC [v] c5))
    (hQ : ∀ es : List (List Pr), es.length = n → (∀ e ∈ es, P e) → Q (.new (.lst (es.map hopsD))) (unw [v] c c0)) : LCI (rngD 0 n) g dYes de [v] c Q := by
  refine ⟨by rw [rngD_length]; omega, fun k acc c' => ∃ t : List (List Pr), t.length = k ∧ (∀ e ∈ t, P e) ∧ acc = t.map hopsD ∧ c' = c0, ⟨[], rfl, (fun e he => by cases he), rfl, hw⟩, ?_, ?_⟩
  · rintro k acc d c' hd _ ⟨t, ht, h4, rfl, rfl⟩
    obtain ⟨hk, rfl⟩ := rngD_get hd
    refine hs k hk (fun e c5 => ∃ t' : List (List Pr), t'.length = k + 1 ∧ (∀ e ∈ t', P e) ∧ t.map hopsD ++ [e] = t'.map hopsD ∧ c5 = c') fun e he => ⟨t ++ [e], by rw [List.length_append, ht]; rfl, fun z hz => ?_, by rw [List.map_append]; rfl, rfl⟩
    rcases List.mem_append.mp hz with hz | hz
    · exact h4 z hz
    · rw [List.mem_singleton.mp hz]
      exact he
  · rintro acc c' _ ⟨t, ht, h4, rfl, rfl⟩
    rw [rngD_length] at ht
    exact hQ t ht h4
theorem steps_mem {W : Wd} (ok : WOk W) : ∀ (r : List Pr) (p : Pr), InP W p → stepsF W (p :: r) = true → ∀ q ∈ p :: r, InP W q
  | [], p, hp, _, q, hq => by
    rw [List.mem_singleton.mp hq]
    exact hp
  | p' :: r, p, hp, hs, q, hq => by
    unfold stepsF at hs
    rw [Bool.and_eq_true, decide_eq_true_eq] at hs
    rcases List.mem_cons.mp hq with rfl | hq
    · exact hp
    · exact steps_mem ok r p' (exch_in ok hp hs.1) hs.2 q hq
set_option maxHeartbeats 8000000 in
theorem red_law_holds : ∀ as R, as.length = P_law_holds.length → F_law_holds as R → b_law_holds (fnEnds as R) (c0 as N_law_holds.length) := by
  rintro as R - ⟨W, T, row, rfl, ok, hl, hn, tk, hs, hr, hR⟩
  have hin : ∀ x ∈ row, x.1 < W.length := fun x hx => (hs x hx).1
  have cl : (chP W row).length ≤ 10 := by
    unfold chP
    rw [List.length_map, nb_len]
    omega
  have ce : ∀ e ∈ chP W row, e.length ≤ 1000 := fun e he => by
    obtain ⟨p, hp, rfl⟩ := List.mem_map.mp he
    have := nb_in ok hin p hp
    exact hops_len ok hl this.1 this.2
  unfold b_law_holds
  unfold marksD at hR ⊢
  walk_at "cl"
  refine cp_ok rfl rfl ok hl (by omega) hin ?_
  walk_at "cl"
  refine lp_ok rfl rfl ok hl (by omega) hin ?_
  walk_at "cl"
  refine ch_ok rfl ok hn tk hs (by omega) ?_
  walk_at "cl"
  refine same_ok rfl (sv_pap (by omega) fun e he => by have := ce e he; omega) ?_
  walk_at "cl"
  refine cf_ok rfl rfl rfl ok hin (by omega) (by omega) (fun e he => by have := ce e he; omega) ?_
  rw [fits_made ok hin]
  walk_at "cl"
  refine same_ok rfl sv_bl ?_
  walk_at "cl"
  have fin : ∀ (ps : List (List (List Pr))) (es : List (List Pr)) (s10 s11 : Slot), (∀ q ∈ ps, q.length ≤ 2000 ∧ ∀ e ∈ q, e.length ≤ 4000) → es.length ≤ 2000 → (∀ e ∈ es, e.length ≤ 4000) → t_law_holds3 (fnEnds [.ob .pool, .dat (wD W), .dat (.lst ((marks W).map sgD)), .dat (.lst (tabL T)), .dat (rowD row)] R) [.arg .pool, .dat (wD W), .dat (.lst ((marks W).map sgD)), .dat (.lst (tabL T)), .dat (rowD row), .dat (papD (chP W row)), .dat (papD (chP W row)), .dat (.bl (chained W row)), .dat (papD es), .own (.lst (ps.map papD)), s10, s11, .no] := by
    intro ps es s10 s11 hps he1 he2
    unfold t_law_holds3
    walk_at "cl"
    refine for_map (xs := ps) (f := papD) (fun k c => ∃ s9 s10 s11 : Slot, c = [.arg .pool, .dat (wD W), .dat (.lst ((marks W).map sgD)), .dat (.lst (tabL T)), .dat (rowD row), .dat (papD (chP W row)), .dat (papD (chP W row)), .dat (.bl (chained W row)), .dat (papD es), s9, s10, s11, .no]) ⟨_, _, _, rfl⟩ ?_ ?_
    · rintro k q c' hk ⟨s9, s10, s11, rfl⟩
      have hq := hps q (List.mem_of_getElem? hk)
      unfold l_law_holds1
      walk_at "cl"
      refine lf_ok rfl rfl rfl ok hin (by omega) (by omega) (fun e he => by have := hq.2 e he; omega) ?_
      walk_at "cl"
      cases hv : fitsB W row q with
      | true =>
        have hc := fits_sound ok hin hv
        rw [hc]
        walk_at "cl"
        refine cf_ok rfl rfl rfl ok hin (by omega) (by omega) (fun e he => by have := hq.2 e he; omega) ?_
        rw [hv]
        walk_at "cl"
        refine same_ok rfl sv_bl ?_
        walk_at "cl"
        exact ⟨_, _, _, rfl⟩
      | false =>
        walk_at "cl"
        refine cf_ok rfl rfl rfl ok hin (by omega) (by omega) (fun e he => by have := hq.2 e he; omega) ?_
        rw [hv]
        walk_at "cl"
        refine same_ok rfl sv_bl ?_
        walk_at "cl"
        exact ⟨_, _, _, rfl⟩
    · rintro c' ⟨s9, s10, s11, rfl⟩
      unfold t_law_holds2
      walk_at "cl"
      refine cf_ok rfl rfl rfl ok hin (by omega) (by omega) (fun e he => by have := he2 e he; omega) ?_
      walk_at "cl"
      refine lf_ok rfl rfl rfl ok hin (by omega) (by omega) (fun e he => by have := he2 e he; omega) ?_
      walk_at "cl"
      refine same_ok rfl sv_bl ?_
      walk_at "cl"
      exact hR
  unfold t_law_holds4
  have er : rowD row = .tup (row.map sgD) := rfl
  rw [er] at fin ⊢
  walk_at "cl"
  rw [List.length_map]
  rw [show ((row.length : Int) - 1).toNat = row.length - 1 by omega]
  refine ⟨by omega, lc_ents (fun e => e ≠ [] ∧ e.length ≤ 100 ∧ ∀ p ∈ e, SnP W p) (by omega) rfl (fun k hk Y hY => ?_) fun es hel hes => ?_⟩
  · obtain ⟨a, b, ha, hb, _⟩ := nb_get (row := row) (k := k) (by omega)
    walk_at "cl"
    refine row_at (j := k) (by omega) ha ?_
    walk_at "cl"
    refine row_at (j := k + 1) (by omega) hb ?_
    walk_at "cl"
    refine wk_ok ok hn tk (hs a (List.mem_of_getElem? ha)) (hs b (List.mem_of_getElem? hb)) fun e h1 h2 h3 => ?_
    walk_at "cl"
    exact hY e ⟨h1, h2, h3⟩
  walk_at "cl"
  have ep : Dt.tup (es.map hopsD) = papD es := rfl
  rw [ep, List.length_map]
  have he2 : ∀ e ∈ es, e.length ≤ 4000 := fun e he => by have := (hes e he).2.1; omega
  have c4 : ∀ e ∈ chP W row, e.length ≤ 4000 := fun e he => by have := ce e he; omega
  have e2 : [papD (chP W row), papD es] = [chP W row, es].map papD := rfl
  have base : ∀ q ∈ [chP W row, es], q.length ≤ 2000 ∧ ∀ e ∈ q, e.length ≤ 4000 := fun q hq => by
    rcases List.mem_cons.mp hq with rfl | hq
    · exact ⟨by omega, c4⟩
    · rw [List.mem_singleton.mp hq]
      exact ⟨by omega, he2⟩
  rw [e2]
  refine ⟨fun h => ?_, fun h => fin _ es _ _ base (by omega) he2⟩
  refine be_ok rfl ok hl hn (fun z => by rw [z] at hel; simp at hel; omega) (by omega) (fun e he => ⟨(hes e he).1, by have := (hes e he).2.1; omega, fun p hp => ⟨((hes e he).2.2 p hp).1.1, ((hes e he).2.2 p hp).2.1⟩⟩) fun ps hps hpl => ?_
  try walk_at "cl"
  have cb : ∀ e ∈ chP W row, e ≠ [] ∧ e.length ≤ 2000 ∧ ∀ p ∈ e, InP W p := fun e he => by
    have hle := ce e he
    obtain ⟨p, hp, rfl⟩ := List.mem_map.mp he
    have hi := nb_in ok hin p hp
    obtain ⟨r, h1, h2, _⟩ := hops_walk ok _ p.1 p.2 (Nat.lt_succ_self _) hi.1 hi.2
    refine ⟨fun z => ?_, by omega, fun q hq => ?_⟩
    · have z : hpT W p.1 p.2 = [] := z
      rw [h1] at z
      cases z
    · have hq : q ∈ hpT W p.1 p.2 := hq
      rw [h1] at hq h2
      exact steps_mem ok r _ hi h2 q hq
  rw [List.length_map]
  refine ⟨by omega, ?_⟩
  refine be_ok rfl ok hl hn (fun z => ?_) (by omega) cb fun ps2 hps2 hpl2 => ?_
  · have : (chP W row).length = 0 := by rw [z]; rfl
    unfold chP at this
    rw [List.length_map, nb_len] at this
    omega
  try walk_at "cl"
  rw [List.length_map, List.length_map]
  have e3 : papD (chP W row) :: papD es :: (ps.map papD ++ ps2.map papD) = (chP W row :: es :: (ps ++ ps2)).map papD := by
    rw [List.map_cons, List.map_cons, List.map_append]
  rw [e3]
  refine ⟨by omega, fin _ es _ _ (fun q hq => ?_) (by omega) he2⟩
  rcases List.mem_cons.mp hq with rfl | hq
  · exact ⟨by omega, c4⟩
  rcases List.mem_cons.mp hq with rfl | hq
  · exact ⟨by omega, he2⟩
  rcases List.mem_append.mp hq with hq | hq
  · exact hps q hq
  · exact hps2 q hq
end K26


namespace K26
open PySem PySem.Spec PyProof.Rows L2 Cl Bo
local macro_rules | `(tactic| walk_at "cl") => `(tactic| simp only [c0, toSlot, pick, wipeC, e_dSeq, e_dAsg, e_dAsgG, e_dIf, e_dTru, e_dC, e_dBin, e_dBinT, e_dUn, e_dRet, e_dRetN, e_dDrop, e_dMeth, e_dNext, e_dBreak, e_dCont, e_dAnd, e_dOr, e_dNot, e_dAndV, e_dOrV, e_dNotV, e_dIfE, e_dTup, e_dLst, e_dCB, e_dSl, e_dNoPart, e_dIsi, e_dYes, e_aCons, e_aNil, e_lCons, e_lNil, e_vCons, e_vNil, e_dItems, e_dRng2, e_dRng3, e_dCall, e_dCallK, e_dRev, e_dEnum, c_on1_dat, c_on1_sl, c_onS_dat, c_onS_own, c_onS_arg, c_on2, c_hd_dat, c_hd_sl, c_hd_new, c_asD_dat, c_asD_new, c_asD_sl, c_asS_dat, c_asS_own, c_var, c_varS_dat, c_varS_own, c_varS_arg, c_blR, c_blD, c_tru_non, c_tru_bl, c_tru_int, c_tru_lst, c_tru_tup, c_put_dat, c_put_new, c_put_sl, c_putS_dat, c_putS_own, c_toRet_dat, c_toRet_new, c_toRet_sl, c_toRetS_dat, c_toRetS_own, c_retC_dat, c_retC_new, c_ends_rt, c_ends_nx, c_ends_bk, c_ends_ct, c_retB_dat, c_retB_new, c_retB_sl, c_retBS_own, c_bk_nil, c_bk_dat, c_bk_ob, c_gt0, c_gtS, c_fsub, c_faddI, c_fadd_int, c_fadd_str, c_fadd_lst, c_fadd_tup, c_fmul_int, c_fmul_lst, c_fmul_str, c_fdiv, c_fmod, c_fpow, c_fshl, c_fshr, c_fand, c_for, c_fxor, c_flt, c_fle, c_fgt, c_fge, c_fneg, c_feq_int, c_fne_int, c_feq_str, c_fne_str, c_feq_bl, c_fne_bl, c_fin_str, c_fin_lst, c_fin_tup, c_fisn, c_fisb, c_isn_non, c_isb_non, c_tyd_non, c_isn_bl, c_isb_bl, c_tyd_bl, c_isn_int, c_isb_int, c_tyd_int, c_isn_str, c_isb_str, c_tyd_str, c_isn_tup, c_isb_tup, c_tyd_tup, c_isn_lst, c_isb_lst, c_tyd_lst, c_isn_frz, c_isb_frz, c_tyd_frz, c_isi_NoneType_bool, c_isi_NoneType_int, c_isi_NoneType_str, c_isi_NoneType_tuple, c_isi_NoneType_list, c_isi_bool_bool, c_isi_bool_int, c_isi_bool_str, c_isi_bool_tuple, c_isi_bool_list, c_isi_int_bool, c_isi_int_int, c_isi_int_str, c_isi_int_tuple, c_isi_int_list, c_isi_str_bool, c_isi_str_int, c_isi_str_str, c_isi_str_tuple, c_isi_str_list, c_isi_tuple_bool, c_isi_tuple_int, c_isi_tuple_str, c_isi_tuple_tuple, c_isi_tuple_list, c_isi_list_bool, c_isi_list_int, c_isi_list_str, c_isi_list_tuple, c_isi_list_list, c_fix_lst, c_fix_tup, c_fix_frz, c_fix_str, c_ixL0, c_ixL1, c_ixL2, c_ixL3, c_len_lst, c_len_tup, c_len_frz, c_len_str, c_int1_int, c_int1_bl, c_abs, c_min2, c_max2, c_len, c_int1, c_fabs, c_ftuple, c_flist, c_tuple_lst, c_tuple_tup, c_list_lst, c_list_tup, c_sl_lst, c_sl_str, c_sl_tup, c_part_int, c_part, c_mappend, c_mpop, c_obS_own, c_setS_own, c_obS_arg, c_setS_arg, c_obL, c_setL, c_setIx, c_ixQ, c_setN, c_ixN10, c_ixN20, c_ixN21, c_ixN30, c_ixN31, c_ixN32, c_mt, c_mtQ, c_vws_nil, c_vws_cons, c_rfind4, c_rfind, c_join_lst, c_join_tup, c_one1, c_cints2, c_cints3, c_own, c_isOb_own, c_isOb_arg, c_callQ, c_look_nil, c_look_dat, c_look_own, c_lookS_own, c_lookS_arg, c_nd_nil, c_nd_dat, c_nd_own, c_ni_nil, c_ni_dat, c_ni_own, c_putA_nil, c_putA_cons, c_new_none, c_new_arg, c_new_own, c_oa_nil, c_oa_dat, c_oa_own, c_gT, c_gsCons, c_gsNil, c_gN, c_it_lst, c_it_tup, c_it_frz, c_it_str, c_rng1, c_rngQ, c_par, c_two, c_aug, c_augS, c_loop, c_lc, List.map_cons, List.map_nil, List.length_cons, List.length_nil, Nat.reduceAdd, Nat.reduceSub, Nat.reduceLT, Nat.reduceLeDiff, Nat.zero_le, List.replicate, List.cons_append, List.nil_append, List.append_nil, List.set_cons_zero, List.set_cons_succ, List.getD_cons_zero, List.getD_cons_succ, br_true, br_false, br_not, br_dec, true_and, and_true, if_true, if_false, reduceIte, reduceCtorEq, Nat.reduceEqDiff, Nat.reduceBNe, Bool.and_true, Bool.true_and, Bool.bne_false, Bool.bne_true, Bool.not_true, Bool.not_false, Bool.true_bne, Bool.false_bne, not_true_eq_false, not_false_eq_true, implies_true, one_eq, rngD_length, rngC_length, Int.reduceToNat, Int.cast_ofNat_Int, Int.natCast_one, Int.natCast_zero, Int.reduceEq, eq_self, true_implies, false_implies, not_false_eq_true, Int.reducePow, Int.reduceNeg, Int.reduceLT, Int.reduceLE, true_or, or_true, decide_eq_true_eq, beq_self_eq_true, Nat.zero_add, c_unw_nil, c_unw, c_unwS_no, c_unwS_dat, c_rev_lst, c_rev_tup, c_oneD, c_bad, c_ext, c_extK, c_mrev, c_popAt, c_popK, c_idx, c_forA, fEq_pair, fNe_pair, e_dIsiT, e_dLstRg, c_rgL, c_idxD, c_gL, c_isiD_bool, c_isiD_int, c_isiD_str, c_isiD_tuple, c_isiD_list, c_isiD_NoneType, Bool.or_false, Bool.false_or, Bool.or_true, Bool.true_or, Bool.and_false, Bool.false_and, e_dZip2, e_dZip3, c_twoD, c_threeD, c_zip2t, c_zip2l, c_zip3t, c_addT_int, c_addT_str, c_addT_lst, c_addT_tup, e_dSlT, c_slT_lst, c_slT_tup, c_slT_str, c_ntB, e_dRvT, c_rvT, c_finD, e_dIdxS, c_slL])
theorem cut_map {α : Type} (f : α → Dt) (l : List α) (a b : Option Int) : cut (l.map f) a b = (cut l a b).map f := by
  unfold cut
  rw [List.length_map, ← List.map_drop, ← List.map_take]
theorem cut_len {α : Type} (l : List α) (a b : Option Int) : (cut l a b).length ≤ l.length := by
  unfold cut
  rw [List.length_take, List.length_drop]
  omega
def EntD (n : Nat) (d : Dt) : Prop := ∃ e : List Pr, d = hopsD e ∧ e.length ≤ n
def PapD (n m : Nat) (d : Dt) : Prop := ∃ p : List (List Pr), d = papD p ∧ p.length ≤ n ∧ ∀ e ∈ p, e.length ≤ m
theorem paps_of {n m : Nat} : ∀ ds : List Dt, (∀ d ∈ ds, PapD n m d) → ∃ ps : List (List (List Pr)), ds = ps.map papD ∧ ∀ p ∈ ps, p.length ≤ n ∧ ∀ e ∈ p, e.length ≤ m
  | [], _ => ⟨[], rfl, fun p hp => by cases hp⟩
  | d :: ds, h => by
    obtain ⟨p, e1, e2⟩ := h d (List.mem_cons_self ..)
    obtain ⟨ps, e3, e4⟩ := paps_of ds fun d hd => h d (List.mem_cons_of_mem _ hd)
    refine ⟨p :: ps, by rw [e1, e3]; rfl, fun q hq => ?_⟩
    rcases List.mem_cons.mp hq with rfl | hq
    · exact e2
    · exact e4 q hq
theorem ent_cut {n : Nat} {e : List Pr} (h : e.length ≤ n) (a b : Option Int) : EntD n (.tup (cut (e.map prD) a b)) := ⟨cut e a b, by rw [cut_map]; rfl, Nat.le_trans (cut_len _ _ _) h⟩
theorem ent_app {n m : Nat} {l l' : List Dt} (h : EntD n (.tup l)) (h' : EntD m (.tup l')) : EntD (n + m) (.tup (l ++ l')) := by
  obtain ⟨e, e1, e2⟩ := h
  obtain ⟨e', e3, e4⟩ := h'
  have e1 : l = e.map prD := by injection e1
  have e3 : l' = e'.map prD := by injection e3
  refine ⟨e ++ e', ?_, by rw [List.length_append]; omega⟩
  rw [e1, e3, ← List.map_append]
  rfl
theorem ent_up {n m : Nat} {d : Dt} (h : EntD n d) (hm : n ≤ m) : EntD m d := by
  obtain ⟨e, e1, e2⟩ := h
  exact ⟨e, e1, by omega⟩
theorem ent_one (p : Pr) : EntD 1 (.tup [prD p]) := ⟨[p], rfl, by simp⟩
theorem pap_cut {n m : Nat} {p : List (List Pr)} (h : p.length ≤ n) (hm : ∀ e ∈ p, e.length ≤ m) (a b : Option Int) : PapD n m (.tup (cut (p.map hopsD) a b)) := by
  refine ⟨cut p a b, by rw [cut_map]; rfl, Nat.le_trans (cut_len _ _ _) h, fun e he => hm e ?_⟩
  unfold cut at he
  exact List.mem_of_mem_drop (List.mem_of_mem_take he)
theorem pap_app {n n' m : Nat} {l l' : List Dt} (h : PapD n m (.tup l)) (h' : PapD n' m (.tup l')) : PapD (n + n') m (.tup (l ++ l')) := by
  obtain ⟨e, e1, e2, e5⟩ := h
  obtain ⟨e', e3, e4, e6⟩ := h'
  have e1 : l = e.map hopsD := by injection e1
  have e3 : l' = e'.map hopsD := by injection e3
  refine ⟨e ++ e', ?_, by rw [List.length_append]; omega, fun z hz => ?_⟩
  · rw [e1, e3, ← List.map_append]
    rfl
  · rcases List.mem_append.mp hz with hz | hz
    · exact e5 z hz
    · exact e6 z hz
theorem pap_one {m : Nat} {d : Dt} (h : EntD m d) : PapD 1 m (.tup [d]) := by
  obtain ⟨e, rfl, h⟩ := h
  exact ⟨[e], rfl, by simp, fun z hz => by rw [List.mem_singleton.mp hz]; exact h⟩
theorem ix_sg1 {x : Sg} {k : Res → Prop} : fIx (sgD x) (.int 1) k = k (.dat (.int (x.2 : Nat))) := by
  unfold sgD
  walk_at "cl"
set_option maxHeartbeats 8000000 in
theorem red_law_bent : ∀ as R, as.length = P_law_bent.length → F_law_bent as R → b_law_bent (fnEnds as R) (c0 as N_law_bent.length) := by
  rintro as R - ⟨W, paper, rfl, ok, hl, hn, hne, hpl, hpe, hR⟩
  have n2 := two_le ok
  have ml : ((marks W).map sgD).length = NN W := by rw [List.length_map, marksTo_len]
  have p1 : 1 ≤ paper.length := by
    cases paper with
    | nil => exact absurd rfl hne
    | cons a b => simp
  unfold b_law_bent
  have er : papD paper = .tup (paper.map hopsD) := rfl
  rw [er]
  rw [er] at hR
  unfold marksD at hR ⊢
  walk_at "cl"
  rw [List.length_map]
  refine pk_ok (by omega) (by omega) fun r1 g1 g2 => ?_
  walk_at "cl"
  refine ixL_mem g1 (by rw [List.length_map]; exact g2) fun d hd => ?_
  obtain ⟨e, he, rfl⟩ := List.mem_map.mp hd
  obtain ⟨he1, he2, he3⟩ := hpe e he
  have e1 : 1 ≤ e.length := by
    cases e with
    | nil => exact absurd rfl he1
    | cons a b => simp
  have eh : hopsD e = .tup (e.map prD) := rfl
  rw [eh]
  walk_at "cl"
  rw [List.length_map]
  refine pk_ok (by omega) (by omega) fun r2 g3 g4 => ?_
  walk_at "cl"
  refine ixL_mem g3 (by rw [List.length_map]; exact g4) fun d hd => ?_
  obtain ⟨q, hq, rfl⟩ := List.mem_map.mp hd
  have hqi := he3 q hq
  walk_at "cl"
  rw [prD_eq]
  walk_at "cl"
  rw [ml]
  refine pk_ok (by omega) (by omega) fun r3 g5 g6 => ?_
  walk_at "cl"
  refine marks_ex g5 g6 fun odd ho _ => ?_
  have ew : wD W = .tup (W.map btD) := rfl
  rw [ew] at hR ⊢
  walk_at "cl"
  obtain ⟨p0, r0, e0⟩ : ∃ p r, e = p :: r := by
    cases e with
    | nil => exact absurd rfl he1
    | cons p r => exact ⟨p, r, rfl⟩
  have hlast : (e.map prD).getLast? = some (prD (lastP p0 r0)) := by rw [e0]; exact lastP_last p0 r0
  have lc : ∀ a b, (cut (e.map prD) a b).length ≤ 2000 := fun a b => by
    have := cut_len (e.map prD) a b
    rw [List.length_map] at this
    omega
  refine ⟨by have := lc none (some r2); have := lc (some (r2 + 1)) none; omega, ixL_last hlast ?_⟩
  try walk_at "cl"
  refine ⟨by rw [List.length_map]; omega, ?_⟩
  try walk_at "cl"
  refine ⟨by have := lc none (some r2); omega, ?_⟩
  rw [ix_sg0]
  try walk_at "cl"
  rw [ix_sg1]
  try walk_at "cl"
  have cu : ∀ x : Dt, (∃ p : Pr, x = prD p) → EntD 2001 (.tup (cut (e.map prD) none (some r2) ++ (x :: cut (e.map prD) (some (r2 + 1)) none))) := by
    rintro x ⟨p, rfl⟩
    obtain ⟨j, rfl⟩ : ∃ j : Nat, r2 = (j : Int) := ⟨r2.toNat, by omega⟩
    refine ⟨e.take j ++ (p :: e.drop (j + 1)), ?_, ?_⟩
    · rw [cut_to (by rw [List.length_map]; omega), show ((j : Int) + 1) = ((j + 1 : Nat) : Int) from rfl, cut_from (by rw [List.length_map]; omega), ← List.map_take, ← List.map_drop]
      show _ = Dt.tup (List.map prD _)
      rw [List.map_append, List.map_cons]
    · rw [List.length_append, List.length_cons, List.length_take, List.length_drop]
      omega
  have pl2 : ∀ a b, (cut (paper.map hopsD) a b).length ≤ 1000 := fun a b => by
    have := cut_len (paper.map hopsD) a b
    rw [List.length_map] at this
    omega
  have pe4 : ∀ e ∈ paper, e.length ≤ 4000 := fun e he => by have := (hpe e he).2.1; omega
  have pc : ∀ a b, PapD 1000 4000 (.tup (cut (paper.map hopsD) a b)) := fun a b => pap_cut hpl pe4 a b
  have pu : ∀ x : Dt, EntD 4000 x → PapD 2000 4000 (.tup (cut (paper.map hopsD) none (some r1) ++ (x :: cut (paper.map hopsD) (some (r1 + 1)) none))) := by
    rintro x ⟨p, rfl, hp⟩
    obtain ⟨j, rfl⟩ : ∃ j : Nat, r1 = (j : Int) := ⟨r1.toNat, by omega⟩
    refine ⟨paper.take j ++ (p :: paper.drop (j + 1)), ?_, ?_, fun z hz => ?_⟩
    · rw [cut_to (by rw [List.length_map]; omega), show ((j : Int) + 1) = ((j + 1 : Nat) : Int) from rfl, cut_from (by rw [List.length_map]; omega), ← List.map_take, ← List.map_drop]
      show _ = Dt.tup (List.map hopsD _)
      rw [List.map_append, List.map_cons]
    · rw [List.length_append, List.length_cons, List.length_take, List.length_drop]
      omega
    · rcases List.mem_append.mp hz with hz | hz
      · exact pe4 z (List.mem_of_mem_take hz)
      · rcases List.mem_cons.mp hz with rfl | hz
        · exact hp
        · exact pe4 z (List.mem_of_mem_drop hz)
  have ce : ∀ a b, EntD 2000 (.tup (cut (e.map prD) a b)) := fun a b => ent_cut he2 a b
  have ef : ∀ s13 : Slot, ∀ acc : List Dt, acc.length = 18 → (∀ d ∈ acc, EntD 4000 d) → t_law_bent3 (fnEnds [.ob .pool, .dat (.tup (W.map btD)), .dat (.lst ((marks W).map sgD)), .dat (.tup (paper.map hopsD))] R) [.arg .pool, .dat (.tup (W.map btD)), .dat (.lst ((marks W).map sgD)), .dat (.tup (paper.map hopsD)), .dat (.int r1), .dat (.tup (e.map prD)), .dat (.int r2), .dat (sgD q.1), .dat (sgD q.2), .dat (sgD odd), .dat (.tup [.int ((W.map btD).length : Nat), .int 0]), .dat (.tup [.int 1000000000, .int 3]), .own (.lst acc), s13, .no, .no] := by
    intro s13 acc hal hae
    unfold t_law_bent3
    walk_at "cl"
    refine lc_map (fun d => .tup (cut (paper.map hopsD) none (some r1) ++ (d :: cut (paper.map hopsD) (some (r1 + 1)) none))) (by omega) (fun d hd Y hY => ?_) ?_
    · walk_at "cl"
      have k1 := pl2 none (some r1)
      have k2 := pl2 (some (r1 + 1)) none
      rw [List.append_assoc]
      refine ⟨by omega, ?_, hY⟩
      simp only [List.length_append, List.length_cons, List.length_nil]
      omega
    walk_at "cl"
    rw [List.length_map, List.length_map]
    refine ⟨by omega, by omega, ?_⟩
    have hall : ∀ d ∈ (acc.map (fun d => Dt.tup (cut (paper.map hopsD) none (some r1) ++ d :: cut (paper.map hopsD) (some (r1 + 1)) none)) ++ [Dt.tup (cut (paper.map hopsD) none (some r1)), Dt.tup (cut (paper.map hopsD) (some (r1 + 1)) none), Dt.tup (paper.map hopsD ++ [Dt.tup (e.map prD)]), Dt.tup (paper.map hopsD).reverse, Dt.tup []]), PapD 2000 4000 d := by
      intro d hd
      have up : ∀ {n : Nat} {d : Dt}, PapD n 4000 d → n ≤ 2000 → PapD 2000 4000 d := fun h hn => by
        obtain ⟨p, h1, h2, h3⟩ := h
        exact ⟨p, h1, by omega, h3⟩
      rcases List.mem_append.mp hd with hd | hd
      · obtain ⟨x, hx, rfl⟩ := List.mem_map.mp hd
        exact pu x (hae x hx)
      · simp only [List.mem_cons, List.not_mem_nil, or_false] at hd
        rcases hd with rfl | rfl | rfl | rfl | rfl
        · exact up (pc _ _) (by omega)
        · exact up (pc _ _) (by omega)
        · exact up (pap_app (n := 1000) ⟨paper, rfl, hpl, pe4⟩ (pap_one ⟨e, rfl, by omega⟩)) (by omega)
        · exact ⟨paper.reverse, by rw [← List.map_reverse]; rfl, by rw [List.length_reverse]; omega, fun z hz => pe4 z (List.mem_reverse.mp hz)⟩
        · exact ⟨[], rfl, by simp, fun z hz => by cases hz⟩
    obtain ⟨ps, e5, e6⟩ := paps_of _ hall
    have len := congrArg List.length e5
    rw [List.length_append, List.length_map, List.length_map, hal] at len
    rw [e5]
    exact hR ps e6 (by have len : 18 + 5 = ps.length := len; omega)
  rw [show ([Dt.tup [sgD q.snd, sgD q.fst], Dt.tup [sgD odd, sgD q.snd], Dt.tup [sgD q.fst, sgD odd], Dt.tup [sgD q.fst, Dt.tup [Dt.int ↑(List.map btD W).length, Dt.int 0]], Dt.tup [Dt.tup [Dt.int 1000000000, Dt.int 3], sgD q.snd], Dt.tup [sgD q.fst, Dt.tup [Dt.int ↑q.snd.fst, Dt.int (↑q.snd.snd + 1)]], Dt.tup [Dt.tup [Dt.int 0, Dt.int 0], Dt.tup [Dt.int 0, Dt.int 1]], Dt.tup [sgD odd, sgD odd]] : List Dt) = [(q.2, q.1), (odd, q.2), (q.1, odd), (q.1, ((W.map btD).length, 0)), ((1000000000, 3), q.2), (q.1, (q.2.1, q.2.2 + 1)), ((0, 0), (0, 1)), (odd, odd)].map prD from rfl]
  refine for_map (f := prD) (fun k c => ∃ (acc : List Dt) (s13 : Slot), acc.length = 6 + k ∧ (∀ d ∈ acc, EntD 4000 d) ∧ c = [.arg .pool, .dat (.tup (W.map btD)), .dat (.lst ((marks W).map sgD)), .dat (.tup (paper.map hopsD)), .dat (.int r1), .dat (.tup (e.map prD)), .dat (.int r2), .dat (sgD q.1), .dat (sgD q.2), .dat (sgD odd), .dat (.tup [.int ((W.map btD).length : Nat), .int 0]), .dat (.tup [.int 1000000000, .int 3]), .own (.lst acc), s13, .no, .no]) ⟨_, _, rfl, ?_, rfl⟩ ?_ ?_
  · intro d hd
    simp only [List.mem_cons, List.not_mem_nil, or_false] at hd
    rcases hd with rfl | rfl | rfl | rfl | rfl | rfl
    · exact ⟨[], rfl, by simp⟩
    · exact ent_up (ent_app (ce _ _) (ce _ _)) (by omega)
    · exact ent_up (ce _ _) (by omega)
    · exact ent_up (ce _ _) (by omega)
    · exact ent_up (ent_app (n := 2000) ⟨e, rfl, he2⟩ (ent_one _)) (by omega)
    · exact ent_up (ent_app (ce _ _) (ent_one (q.1, q.1))) (by omega)
  · rintro k p c' hk ⟨acc, s13, hal, hae, rfl⟩
    have hk8 : k < 8 := (List.getElem?_eq_some_iff.mp hk).1
    unfold l_law_bent1
    walk_at "cl"
    have l1 := lc none (some r2)
    have l2 := lc (some (r2 + 1)) none
    refine ⟨?_, ?_, ?_, ?_⟩
    · omega
    · simp only [List.length_append, List.length_cons, List.length_nil]; omega
    · omega
    refine ⟨_, _, ?_, ?_, rfl⟩
    · rw [List.length_append, hal]; rfl
    · intro d hd
      rcases List.mem_append.mp hd with hd | hd
      · exact hae d hd
      · rw [List.mem_singleton.mp hd]
        rw [List.append_assoc]
        exact ent_up (cu _ ⟨p, rfl⟩) (by omega)
  · rintro c' ⟨acc, s13, hal, hae, rfl⟩
    have hal : acc.length = 14 := hal
    obtain ⟨b2, hb2⟩ : ∃ b, W[q.2.1]? = some b := ⟨_, List.getElem?_eq_getElem hqi.2⟩
    obtain ⟨b1, hb1⟩ : ∃ b, W[q.1.1]? = some b := ⟨_, List.getElem?_eq_getElem hqi.1⟩
    unfold t_law_bent4
    walk_at "cl"
    rw [ix_sg0]
    walk_at "cl"
    refine bt_at' rfl hb2 ?_
    walk_at "cl"
    rw [ix_sg0]
    walk_at "cl"
    refine bt_at' rfl hb1 ?_
    walk_at "cl"
    rw [ix_sg0]
    walk_at "cl"
    refine bt_at' rfl hb2 ?_
    walk_at "cl"
    rw [ix_sg0]
    walk_at "cl"
    refine bt_at' rfl hb1 ?_
    walk_at "cl"
    rw [show ([Dt.tup [sgD q.fst, sgD b2.snd.snd.fst], Dt.tup [sgD b1.snd.fst, sgD q.snd], Dt.tup [sgD q.fst, sgD b2.snd.fst], Dt.tup [sgD b1.snd.snd.fst, sgD q.snd]] : List Dt) = [(q.1, b2.2.2.1), (b1.2.1, q.2), (q.1, b2.2.1), (b1.2.2.1, q.2)].map prD from rfl]
    refine for_map (f := prD) (fun k c => ∃ (acc : List Dt) (s13 : Slot), acc.length = 14 + k ∧ (∀ d ∈ acc, EntD 4000 d) ∧ c = [.arg .pool, .dat (.tup (W.map btD)), .dat (.lst ((marks W).map sgD)), .dat (.tup (paper.map hopsD)), .dat (.int r1), .dat (.tup (e.map prD)), .dat (.int r2), .dat (sgD q.1), .dat (sgD q.2), .dat (sgD odd), .dat (.tup [.int ((W.map btD).length : Nat), .int 0]), .dat (.tup [.int 1000000000, .int 3]), .own (.lst acc), s13, .no, .no]) ⟨_, _, hal, hae, rfl⟩ ?_ ?_
    · rintro k p c' hk ⟨acc, s13, hal, hae, rfl⟩
      have hk4 : k < 4 := (List.getElem?_eq_some_iff.mp hk).1
      unfold l_law_bent2
      walk_at "cl"
      have l1 := lc none (some (r2 + 1))
      refine ⟨by omega, by omega, _, _, ?_, ?_, rfl⟩
      · rw [List.length_append, hal]; rfl
      · intro d hd
        rcases List.mem_append.mp hd with hd | hd
        · exact hae d hd
        · rw [List.mem_singleton.mp hd]
          exact ent_up (ent_app (ce _ _) (ent_one p)) (by omega)
    · rintro c' ⟨acc, s13, hal, hae, rfl⟩
      exact ef s13 acc hal hae
end K26


namespace K26
open PySem PySem.Spec PyProof.Rows L2 Cl Bo
local macro_rules | `(tactic| walk_at "cl") => `(tactic| simp only [c0, toSlot, pick, wipeC, e_dSeq, e_dAsg, e_dAsgG, e_dIf, e_dTru, e_dC, e_dBin, e_dBinT, e_dUn, e_dRet, e_dRetN, e_dDrop, e_dMeth, e_dNext, e_dBreak, e_dCont, e_dAnd, e_dOr, e_dNot, e_dAndV, e_dOrV, e_dNotV, e_dIfE, e_dTup, e_dLst, e_dCB, e_dSl, e_dNoPart, e_dIsi, e_dYes, e_aCons, e_aNil, e_lCons, e_lNil, e_vCons, e_vNil, e_dItems, e_dRng2, e_dRng3, e_dCall, e_dCallK, e_dRev, e_dEnum, c_on1_dat, c_on1_sl, c_onS_dat, c_onS_own, c_onS_arg, c_on2, c_hd_dat, c_hd_sl, c_hd_new, c_asD_dat, c_asD_new, c_asD_sl, c_asS_dat, c_asS_own, c_var, c_varS_dat, c_varS_own, c_varS_arg, c_blR, c_blD, c_tru_non, c_tru_bl, c_tru_int, c_tru_lst, c_tru_tup, c_put_dat, c_put_new, c_put_sl, c_putS_dat, c_putS_own, c_toRet_dat, c_toRet_new, c_toRet_sl, c_toRetS_dat, c_toRetS_own, c_retC_dat, c_retC_new, c_ends_rt, c_ends_nx, c_ends_bk, c_ends_ct, c_retB_dat, c_retB_new, c_retB_sl, c_retBS_own, c_bk_nil, c_bk_dat, c_bk_ob, c_gt0, c_gtS, c_fsub, c_faddI, c_fadd_int, c_fadd_str, c_fadd_lst, c_fadd_tup, c_fmul_int, c_fmul_lst, c_fmul_str, c_fdiv, c_fmod, c_fpow, c_fshl, c_fshr, c_fand, c_for, c_fxor, c_flt, c_fle, c_fgt, c_fge, c_fneg, c_feq_int, c_fne_int, c_feq_str, c_fne_str, c_feq_bl, c_fne_bl, c_fin_str, c_fin_lst, c_fin_tup, c_fisn, c_fisb, c_isn_non, c_isb_non, c_tyd_non, c_isn_bl, c_isb_bl, c_tyd_bl, c_isn_int, c_isb_int, c_tyd_int, c_isn_str, c_isb_str, c_tyd_str, c_isn_tup, c_isb_tup, c_tyd_tup, c_isn_lst, c_isb_lst, c_tyd_lst, c_isn_frz, c_isb_frz, c_tyd_frz, c_isi_NoneType_bool, c_isi_NoneType_int, c_isi_NoneType_str, c_isi_NoneType_tuple, c_isi_NoneType_list, c_isi_bool_bool, c_isi_bool_int, c_isi_bool_str, c_isi_bool_tuple, c_isi_bool_list, c_isi_int_bool, c_isi_int_int, c_isi_int_str, c_isi_int_tuple, c_isi_int_list, c_isi_str_bool, c_isi_str_int, c_isi_str_str, c_isi_str_tuple, c_isi_str_list, c_isi_tuple_bool, c_isi_tuple_int, c_isi_tuple_str, c_isi_tuple_tuple, c_isi_tuple_list, c_isi_list_bool, c_isi_list_int, c_isi_list_str, c_isi_list_tuple, c_isi_list_list, c_fix_lst, c_fix_tup, c_fix_frz, c_fix_str, c_ixL0, c_ixL1, c_ixL2, c_ixL3, c_len_lst, c_len_tup, c_len_frz, c_len_str, c_int1_int, c_int1_bl, c_abs, c_min2, c_max2, c_len, c_int1, c_fabs, c_ftuple, c_flist, c_tuple_lst, c_tuple_tup, c_list_lst, c_list_tup, c_sl_lst, c_sl_str, c_sl_tup, c_part_int, c_part, c_mappend, c_mpop, c_obS_own, c_setS_own, c_obS_arg, c_setS_arg, c_obL, c_setL, c_setIx, c_ixQ, c_setN, c_ixN10, c_ixN20, c_ixN21, c_ixN30, c_ixN31, c_ixN32, c_mt, c_mtQ, c_vws_nil, c_vws_cons, c_rfind4, c_rfind, c_join_lst, c_join_tup, c_one1, c_cints2, c_cints3, c_own, c_isOb_own, c_isOb_arg, c_callQ, c_look_nil, c_look_dat, c_look_own, c_lookS_own, c_lookS_arg, c_nd_nil, c_nd_dat, c_nd_own, c_ni_nil, c_ni_dat, c_ni_own, c_putA_nil, c_putA_cons, c_new_none, c_new_arg, c_new_own, c_oa_nil, c_oa_dat, c_oa_own, c_gT, c_gsCons, c_gsNil, c_gN, c_it_lst, c_it_tup, c_it_frz, c_it_str, c_rng1, c_rngQ, c_par, c_two, c_aug, c_augS, c_loop, c_lc, List.map_cons, List.map_nil, List.length_cons, List.length_nil, Nat.reduceAdd, Nat.reduceSub, Nat.reduceLT, Nat.reduceLeDiff, Nat.zero_le, List.replicate, List.cons_append, List.nil_append, List.append_nil, List.set_cons_zero, List.set_cons_succ, List.getD_cons_zero, List.getD_cons_succ, br_true, br_false, br_not, br_dec, true_and, and_true, if_true, if_false, reduceIte, reduceCtorEq, Nat.reduceEqDiff, Nat.reduceBNe, Bool.and_true, Bool.true_and, Bool.bne_false, Bool.bne_true, Bool.not_true, Bool.not_false, Bool.true_bne, Bool.false_bne, not_true_eq_false, not_false_eq_true, implies_true, one_eq, rngD_length, rngC_length, Int.reduceToNat, Int.cast_ofNat_Int, Int.natCast_one, Int.natCast_zero, Int.reduceEq, eq_self, true_implies, false_implies, not_false_eq_true, Int.reducePow, Int.reduceNeg, Int.reduceLT, Int.reduceLE, true_or, or_true, decide_eq_true_eq, beq_self_eq_true, Nat.zero_add, c_unw_nil, c_unw, c_unwS_no, c_unwS_dat, c_rev_lst, c_rev_tup, c_oneD, c_bad, c_ext, c_extK, c_mrev, c_popAt, c_popK, c_idx, c_forA, fEq_pair, fNe_pair, e_dIsiT, e_dLstRg, c_rgL, c_idxD, c_gL, c_isiD_bool, c_isiD_int, c_isiD_str, c_isiD_tuple, c_isiD_list, c_isiD_NoneType, Bool.or_false, Bool.false_or, Bool.or_true, Bool.true_or, Bool.and_false, Bool.false_and, e_dZip2, e_dZip3, c_twoD, c_threeD, c_zip2t, c_zip2l, c_zip3t, c_addT_int, c_addT_str, c_addT_lst, c_addT_tup, e_dSlT, c_slT_lst, c_slT_tup, c_slT_str, c_ntB, e_dRvT, c_rvT, c_finD, e_dIdxS, c_slL])
theorem wAddT {W : Wd} {b : Bt} {k : Res → Prop} (h2 : W.length ≤ 1000) (hk : k (.dat (wD (W ++ [b])))) : fAddT (wD W) (.tup [btD b]) k := by
  have ew : wD W = .tup (W.map btD) := rfl
  rw [ew]
  walk_at "cl"
  rw [List.length_map]
  refine ⟨by omega, ?_⟩
  have : Dt.tup (W.map btD ++ [btD b]) = wD (W ++ [b]) := by
    unfold wD
    rw [List.map_append]
    rfl
  rw [this]
  exact hk
set_option maxHeartbeats 8000000 in
theorem lr_put {E : CEnds} {k : Nat} (hk : k ≤ 300) {W : Wd} {row : List Sg} (lr : LRow W row) (wl : W.length = 1 + k) (r1 : 2 + k ≤ row.length) (r2 : row.length ≤ 2 + 2 * k) {way : Int} (w0 : 0 ≤ way) (w3 : way < 3) {s8 s9 : Slot}
    (hE : ∀ (W' : Wd) (row' : List Sg) (q8 q9 : Slot), LRow W' row' → W'.length = 1 + (k + 1) → 2 + (k + 1) ≤ row'.length → row'.length ≤ 2 + 2 * (k + 1) → E.nx [.arg .pool, .dat (wD W'), .dat (.int way), .own (.lst (row'.map sgD)), .dat (.int (1 + (k : Int))), .no, .no, .no, q8, q9, .no, .no, .no, .no, .no, .no, .no, .no]) :
    l_law_long_row1 E [.arg .pool, .dat (wD W), .dat (.int way), .own (.lst (row.map sgD)), .dat (.int (1 + (k : Int))), .no, .no, .no, s8, s9, .no, .no, .no, .no, .no, .no, .no, .no] := by
  unfold l_law_long_row1
  walk_at "cl"
  refine pk_ok (by omega) (by omega) fun q1 g1 g2 => ?_
  walk_at "cl"
  rw [List.length_map]
  have two : ∀ (v : Int), (v = 1 ∨ v = (row.length : Int) - 1) → ∃ a : Nat, v = ((a + 1 : Nat) : Int) ∧ a + 1 < row.length := by
    intro v hv
    rcases hv with rfl | rfl
    · exact ⟨0, rfl, by omega⟩
    · exact ⟨row.length - 2, by omega, by omega⟩
  refine ixL_mem2 (fun v => v = 1 ∨ v = (row.length : Int) - 1) g1 (by simpa using g2) ?_ fun v2 hv2 => ?_
  · intro d hd
    simp only [List.mem_cons, List.not_mem_nil, or_false] at hd
    rcases hd with rfl | rfl
    · exact ⟨_, rfl, .inl rfl⟩
    · exact ⟨_, rfl, .inr rfl⟩
  walk_at "cl"
  refine ixL_mem2 (fun v => v = 1 ∨ v = (row.length : Int) - 1) w0 (by simpa using w3) ?_ fun v hv => ?_
  · intro d hd
    simp only [List.mem_cons, List.not_mem_nil, or_false] at hd
    rcases hd with rfl | rfl | rfl
    · exact ⟨_, rfl, .inl rfl⟩
    · exact ⟨_, rfl, .inr rfl⟩
    · exact ⟨_, rfl, hv2⟩
  obtain ⟨a, rfl, ha⟩ := two v hv
  walk_at "cl"
  refine say_ok (most := 2) rfl (by omega) (by omega) fun t t1 t2 => ?_
  walk_at "cl"
  refine pk_ok (by omega) (by omega) fun r3 g5 g6 => ?_
  walk_at "cl"
  obtain ⟨lo, hlo⟩ : ∃ x, row[a]? = some x := ⟨_, List.getElem?_eq_getElem (by omega)⟩
  obtain ⟨hi, hhi⟩ : ∃ x, row[a + 1]? = some x := ⟨_, List.getElem?_eq_getElem (by omega)⟩
  refine row_at (j := a) (by omega) hlo ?_
  walk_at "cl"
  refine row_at (j := a + 1) (by omega) hhi ?_
  walk_at "cl"
  refine wAddT (b := (1 + r3, lo, hi, t)) (by omega) ?_
  walk_at "cl"
  refine ⟨by omega, by omega, lc_map (fun d => .tup [.int (1 + (k : Int)), d]) (by rw [rngD_length]; omega) (fun d hd Y hY => ?_) ?_⟩
  · obtain ⟨i, hi⟩ := List.mem_iff_getElem?.mp hd
    obtain ⟨hi, rfl⟩ := rngD_get hi
    walk_at "cl"
    exact hY
  have ec : (rngD 0 ((t.length : Int)).toNat).map (fun d => Dt.tup [.int (1 + (k : Int)), d]) = (chunk W.length t.length).map sgD := by
    unfold rngD chunk
    rw [List.map_map, List.map_map, Int.toNat_natCast, wl]
    refine List.map_congr_left fun i _ => ?_
    show Dt.tup [.int (1 + (k : Int)), .int (0 + (i : Int))] = Dt.tup [.int ((1 + k : Nat) : Int), .int (i : Int)]
    rw [Int.zero_add]
    rfl
  have c1 : cut (row.map sgD) none (some ((a + 1 : Nat) : Int)) = (row.take (a + 1)).map sgD := by
    rw [cut_to (by rw [List.length_map]; omega), List.map_take]
  have c2 : cut (row.map sgD) (some ((a + 1 : Nat) : Int)) none = (row.drop (a + 1)).map sgD := by
    rw [cut_from (by rw [List.length_map]; omega), List.map_drop]
  rw [ec, c1]
  walk_at "cl"
  rw [c2]
  have nx := lr.putT hlo hhi (1 + r3) t t1
  have k1 : (row.take (a + 1)).length = a + 1 := by rw [List.length_take]; omega
  have k2 : (row.drop (a + 1)).length = row.length - (a + 1) := by rw [List.length_drop]
  rw [← List.map_append, ← List.map_append, List.length_map, List.length_map, List.length_map, List.length_map, List.length_append, k1, k2, Bo.chunk_len]
  refine ⟨by omega, by omega, hE _ _ _ _ nx (by rw [List.length_append, List.length_singleton]; omega) ?_ ?_⟩
  · rw [List.length_append, List.length_append, k1, k2, Bo.chunk_len]
    omega
  · rw [List.length_append, List.length_append, k1, k2, Bo.chunk_len]
    omega
theorem ents_of {n : Nat} : ∀ ds : List Dt, (∀ d ∈ ds, EntD n d) → ∃ es : List (List Pr), ds = es.map hopsD ∧ ∀ e ∈ es, e.length ≤ n
  | [], _ => ⟨[], rfl, fun p hp => by cases hp⟩
  | d :: ds, h => by
    obtain ⟨p, e1, e2⟩ := h d (List.mem_cons_self ..)
    obtain ⟨ps, e3, e4⟩ := ents_of ds fun d hd => h d (List.mem_cons_of_mem _ hd)
    refine ⟨p :: ps, by rw [e1, e3]; rfl, fun q hq => ?_⟩
    rcases List.mem_cons.mp hq with rfl | hq
    · exact e2
    · exact e4 q hq
theorem fits_ent {W : Wd} {x y : Sg} {e : List Pr} (ok : WOk W) (hx : x.1 < W.length) (hy : y.1 < W.length) : fitsB W [x, y] [e] = entF W x y e := fits_one
theorem chP_two {W : Wd} {x y : Sg} : chP W [x, y] = [hpT W x y] := rfl
theorem chained_two {W : Wd} {x y : Sg} : chained W [x, y] = ahB W x y := by
  unfold chained nb
  simp
theorem two_in {W : Wd} {x y : Sg} (hx : x.1 < W.length) (hy : y.1 < W.length) : ∀ z ∈ [x, y], z.1 < W.length := fun z hz => by
  rcases List.mem_cons.mp hz with rfl | hz
  · exact hx
  · rw [List.mem_singleton.mp hz]
    exact hy
set_option maxHeartbeats 8000000 in
/-- two far signs and what is made of their hops -/
theorem lr_ends {E : CEnds} {W : Wd} {row : List Sg} (lr : LRow W row) (wl : W.length ≤ 1000) (r1 : 100 ≤ row.length) (r2 : row.length ≤ 1000) {s2 s3 s4 s6 s7 s8 s9 s10 s11 s12 s13 s14 s15 s16 : Slot}
    (hE : ∀ (q12 q13 q14 q15 : Slot), E.nx [.arg .pool, .dat (wD W), s2, s3, s4, .dat (.tup (row.map sgD)), s6, s7, s8, s9, s10, s11, q12, q13, q14, q15, s16, .no]) :
    t_law_long_row6 E [.arg .pool, .dat (wD W), s2, s3, s4, .dat (.tup (row.map sgD)), s6, s7, s8, s9, s10, s11, s12, s13, s14, s15, s16, .no] := by
  have ok := lr.ok
  have hin : ∀ x ∈ row, x.1 < W.length := fun x hx => (lr.sn x hx).1
  unfold t_law_long_row6
  walk_at "cl"
  refine pk_ok (by omega) (by omega) fun q1 g1 g2 => ?_
  walk_at "cl"
  obtain ⟨x, hx⟩ : ∃ x, row[1 + q1.toNat]? = some x := ⟨_, List.getElem?_eq_getElem (by omega)⟩
  refine row_at (j := 1 + q1.toNat) (by omega) hx ?_
  walk_at "cl"
  rw [List.length_map]
  refine pk_ok (by omega) (by omega) fun q2 g3 g4 => ?_
  walk_at "cl"
  obtain ⟨y, hy⟩ : ∃ x, row[row.length - 2 - q2.toNat]? = some x := ⟨_, List.getElem?_eq_getElem (by omega)⟩
  refine row_at (j := row.length - 2 - q2.toNat) (by omega) hy ?_
  walk_at "cl"
  have xi := hin x (List.mem_of_getElem? hx)
  have yi := hin y (List.mem_of_getElem? hy)
  have xy : Aw W x y := lr.aw hx hy (by omega)
  have hl := hops_len ok wl xi yi
  refine lhp_ok rfl rfl rfl ok wl xi yi ?_
  walk_at "cl"
  refine cp_ok (row := [x, y]) rfl rfl ok wl (by show 2 ≤ 10000; decide) (two_in xi yi) ?_
  walk_at "cl"
  refine same_ok (d' := .tup [hopsD (hpT W x y)]) rfl (sv_pap (by show 1 ≤ 10000; decide) fun e he => ?_) ?_
  · rw [chP_two] at he
    rw [List.mem_singleton.mp he]
    omega
  walk_at "cl"
  refine cf_ok (row := [x, y]) (paper := [hpT W x y]) rfl rfl rfl ok (two_in xi yi) (by show 2 ≤ 10000; decide) (by show 1 ≤ 10000; decide) (fun e he => by rw [List.mem_singleton.mp he]; omega) ?_
  rw [fits_one, ent_hops ok xi yi, ahB_iff.mpr xy]
  walk_at "cl"
  obtain ⟨l, el⟩ : ∃ l, l = hpT W x y := ⟨_, rfl⟩
  have l1 : 1 ≤ l.length := by
    obtain ⟨r, z, _⟩ := hops_walk ok _ x y (Nat.lt_succ_self _) xi yi
    rw [el, z]
    simp
  rw [← el] at hl ⊢
  have eh : hopsD l = .tup (l.map prD) := rfl
  have not : ahB W y x = false := not_ahB ok xi yi xy
  rw [eh]
  unfold t_law_long_row5
  walk_at "cl"
  rw [List.length_map]
  refine pk_ok (by omega) (by omega) fun q3 g5 g6 => ?_
  walk_at "cl"
  have lc : ∀ a b, (cut (l.map prD) a b).length ≤ 1000 := fun a b => by
    have := cut_len (l.map prD) a b
    rw [List.length_map] at this
    omega
  have ce : ∀ a b, EntD 1000 (.tup (cut (l.map prD) a b)) := fun a b => ent_cut hl a b
  generalize (l.length : Int) - 1 - q3 = j
  refine ⟨by have := lc none (some j); have := lc (some (j + 1)) none; omega, by have := lc none (some j); omega, ?_⟩
  refine ⟨by have := lc none (some j); have := lc (some (j + 1)) none; simp only [List.length_append, List.length_cons, List.length_nil]; omega, ?_⟩
  have hall : ∀ d ∈ [Dt.tup (cut (l.map prD) none (some j) ++ cut (l.map prD) (some (j + 1)) none), Dt.tup (cut (l.map prD) none (some (j + 1))), Dt.tup (cut (l.map prD) none (some j) ++ [Dt.tup [sgD x, sgD y]] ++ cut (l.map prD) (some (j + 1)) none)], EntD 3000 d := by
    intro d hd
    simp only [List.mem_cons, List.not_mem_nil, or_false] at hd
    rcases hd with rfl | rfl | rfl
    · exact ent_up (ent_app (ce _ _) (ce _ _)) (by omega)
    · exact ent_up (ce _ _) (by omega)
    · exact ent_up (ent_app (ent_app (ce _ _) (ent_one (x, y))) (ce _ _)) (by omega)
  obtain ⟨es, e5, e6⟩ := ents_of _ hall
  rw [e5]
  refine for_map (f := hopsD) (fun k c => ∃ (q12 : Slot), c = [.arg .pool, .dat (wD W), s2, s3, s4, .dat (.tup (row.map sgD)), s6, s7, s8, s9, s10, s11, q12, .dat (.tup [sgD x, sgD y]), .dat (.tup (l.map prD)), .dat (.int j), s16, .no]) ⟨_, rfl⟩ ?_ ?_
  · rintro k e c' hk ⟨q12, rfl⟩
    have he := e6 e (List.mem_of_getElem? hk)
    unfold l_law_long_row3
    walk_at "cl"
    refine cf_ok (row := [x, y]) (paper := [e]) rfl rfl rfl ok (two_in xi yi) (by show 2 ≤ 10000; decide) (by show 1 ≤ 10000; decide) (fun e he => by rw [List.mem_singleton.mp he]; omega) ?_
    walk_at "cl"
    refine lf_ok (row := [x, y]) (paper := [e]) rfl rfl rfl ok (two_in xi yi) (by show 2 ≤ 10000; decide) (by show 1 ≤ 10000; decide) (fun e he => by rw [List.mem_singleton.mp he]; omega) ?_
    walk_at "cl"
    refine same_ok rfl sv_bl ?_
    walk_at "cl"
    exact ⟨_, rfl⟩
  · rintro c' ⟨q12, rfl⟩
    unfold t_law_long_row4
    walk_at "cl"
    refine lp_ok (row := [y, x]) rfl rfl ok wl (by show 2 ≤ 10000; decide) (two_in yi xi) ?_
    walk_at "cl"
    refine cf_ok (row := [y, x]) (paper := [hpT W y x]) rfl rfl rfl ok (two_in yi xi) (by show 2 ≤ 10000; decide) (by show 1 ≤ 10000; decide) (fun e he => by rw [List.mem_singleton.mp he]; have := hops_len ok wl yi xi; omega) ?_
    rw [fits_one, ent_hops ok yi xi, not]
    walk_at "cl"
    exact hE _ _ _ _
theorem ixL_memP {l : List Dt} {i : Int} {k : Res → Prop} (h0 : 0 ≤ i ∨ i = -1) (h1 : i < l.length) (h2 : 1 ≤ l.length) (hk : ∀ d ∈ l, k (.dat d)) : ixL l i k := by
  rcases h0 with h0 | rfl
  · exact ixL_mem h0 h1 hk
  · cases q : l.getLast? with
    | none =>
      rw [List.getLast?_eq_none_iff] at q
      rw [q] at h2
      simp at h2
    | some d => exact ixL_last q (hk d (List.mem_of_getLast? q))
theorem chP_ent {W : Wd} {row : List Sg} (ok : WOk W) (wl : W.length ≤ 1000) (hin : ∀ x ∈ row, x.1 < W.length) : ∀ e ∈ chP W row, e.length ≤ 1000 := fun e he => by
  obtain ⟨p, hp, rfl⟩ := List.mem_map.mp he
  have := nb_in ok hin p hp
  exact hops_len ok wl this.1 this.2
theorem chP_len {W : Wd} {row : List Sg} : (chP W row).length = row.length - 1 := by
  unfold chP
  rw [List.length_map, nb_len]
set_option maxHeartbeats 8000000 in
theorem lr_turn {E : CEnds} {W : Wd} {row : List Sg} (lr : LRow W row) (wl : W.length ≤ 1000) (r1 : 100 ≤ row.length) (r2 : row.length ≤ 1000) {turn : Int} (t0 : 0 ≤ turn) (t4 : turn < 4) {s2 s3 s4 s8 s9 s10 s11 s12 s13 s14 s15 s16 : Slot}
    (hE : ∀ (q10 q11 q12 q13 q14 q15 q16 : Slot), E.nx [.arg .pool, .dat (wD W), s2, s3, s4, .dat (.tup (row.map sgD)), .dat (.tup ((chP W row).map hopsD)), .dat (.int turn), s8, s9, q10, q11, q12, q13, q14, q15, q16, .no]) :
    l_law_long_row9 E [.arg .pool, .dat (wD W), s2, s3, s4, .dat (.tup (row.map sgD)), .dat (.tup ((chP W row).map hopsD)), .dat (.int turn), s8, s9, s10, s11, s12, s13, s14, s15, s16, .no] := by
  have ok := lr.ok
  have hin : ∀ x ∈ row, x.1 < W.length := fun x hx => (lr.sn x hx).1
  unfold l_law_long_row9
  walk_at "cl"
  rw [List.length_map]
  refine ixL_mem2 (fun v => 1 ≤ v ∧ v ≤ (row.length : Int) - 1) (by omega) (by simp; omega) ?_ fun v hv => ?_
  · intro d hd
    simp only [List.mem_cons, List.not_mem_nil, or_false] at hd
    rcases hd with rfl | rfl
    · exact ⟨_, rfl, by omega, by omega⟩
    · exact ⟨_, rfl, by omega, by omega⟩
  walk_at "cl"
  refine pk_ok (by omega) (by omega) fun q1 g1 g2 => ?_
  walk_at "cl"
  obtain ⟨j, ej, lj⟩ : ∃ j : Nat, (row.length : Int) - 2 - q1 = (j : Int) ∧ j + 1 < row.length := ⟨((row.length : Int) - 2 - q1).toNat, by omega, by omega⟩
  rw [ej]
  obtain ⟨x, hx⟩ : ∃ x, row[j]? = some x := ⟨_, List.getElem?_eq_getElem (by omega)⟩
  obtain ⟨y, hy⟩ : ∃ x, row[j + 1]? = some x := ⟨_, List.getElem?_eq_getElem lj⟩
  have xi := hin x (List.mem_of_getElem? hx)
  have yi := hin y (List.mem_of_getElem? hy)
  have xy : Aw W x y := lr.aw hx hy (by omega)
  refine row_at (j := j + 1) (by omega) hy ?_
  walk_at "cl"
  refine row_at (j := j) (by omega) hx ?_
  walk_at "cl"
  have c1 : cut (row.map sgD) none (some (j : Int)) = (row.take j).map sgD := by
    rw [cut_to (by rw [List.length_map]; omega), List.map_take]
  have c2 : cut (row.map sgD) (some ((j : Int) + 2)) none = (row.drop (j + 2)).map sgD := by
    rw [show ((j : Int) + 2) = ((j + 2 : Nat) : Int) from rfl, cut_from (by rw [List.length_map]; omega), List.map_drop]
  rw [c1, c2]
  have k1 : (row.take j).length = j := by rw [List.length_take]; omega
  have k2 : (row.drop (j + 2)).length = row.length - (j + 2) := by rw [List.length_drop]
  obtain ⟨o, eo⟩ : ∃ o, o = row.take j ++ y :: x :: row.drop (j + 2) := ⟨_, rfl⟩
  have od : Dt.tup ((row.take j).map sgD ++ [sgD y, sgD x] ++ (row.drop (j + 2)).map sgD) = rowD o := by
    rw [eo]
    unfold rowD
    simp
  have ol : o.length = row.length := by
    rw [eo, List.length_append, List.length_cons, List.length_cons, k1, k2]
    omega
  have oin : ∀ z ∈ o, z.1 < W.length := fun z hz => by
    rw [eo] at hz
    rcases List.mem_append.mp hz with hz | hz
    · exact hin z (List.mem_of_mem_take hz)
    rcases List.mem_cons.mp hz with rfl | hz
    · exact yi
    rcases List.mem_cons.mp hz with rfl | hz
    · exact xi
    · exact hin z (List.mem_of_mem_drop hz)
  have onot : chained W o = false := by
    rw [eo]
    exact turned_not ok xi yi xy
  rw [od]
  simp only [List.length_append, List.length_map, k1, k2, List.length_cons, List.length_nil]
  refine ⟨by omega, by omega, ?_⟩
  have oe := chP_ent ok wl oin
  have ocl := chP_len (W := W) (row := o)
  refine cp_ok rfl rfl ok wl (by omega) oin ?_
  walk_at "cl"
  refine lp_ok rfl rfl ok wl (by omega) oin ?_
  walk_at "cl"
  refine same_ok rfl (sv_pap (by omega) fun e he => by have := oe e he; omega) ?_
  walk_at "cl"
  unfold t_law_long_row8
  walk_at "cl"
  refine lp_ok rfl rfl ok wl (by omega) oin ?_
  walk_at "cl"
  refine cf_ok rfl rfl rfl ok oin (by omega) (by omega) (fun e he => by have := oe e he; omega) ?_
  rw [fits_made ok oin, onot]
  walk_at "cl"
  unfold t_law_long_row7
  walk_at "cl"
  have pe := chP_ent ok wl hin
  have pcl := chP_len (W := W) (row := row)
  obtain ⟨e, he⟩ : ∃ e, (chP W row)[j]? = some e := ⟨_, List.getElem?_eq_getElem (by omega)⟩
  have hel := pe e (List.mem_of_getElem? he)
  have hed : ((chP W row).map hopsD)[j]? = some (.tup (e.map prD)) := by rw [List.getElem?_map, he]; rfl
  have lc : ∀ a b, (cut (e.map prD) a b).length ≤ 1000 := fun a b => by
    have := cut_len (e.map prD) a b
    rw [List.length_map] at this
    omega
  have ce : ∀ a b, EntD 1000 (.tup (cut (e.map prD) a b)) := fun a b => ent_cut hel a b
  refine ixL_i rfl hed ?_
  walk_at "cl"
  refine ixL_i rfl hed ?_
  walk_at "cl"
  refine ixL_i rfl hed ?_
  walk_at "cl"
  refine ixL_i rfl hed ?_
  walk_at "cl"
  rw [List.length_map]
  refine ⟨by have := lc (some (-1)) none; omega, ?_⟩
  refine ixL_memP (by omega) (by rw [List.length_map]; omega) (by rw [List.length_map]; omega) fun d hd => ?_
  obtain ⟨e', he', rfl⟩ := List.mem_map.mp hd
  have hel' := pe e' he'
  try walk_at "cl"
  have hall : ∀ d ∈ [Dt.tup (cut (e.map prD) none (some (-1))), Dt.tup (cut (e.map prD) (some 1) none), Dt.tup (e.map prD ++ cut (e.map prD) (some (-1)) none), hopsD e'], EntD 3000 d := by
    intro d hd
    simp only [List.mem_cons, List.not_mem_nil, or_false] at hd
    rcases hd with rfl | rfl | rfl | rfl
    · exact ent_up (ce _ _) (by omega)
    · exact ent_up (ce _ _) (by omega)
    · exact ent_up (ent_app (n := 1000) ⟨e, rfl, hel⟩ (ce _ _)) (by omega)
    · exact ⟨e', rfl, by omega⟩
  obtain ⟨es, e5, e6⟩ := ents_of _ hall
  rw [e5]
  have pc : ∀ a b, PapD 1000 3000 (.tup (cut ((chP W row).map hopsD) a b)) := fun a b => pap_cut (by omega) (fun e he => by have := pe e he; omega) a b
  have pl2 : ∀ a b, (cut ((chP W row).map hopsD) a b).length ≤ 1000 := fun a b => by
    have := cut_len ((chP W row).map hopsD) a b
    rw [List.length_map] at this
    omega
  refine for_map (f := hopsD) (fun k c => ∃ (q12 q16 : Slot), c = [.arg .pool, .dat (wD W), s2, s3, s4, .dat (.tup (row.map sgD)), .dat (.tup ((chP W row).map hopsD)), .dat (.int turn), s8, s9, .dat (.int (j : Int)), .dat (rowD o), q12, s13, s14, s15, q16, .no]) ⟨_, _, rfl⟩ ?_ ?_
  · rintro k z c' hk ⟨q12, q16, rfl⟩
    have hz := e6 z (List.mem_of_getElem? hk)
    unfold l_law_long_row2
    walk_at "cl"
    have n1 := pl2 none (some (j : Int))
    have n2 := pl2 (some ((j : Int) + 1)) none
    refine ⟨by omega, by simp only [List.length_append, List.length_cons, List.length_nil]; omega, ?_⟩
    obtain ⟨p, ep, p1, p2⟩ := pap_app (pap_app (pc none (some (j : Int))) (pap_one (m := 3000) (d := hopsD z) ⟨z, rfl, hz⟩)) (pc (some ((j : Int) + 1)) none)
    rw [ep]
    refine cf_ok (paper := p) rfl rfl rfl ok hin (by omega) (by omega) (fun e he => by have := p2 e he; omega) ?_
    walk_at "cl"
    refine lf_ok (paper := p) rfl rfl rfl ok hin (by omega) (by omega) (fun e he => by have := p2 e he; omega) ?_
    walk_at "cl"
    refine same_ok rfl sv_bl ?_
    walk_at "cl"
    exact ⟨_, _, rfl⟩
  · rintro c' ⟨q12, q16, rfl⟩
    exact lr_ends lr wl r1 r2 fun q12 q13 q14 q15 => hE _ _ _ _ _ _ _
set_option maxHeartbeats 8000000 in
theorem red_law_long_row : ∀ as R, as.length = P_law_long_row.length → F_law_long_row as R → b_law_long_row (fnEnds as R) (c0 as N_law_long_row.length) := by
  rintro as R - ⟨rfl, hR⟩
  unfold b_law_long_row
  walk_at "cl"
  refine pk_ok (by omega) (by omega) fun way w0 w3 => ?_
  walk_at "cl"
  refine pk_ok (by omega) (by omega) fun r1 g1 g2 => ?_
  walk_at "cl"
  have e0 : Dt.tup [.tup [.int 0, .tup [.int 0, .int 0], .tup [.int 0, .int 1], .str []]] = wD W0 := rfl
  have e1 : [Dt.tup [.int 0, .int 0], .tup [.int 0, .int 1]] = [HD, EN].map sgD := rfl
  rw [e0, e1]
  refine ⟨by omega, for_rng (fun k c => ∃ (W : Wd) (row : List Sg) (s4 s8 s9 : Slot), LRow W row ∧ W.length = 1 + k ∧ 2 + k ≤ row.length ∧ row.length ≤ 2 + 2 * k ∧ c = [.arg .pool, .dat (wD W), .dat (.int way), .own (.lst (row.map sgD)), s4, .no, .no, .no, s8, s9, .no, .no, .no, .no, .no, .no, .no, .no]) ⟨W0, [HD, EN], _, _, _, LRow.start, rfl, by decide, by decide, rfl⟩ ?_ ?_⟩
  · rintro k c' hk ⟨W, row, s4, s8, s9, lr, wl, rl1, rl2, rfl⟩
    walk_at "cl"
    exact lr_put (by omega) lr wl rl1 rl2 w0 w3 fun W' row' q8 q9 lr' wl' rl1' rl2' => ⟨W', row', _, _, _, lr', wl', rl1', rl2', rfl⟩
  · rintro c' ⟨W, row, s4, s8, s9, lr, wl, rl1, rl2, rfl⟩
    have ok := lr.ok
    have hin : ∀ x ∈ row, x.1 < W.length := fun x hx => (lr.sn x hx).1
    have n1 : 100 ≤ row.length := by omega
    have n2 : row.length ≤ 1000 := by omega
    have n3 : W.length ≤ 1000 := by omega
    have pe := chP_ent ok n3 hin
    have pcl := chP_len (W := W) (row := row)
    unfold t_law_long_row12
    walk_at "cl"
    refine lp_ok rfl rfl ok n3 (by omega) hin ?_
    walk_at "cl"
    refine cp_ok rfl rfl ok n3 (by omega) hin ?_
    walk_at "cl"
    refine same_ok rfl (sv_pap (by omega) fun e he => by have := pe e he; omega) ?_
    walk_at "cl"
    refine cf_ok rfl rfl rfl ok hin (by omega) (by omega) (fun e he => by have := pe e he; omega) ?_
    rw [fits_made ok hin, lr.chain]
    walk_at "cl"
    unfold t_law_long_row11
    walk_at "cl"
    have ed : papD (chP W row) = .tup ((chP W row).map hopsD) := rfl
    rw [ed]
    refine for_rng (fun k c => ∃ (s7 q10 q11 q12 q13 q14 q15 q16 : Slot), c = [.arg .pool, .dat (wD W), .dat (.int way), .own (.lst (row.map sgD)), s4, .dat (.tup (row.map sgD)), .dat (.tup ((chP W row).map hopsD)), s7, s8, s9, q10, q11, q12, q13, q14, q15, q16, .no]) ⟨_, _, _, _, _, _, _, _, rfl⟩ ?_ ?_
    · rintro k c' hk ⟨s7, q10, q11, q12, q13, q14, q15, q16, rfl⟩
      walk_at "cl"
      exact lr_turn lr n3 n1 n2 (by omega) (by omega) fun q10 q11 q12 q13 q14 q15 q16 => ⟨_, _, _, _, _, _, _, _, rfl⟩
    · rintro c' ⟨s7, q10, q11, q12, q13, q14, q15, q16, rfl⟩
      unfold t_law_long_row10
      walk_at "cl"
      exact hR
end K26


namespace K26
open PySem PySem.Spec PyProof.Rows L2 Cl Bo
local macro_rules | `(tactic| walk_at "cl") => `(tactic| simp only [c0, toSlot, pick, wipeC, e_dSeq, e_dAsg, e_dAsgG, e_dIf, e_dTru, e_dC, e_dBin, e_dBinT, e_dUn, e_dRet, e_dRetN, e_dDrop, e_dMeth, e_dNext, e_dBreak, e_dCont, e_dAnd, e_dOr, e_dNot, e_dAndV, e_dOrV, e_dNotV, e_dIfE, e_dTup, e_dLst, e_dCB, e_dSl, e_dNoPart, e_dIsi, e_dYes, e_aCons, e_aNil, e_lCons, e_lNil, e_vCons, e_vNil, e_dItems, e_dRng2, e_dRng3, e_dCall, e_dCallK, e_dRev, e_dEnum, c_on1_dat, c_on1_sl, c_onS_dat, c_onS_own, c_onS_arg, c_on2, c_hd_dat, c_hd_sl, c_hd_new, c_asD_dat, c_asD_new, c_asD_sl, c_asS_dat, c_asS_own, c_var, c_varS_dat, c_varS_own, c_varS_arg, c_blR, c_blD, c_tru_non, c_tru_bl, c_tru_int, c_tru_lst, c_tru_tup, c_put_dat, c_put_new, c_put_sl, c_putS_dat, c_putS_own, c_toRet_dat, c_toRet_new, c_toRet_sl, c_toRetS_dat, c_toRetS_own, c_retC_dat, c_retC_new, c_ends_rt, c_ends_nx, c_ends_bk, c_ends_ct, c_retB_dat, c_retB_new, c_retB_sl, c_retBS_own, c_bk_nil, c_bk_dat, c_bk_ob, c_gt0, c_gtS, c_fsub, c_faddI, c_fadd_int, c_fadd_str, c_fadd_lst, c_fadd_tup, c_fmul_int, c_fmul_lst, c_fmul_str, c_fdiv, c_fmod, c_fpow, c_fshl, c_fshr, c_fand, c_for, c_fxor, c_flt, c_fle, c_fgt, c_fge, c_fneg, c_feq_int, c_fne_int, c_feq_str, c_fne_str, c_feq_bl, c_fne_bl, c_fin_str, c_fin_lst, c_fin_tup, c_fisn, c_fisb, c_isn_non, c_isb_non, c_tyd_non, c_isn_bl, c_isb_bl, c_tyd_bl, c_isn_int, c_isb_int, c_tyd_int, c_isn_str, c_isb_str, c_tyd_str, c_isn_tup, c_isb_tup, c_tyd_tup, c_isn_lst, c_isb_lst, c_tyd_lst, c_isn_frz, c_isb_frz, c_tyd_frz, c_isi_NoneType_bool, c_isi_NoneType_int, c_isi_NoneType_str, c_isi_NoneType_tuple, c_isi_NoneType_list, c_isi_bool_bool, c_isi_bool_int, c_isi_bool_str, c_isi_bool_tuple, c_isi_bool_list, c_isi_int_bool, c_isi_int_int, c_isi_int_str, c_isi_int_tuple, c_isi_int_list, c_isi_str_bool, c_isi_str_int, c_isi_str_str, c_isi_str_tuple, c_isi_str_list, c_isi_tuple_bool, c_isi_tuple_int, c_isi_tuple_str, c_isi_tuple_tuple, c_isi_tuple_list, c_isi_list_bool, c_isi_list_int, c_isi_list_str, c_isi_list_tuple, c_isi_list_list, c_fix_lst, c_fix_tup, c_fix_frz, c_fix_str, c_ixL0, c_ixL1, c_ixL2, c_ixL3, c_len_lst, c_len_tup, c_len_frz, c_len_str, c_int1_int, c_int1_bl, c_abs, c_min2, c_max2, c_len, c_int1, c_fabs, c_ftuple, c_flist, c_tuple_lst, c_tuple_tup, c_list_lst, c_list_tup, c_sl_lst, c_sl_str, c_sl_tup, c_part_int, c_part, c_mappend, c_mpop, c_obS_own, c_setS_own, c_obS_arg, c_setS_arg, c_obL, c_setL, c_setIx, c_ixQ, c_setN, c_ixN10, c_ixN20, c_ixN21, c_ixN30, c_ixN31, c_ixN32, c_mt, c_mtQ, c_vws_nil, c_vws_cons, c_rfind4, c_rfind, c_join_lst, c_join_tup, c_one1, c_cints2, c_cints3, c_own, c_isOb_own, c_isOb_arg, c_callQ, c_look_nil, c_look_dat, c_look_own, c_lookS_own, c_lookS_arg, c_nd_nil, c_nd_dat, c_nd_own, c_ni_nil, c_ni_dat, c_ni_own, c_putA_nil, c_putA_cons, c_new_none, c_new_arg, c_new_own, c_oa_nil, c_oa_dat, c_oa_own, c_gT, c_gsCons, c_gsNil, c_gN, c_it_lst, c_it_tup, c_it_frz, c_it_str, c_rng1, c_rngQ, c_par, c_two, c_aug, c_augS, c_loop, c_lc, List.map_cons, List.map_nil, List.length_cons, List.length_nil, Nat.reduceAdd, Nat.reduceSub, Nat.reduceLT, Nat.reduceLeDiff, Nat.zero_le, List.replicate, List.cons_append, List.nil_append, List.append_nil, List.set_cons_zero, List.set_cons_succ, List.getD_cons_zero, List.getD_cons_succ, br_true, br_false, br_not, br_dec, true_and, and_true, if_true, if_false, reduceIte, reduceCtorEq, Nat.reduceEqDiff, Nat.reduceBNe, Bool.and_true, Bool.true_and, Bool.bne_false, Bool.bne_true, Bool.not_true, Bool.not_false, Bool.true_bne, Bool.false_bne, not_true_eq_false, not_false_eq_true, implies_true, one_eq, rngD_length, rngC_length, Int.reduceToNat, Int.cast_ofNat_Int, Int.natCast_one, Int.natCast_zero, Int.reduceEq, eq_self, true_implies, false_implies, not_false_eq_true, Int.reducePow, Int.reduceNeg, Int.reduceLT, Int.reduceLE, true_or, or_true, decide_eq_true_eq, beq_self_eq_true, Nat.zero_add, c_unw_nil, c_unw, c_unwS_no, c_unwS_dat, c_rev_lst, c_rev_tup, c_oneD, c_bad, c_ext, c_extK, c_mrev, c_popAt, c_popK, c_idx, c_forA, fEq_pair, fNe_pair, e_dIsiT, e_dLstRg, c_rgL, c_idxD, c_gL, c_isiD_bool, c_isiD_int, c_isiD_str, c_isiD_tuple, c_isiD_list, c_isiD_NoneType, Bool.or_false, Bool.false_or, Bool.or_true, Bool.true_or, Bool.and_false, Bool.false_and, e_dZip2, e_dZip3, c_twoD, c_threeD, c_zip2t, c_zip2l, c_zip3t, c_addT_int, c_addT_str, c_addT_lst, c_addT_tup, e_dSlT, c_slT_lst, c_slT_tup, c_slT_str, c_ntB, e_dRvT, c_rvT, c_finD, e_dIdxS, c_slL])
theorem hs_ok {W : Wd} {T : List Nat} {row : List Sg} {dr : Dt} {R : Res → List AArg → Prop} (er : dr = rowD row) (ok : WOk W) (hl : W.length ≤ 1000) (hn : NN W ≤ 10000) (tk : TbOk W T) (hs : ∀ x ∈ row, Sn W x) (h10 : row.length ≤ 10) (hR : R (.dat (.bl true)) [.ob .pool, .dat (wD W), .dat (.lst ((marks W).map sgD)), .dat (.lst (tabL T)), .dat (rowD row)]) : F_law_holds [.ob .pool, .dat (wD W), .dat (.lst ((marks W).map sgD)), .dat (.lst (tabL T)), .dat dr] R := by
  subst er
  exact ⟨W, T, row, rfl, ok, hl, hn, tk, hs, h10, hR⟩
theorem ph_ok {W : Wd} {T : List Nat} {x y : Sg} {R : Res → List AArg → Prop} (ok : WOk W) (hl : W.length ≤ 1000) (hn : NN W ≤ 10000) (tk : TbOk W T) (hx : Sn W x) (hy : Sn W y) (hR : R (.dat (.bl true)) [.dat (wD W), .dat (.lst ((marks W).map sgD)), .dat (.lst (tabL T)), .dat (sgD x), .dat (sgD y)]) : F_law_pair_holds [.dat (wD W), .dat (.lst ((marks W).map sgD)), .dat (.lst (tabL T)), .dat (sgD x), .dat (sgD y)] R := ⟨W, T, x, y, rfl, ok, hl, hn, tk, hx, hy, hR⟩
theorem rw_ok {W : Wd} {T : List Nat} {R : Res → List AArg → Prop} (ok : WOk W) (hn : NN W ≤ 10000) (tk : TbOk W T) (hR : ∀ row : List Sg, (∀ x ∈ row, Sn W x) → row.length ≤ 10 → R (.dat (rowD row)) [.ob .pool, .dat (.lst ((marks W).map sgD)), .dat (.lst (tabL T))]) : F_law_row [.ob .pool, .dat (.lst ((marks W).map sgD)), .dat (.lst (tabL T))] R := ⟨W, T, rfl, ok, hn, tk, hR⟩
theorem ri_ok {W : Wd} {T : List Nat} {R : Res → List AArg → Prop} (ok : WOk W) (hn : NN W ≤ 500) (tk : TbOk W T) (hR : ∀ l : List Pr, (∀ p ∈ l, SnP W p) → l.length ≤ 1000000 → R (.new (.lst (l.map prD))) [.dat (wD W), .dat (.lst ((marks W).map sgD)), .dat (.lst (tabL T))]) : F_law_rich [.dat (wD W), .dat (.lst ((marks W).map sgD)), .dat (.lst (tabL T))] R := ⟨W, T, rfl, ok, hn, tk, hR⟩
theorem marks_last {W : Wd} (ok : WOk W) (hn : 2 ≤ NN W) {k : Res → Prop} (hk : ∀ x, Sn W x → k (.dat (sgD x))) : ixL ((marks W).map sgD) (-1) k := by
  have ml : ((marks W).map sgD).length = NN W := by rw [List.length_map, marksTo_len]
  cases q : ((marks W).map sgD).getLast? with
  | none =>
    rw [List.getLast?_eq_none_iff] at q
    rw [q] at ml
    simp at ml
    omega
  | some d =>
    obtain ⟨i, hi⟩ := List.mem_iff_getElem?.mp (List.mem_of_getLast? q)
    have hl := (List.getElem?_eq_some_iff.mp hi).1
    obtain ⟨x, hx, e⟩ := mark_ex (W := W) (a := i) (by omega)
    have : ((marks W).map sgD)[i]? = some (sgD x) := by rw [List.getElem?_map, e, mk_get hx]; rfl
    rw [hi] at this
    rw [Option.some.inj this] at q
    exact ixL_last q (hk x hx)
theorem len_NN {W : Wd} (ok : WOk W) : W.length ≤ NN W := by
  have key : ∀ c, c ≤ W.length → c ≤ offs W c := by
    intro c
    induction c with
    | zero => intro _; exact Nat.zero_le _
    | succ c ih =>
      intro h
      have h1 := ih (by omega)
      show c + 1 ≤ offs W c + sz W c
      have : 1 ≤ sz W c := by
        by_cases e : c = 0
        · subst e
          show 1 ≤ 2
          decide
        · exact ok.ne c (by omega) (by omega)
      omega
  exact key _ (Nat.le_refl _)
def DoneS (i : Nat) (s3 s4 : Slot) (l m : List Dt) : Prop := i = 0 ∨ (s3 = .dat (.lst l) ∧ s4 = .dat (.lst m))
set_option maxHeartbeats 8000000 in
theorem red_law : ∀ as R, as.length = P_law.length → F_law as R → b_law (fnEnds as R) (c0 as N_law.length) := by
  rintro as R - ⟨ns, rfl, hns, hR⟩
  unfold b_law
  walk_at "cl"
  refine ⟨ns, rfl, by omega, ?_⟩
  walk_at "cl"
  refine ⟨rfl, fun W ok hwl hn => ?_⟩
  walk_at "cl"
  have n2 := two_le ok
  refine all_ok rfl ok.one (by omega) (by omega) ?_
  walk_at "cl"
  refine cs_ok rfl ok (by omega) (by omega) fun T tk => ?_
  walk_at "cl"
  have ml : ((marks W).map sgD).length = NN W := by rw [List.length_map, marksTo_len]
  have six : ∀ (s5 s6 s7 s8 s9 : Slot), t_law9 (fnEnds [.dat (.frz (ns.map .int))] R) [.dat (.frz (ns.map .int)), .own .pool, .dat (wD W), .dat (.lst ((marks W).map sgD)), .dat (.lst (tabL T)), s5, s6, s7, s8, s9] := by
    intro s5 s6 s7 s8 s9
    unfold t_law9
    walk_at "cl"
    refine for_rng (fun i c => ∃ (s5 s6 s7 : Slot), c = [.dat (.frz (ns.map .int)), .own .pool, .dat (wD W), .dat (.lst ((marks W).map sgD)), .dat (.lst (tabL T)), s5, s6, s7, s8, s9]) ⟨_, _, _, rfl⟩ ?_ ?_
    · rintro i c' hi ⟨s5, s6, s7, rfl⟩
      unfold l_law5
      walk_at "cl"
      rw [ml]
      refine pk_ok (by omega) (by omega) fun r1 g1 g2 => ?_
      walk_at "cl"
      refine marks_ex g1 g2 fun x hx _ => ?_
      walk_at "cl"
      rw [ml]
      refine pk_ok (by omega) (by omega) fun r2 g3 g4 => ?_
      walk_at "cl"
      refine marks_ex g3 g4 fun y hy _ => ?_
      walk_at "cl"
      refine ph_ok ok (by omega) (by omega) tk hx hy ?_
      walk_at "cl"
      refine ph_ok ok (by omega) (by omega) tk hy hy ?_
      walk_at "cl"
      exact ⟨_, _, _, rfl⟩
    · rintro c' ⟨s5, s6, s7, rfl⟩
      have nl : ∀ z ∈ ([] : List Sg), z.1 < W.length := fun z hz => by cases hz
      have n1 : ∀ z ∈ [((0, 0) : Sg)], z.1 < W.length := fun z hz => by rw [List.mem_singleton.mp hz]; exact ok.one
      unfold t_law8
      walk_at "cl"
      refine cp_ok (row := []) rfl rfl ok (by omega) (by decide) nl ?_
      walk_at "cl"
      refine same_ok (d' := .tup []) rfl (sv_pap (show 0 ≤ 10000 by decide) fun e he => by cases he) ?_
      walk_at "cl"
      refine cf_ok (row := []) (paper := []) rfl rfl rfl ok nl (by decide) (by decide) (fun e he => by cases he) ?_
      rw [show fitsB W [] [] = true from rfl]
      walk_at "cl"
      unfold t_law7
      walk_at "cl"
      refine cf_ok (row := [(0, 0)]) (paper := []) rfl rfl rfl ok n1 (by decide) (by decide) (fun e he => by cases he) ?_
      rw [show fitsB W [(0, 0)] [] = true from rfl]
      walk_at "cl"
      refine cf_ok (row := [(0, 0)]) (paper := [[]]) rfl rfl rfl ok n1 (by decide) (by decide) (fun e he => by rw [List.mem_singleton.mp he]; decide) ?_
      rw [show fitsB W [(0, 0)] [[]] = false from rfl]
      walk_at "cl"
      unfold t_law6
      walk_at "cl"
      refine pk_ok (by omega) (by omega) fun r1 g1 g2 => ?_
      walk_at "cl"
      refine ⟨fun h => hR, fun h => ⟨rfl, ?_⟩⟩
      walk_at "cl"
      exact hR
  have ten : ∀ (s5 s6 s7 s9 : Slot), t_law10 (fnEnds [.dat (.frz (ns.map .int))] R) [.dat (.frz (ns.map .int)), .own .pool, .dat (wD W), .dat (.lst ((marks W).map sgD)), .dat (.lst (tabL T)), s5, s6, s7, .no, s9] := by
    intro s5 s6 s7 s9
    unfold t_law10
    walk_at "cl"
    refine ri_ok ok (by omega) tk fun l hl hll => ?_
    walk_at "cl"
    rw [List.length_map]
    refine ⟨by omega, for_rng (fun i c => ∃ (s5 s6 s7 s8 : Slot), RowS s8 (l.map prD) ∧ c = [.dat (.frz (ns.map .int)), .own .pool, .dat (wD W), .dat (.lst ((marks W).map sgD)), .dat (.lst (tabL T)), s5, s6, s7, s8, s9]) ⟨_, _, _, _, .inl rfl, rfl⟩ ?_ ?_⟩
    · rintro i c' hi ⟨s5, s6, s7, s8, h8, rfl⟩
      unfold l_law4
      rcases h8 with rfl | rfl
      all_goals
        walk_at "cl"
        rw [List.length_map]
        refine pk_ok (by omega) (by omega) fun r1 g1 g2 => ?_
        walk_at "cl"
        refine ixL_mem g1 (by rw [List.length_map]; exact g2) fun d hd => ?_
        obtain ⟨p, hp, rfl⟩ := List.mem_map.mp hd
        have hpp := hl p hp
        rw [prD_eq]
        walk_at "cl"
        refine hs_ok (row := [p.1, p.2]) rfl ok (by omega) (by omega) tk (fun z hz => by
          rcases List.mem_cons.mp hz with rfl | hz
          · exact hpp.1
          · rw [List.mem_singleton.mp hz]
            exact hpp.2) (by show 2 ≤ 10; decide) ?_
        walk_at "cl"
        refine ph_ok ok (by omega) (by omega) tk hpp.1 hpp.2 ?_
        walk_at "cl"
      · exact ⟨_, _, _, _, .inl rfl, rfl⟩
      · exact ⟨_, _, _, _, .inr rfl, rfl⟩
    · rintro c' ⟨s5, s6, s7, s8, h8, rfl⟩
      exact six _ _ _ _ _
  have eleven : ∀ (s5 s6 s7 : Slot), t_law11 (fnEnds [.dat (.frz (ns.map .int))] R) [.dat (.frz (ns.map .int)), .own .pool, .dat (wD W), .dat (.lst ((marks W).map sgD)), .dat (.lst (tabL T)), s5, s6, s7, .no, .no] := by
    intro s5 s6 s7
    unfold t_law11
    walk_at "cl"
    have ew : wD W = .tup (W.map btD) := rfl
    rw [ew]
    walk_at "cl"
    rw [List.length_map, ← ew]
    refine ⟨fun h => ?_, fun h => ten _ _ _ _⟩
    have ln := len_NN ok
    have three : ∀ x y : Sg, Sn W x → Sn W y → t_law3 { (fnEnds [.dat (.frz (ns.map .int))] R) with nx := t_law10 (fnEnds [.dat (.frz (ns.map .int))] R) } [.dat (.frz (ns.map .int)), .own .pool, .dat (wD W), .dat (.lst ((marks W).map sgD)), .dat (.lst (tabL T)), s5, s6, s7, .no, .dat (.tup [sgD x, sgD y])] := by
      intro x y hx hy
      unfold t_law3
      walk_at "cl"
      refine hs_ok (row := [x, y]) rfl ok (by omega) (by omega) tk (fun z hz => by
        rcases List.mem_cons.mp hz with rfl | hz
        · exact hx
        · rw [List.mem_singleton.mp hz]
          exact hy) (by show 2 ≤ 10; decide) ?_
      walk_at "cl"
      exact ten _ _ _ _
    refine marks_ex (by omega) (by omega) fun x hx _ => ?_
    walk_at "cl"
    refine marks_last ok n2 fun y hy => ?_
    walk_at "cl"
    refine marks_ex (by omega) (by omega) fun x' hx' _ => ?_
    walk_at "cl"
    refine marks_last ok n2 fun y' hy' => ?_
    walk_at "cl"
    refine told_ok rfl rfl ok (by omega) tk hx' hy' ?_
    walk_at "cl"
    cases ahB W x' y' with
    | true =>
      walk_at "cl"
      exact three x y hx hy
    | false =>
      walk_at "cl"
      refine marks_last ok n2 fun y2 hy2 => ?_
      walk_at "cl"
      refine marks_ex (by omega) (by omega) fun x2 hx2 _ => ?_
      walk_at "cl"
      exact three y2 x2 hy2 hx2
  refine for_rng (fun i c => ∃ (s3 s4 s5 : Slot), RowS s3 ((marks W).map sgD) ∧ RowS s4 (tabL T) ∧ DoneS i s3 s4 ((marks W).map sgD) (tabL T) ∧ c = [.dat (.frz (ns.map .int)), .own .pool, .dat (wD W), s3, s4, s5, .no, .no, .no, .no]) ⟨_, _, _, .inl rfl, .inl rfl, .inl rfl, rfl⟩ ?_ ?_
  · rintro i c' hi ⟨s3, s4, s5, h3, h4, _, rfl⟩
    unfold l_law1
    rcases h3 with rfl | rfl
    all_goals
      rcases h4 with rfl | rfl
      all_goals
        walk_at "cl"
        refine rw_ok ok (by omega) tk fun row hr1 hr2 => ?_
        walk_at "cl"
        refine hs_ok rfl ok (by omega) (by omega) tk hr1 hr2 ?_
        walk_at "cl"
        exact ⟨_, _, _, .inr rfl, .inr rfl, .inr ⟨rfl, rfl⟩, rfl⟩
  · rintro c' ⟨s3, s4, s5, _, _, h, rfl⟩
    obtain ⟨rfl, rfl⟩ := h.resolve_left (by decide)
    unfold t_law12
    walk_at "cl"
    rw [show ([Dt.tup [Dt.int 0, Dt.int 0], Dt.tup [Dt.int 1, Dt.int 1], Dt.tup [Dt.int 0, Dt.int 1], Dt.tup [Dt.int 1, Dt.int 0]] : List Dt) = [((0, 0) : Nat × Nat), (1, 1), (0, 1), (1, 0)].map (fun p => Dt.tup [.int p.1, .int p.2]) from rfl]
    refine for_map (f := fun p : Nat × Nat => Dt.tup [.int p.1, .int p.2]) (fun i c => ∃ (s6 s7 : Slot), c = [.dat (.frz (ns.map .int)), .own .pool, .dat (wD W), .dat (.lst ((marks W).map sgD)), .dat (.lst (tabL T)), s5, s6, s7, .no, .no]) ⟨_, _, rfl⟩ ?_ ?_
    · rintro i p c' hi ⟨s6, s7, rfl⟩
      have hp : p.1 < 2 ∧ p.2 < 2 := by
        have := List.mem_of_getElem? hi
        simp only [List.mem_cons, List.not_mem_nil, or_false] at this
        rcases this with rfl | rfl | rfl | rfl <;> exact ⟨by decide, by decide⟩
      unfold l_law2
      walk_at "cl"
      refine marks_ex (by omega) (by omega) fun x hx _ => ?_
      walk_at "cl"
      refine marks_ex (by omega) (by omega) fun y hy _ => ?_
      walk_at "cl"
      refine ph_ok ok (by omega) (by omega) tk hx hy ?_
      walk_at "cl"
      exact ⟨_, _, rfl⟩
    · rintro c' ⟨s6, s7, rfl⟩
      exact eleven _ _ _
end K26


namespace K26
open PySem PySem.Spec PyProof.Rows L2 Cl Bo
theorem law_ok (ns : List Int) (h : ns.length ≤ 63) (R : Res → List AArg → Prop) (hR : ∀ as, R (.dat (.bl true)) as) : F_law [.dat (.frz (ns.map .int))] R := ⟨ns, rfl, h, hR _⟩
def d_hopped : He.DefD := ⟨("_hopped", none), "_hopped", "_hopped", defArgs s_hopped, defBody s_hopped, defScope s_hopped, [], []⟩
def d_hops_of : He.DefD := ⟨("hops_of", none), "hops_of", "hops_of", defArgs s_hops_of, defBody s_hops_of, defScope s_hops_of, [], []⟩
def d_chain_paper : He.DefD := ⟨("chain_paper", none), "chain_paper", "chain_paper", defArgs s_chain_paper, defBody s_chain_paper, defScope s_chain_paper, [], []⟩
def d_exchanges : He.DefD := ⟨("_exchanges", none), "_exchanges", "_exchanges", defArgs s_exchanges, defBody s_exchanges, defScope s_exchanges, [], []⟩
def d_entry_fits : He.DefD := ⟨("_entry_fits", none), "_entry_fits", "_entry_fits", defArgs s_entry_fits, defBody s_entry_fits, defScope s_entry_fits, [], []⟩
def d_chain_fits : He.DefD := ⟨("chain_fits", none), "chain_fits", "chain_fits", defArgs s_chain_fits, defBody s_chain_fits, defScope s_chain_fits, [], []⟩
def d_law_draws : He.DefD := ⟨("_law_draws", none), "_law_draws", "_law_draws", defArgs s_law_draws, defBody s_law_draws, defScope s_law_draws, [], []⟩
def d_law_pick : He.DefD := ⟨("_law_pick", none), "_law_pick", "_law_pick", defArgs s_law_pick, defBody s_law_pick, defScope s_law_pick, [], []⟩
def d_law_say : He.DefD := ⟨("_law_say", none), "_law_say", "_law_say", defArgs s_law_say, defBody s_law_say, defScope s_law_say, [], []⟩
def d_law_all : He.DefD := ⟨("_law_all", none), "_law_all", "_law_all", defArgs s_law_all, defBody s_law_all, defScope s_law_all, [], []⟩
def d_law_closed : He.DefD := ⟨("_law_closed", none), "_law_closed", "_law_closed", defArgs s_law_closed, defBody s_law_closed, defScope s_law_closed, [], []⟩
def d_law_behind : He.DefD := ⟨("_law_behind", none), "_law_behind", "_law_behind", defArgs s_law_behind, defBody s_law_behind, defScope s_law_behind, [], []⟩
def d_law_ahead : He.DefD := ⟨("_law_ahead", none), "_law_ahead", "_law_ahead", defArgs s_law_ahead, defBody s_law_ahead, defScope s_law_ahead, [], []⟩
def d_law_close : He.DefD := ⟨("_law_close", none), "_law_close", "_law_close", defArgs s_law_close, defBody s_law_close, defScope s_law_close, [], []⟩
def d_law_pair : He.DefD := ⟨("_law_pair", none), "_law_pair", "_law_pair", defArgs s_law_pair, defBody s_law_pair, defScope s_law_pair, [], []⟩
def d_law_same : He.DefD := ⟨("_law_same", none), "_law_same", "_law_same", defArgs s_law_same, defBody s_law_same, defScope s_law_same, [], []⟩
def d_law_world : He.DefD := ⟨("_law_world", none), "_law_world", "_law_world", defArgs s_law_world, defBody s_law_world, defScope s_law_world, [], []⟩
def d_law_hops : He.DefD := ⟨("_law_hops", none), "_law_hops", "_law_hops", defArgs s_law_hops, defBody s_law_hops, defScope s_law_hops, [], []⟩
def d_law_paper : He.DefD := ⟨("_law_paper", none), "_law_paper", "_law_paper", defArgs s_law_paper, defBody s_law_paper, defScope s_law_paper, [], []⟩
def d_law_next : He.DefD := ⟨("_law_next", none), "_law_next", "_law_next", defArgs s_law_next, defBody s_law_next, defScope s_law_next, [], []⟩
def d_law_ends : He.DefD := ⟨("_law_ends", none), "_law_ends", "_law_ends", defArgs s_law_ends, defBody s_law_ends, defScope s_law_ends, [], []⟩
def d_law_entry_fits : He.DefD := ⟨("_law_entry_fits", none), "_law_entry_fits", "_law_entry_fits", defArgs s_law_entry_fits, defBody s_law_entry_fits, defScope s_law_entry_fits, [], []⟩
def d_law_fits : He.DefD := ⟨("_law_fits", none), "_law_fits", "_law_fits", defArgs s_law_fits, defBody s_law_fits, defScope s_law_fits, [], []⟩
def d_law_told : He.DefD := ⟨("_law_told", none), "_law_told", "_law_told", defArgs s_law_told, defBody s_law_told, defScope s_law_told, [], []⟩
def d_law_chained : He.DefD := ⟨("_law_chained", none), "_law_chained", "_law_chained", defArgs s_law_chained, defBody s_law_chained, defScope s_law_chained, [], []⟩
def d_law_row : He.DefD := ⟨("_law_row", none), "_law_row", "_law_row", defArgs s_law_row, defBody s_law_row, defScope s_law_row, [], []⟩
def d_law_rich : He.DefD := ⟨("_law_rich", none), "_law_rich", "_law_rich", defArgs s_law_rich, defBody s_law_rich, defScope s_law_rich, [], []⟩
def d_law_walk : He.DefD := ⟨("_law_walk", none), "_law_walk", "_law_walk", defArgs s_law_walk, defBody s_law_walk, defScope s_law_walk, [], []⟩
def d_law_walks : He.DefD := ⟨("_law_walks", none), "_law_walks", "_law_walks", defArgs s_law_walks, defBody s_law_walks, defScope s_law_walks, [], []⟩
def d_law_bent : He.DefD := ⟨("_law_bent", none), "_law_bent", "_law_bent", defArgs s_law_bent, defBody s_law_bent, defScope s_law_bent, [], []⟩
def d_law_holds : He.DefD := ⟨("_law_holds", none), "_law_holds", "_law_holds", defArgs s_law_holds, defBody s_law_holds, defScope s_law_holds, [], []⟩
def d_law_pair_holds : He.DefD := ⟨("_law_pair_holds", none), "_law_pair_holds", "_law_pair_holds", defArgs s_law_pair_holds, defBody s_law_pair_holds, defScope s_law_pair_holds, [], []⟩
def d_law_long_row : He.DefD := ⟨("_law_long_row", none), "_law_long_row", "_law_long_row", defArgs s_law_long_row, defBody s_law_long_row, defScope s_law_long_row, [], []⟩
def d_law : He.DefD := ⟨("law", none), "law", "law", defArgs s_law, defBody s_law, defScope s_law, [], []⟩
def fn : List He.DefD := [d_hopped, d_hops_of, d_chain_paper, d_exchanges, d_entry_fits, d_chain_fits, d_law_draws, d_law_pick, d_law_say, d_law_all, d_law_closed, d_law_behind, d_law_ahead, d_law_close, d_law_pair, d_law_same, d_law_world, d_law_hops, d_law_paper, d_law_next, d_law_ends, d_law_entry_fits, d_law_fits, d_law_told, d_law_chained, d_law_row, d_law_rich, d_law_walk, d_law_walks, d_law_bent, d_law_holds, d_law_pair_holds, d_law_long_row, d_law]
def fa : List He.Fa := [.glo "_hopped", .glo "hops_of", .glo "chain_paper", .glo "_exchanges", .glo "_entry_fits", .glo "chain_fits", .glo "_law_draws", .glo "_law_pick", .glo "_law_say", .glo "_law_all", .glo "_law_closed", .glo "_law_behind", .glo "_law_ahead", .glo "_law_close", .glo "_law_pair", .glo "_law_same", .glo "_law_world", .glo "_law_hops", .glo "_law_paper", .glo "_law_next", .glo "_law_ends", .glo "_law_entry_fits", .glo "_law_fits", .glo "_law_told", .glo "_law_chained", .glo "_law_row", .glo "_law_rich", .glo "_law_walk", .glo "_law_walks", .glo "_law_bent", .glo "_law_holds", .glo "_law_pair_holds", .glo "_law_long_row", .glo "law", .free "abs", .free "bool", .free "dict", .free "int", .free "isinstance", .free "len", .free "list", .free "max", .free "min", .free "range", .free "str", .free "tuple", .free "zip"]
abbrev RR : PySem.W.OpenRow := PySem.W.OpenLaw.row PySem.Challenge.rw_deedstand_k26_whole_chain_papers
abbrev hk : PySem.W.Hook := He.hookD 4 fa fn
def ob (s : PySem.W.SharedT) : He.AlD := He.obsDG 4 fa fn (HandSHeadRun.getT s)
theorem ob_eq (s : PySem.W.SharedT) : ob s = hk.obs s.abs := He.obsDG_eq (HandSHeadRun.getT_eq s)
set_option maxHeartbeats 0 in
theorem run (w : World) : HandSHeadRun.RunEq RR (PySem.W.view RR.prog [36]) hk ob 3000 [("_hopped" : PySem.Str), ("hops_of" : PySem.Str), ("chain_paper" : PySem.Str), ("_exchanges" : PySem.Str), ("_entry_fits" : PySem.Str), ("chain_fits" : PySem.Str), ("_law_draws" : PySem.Str), ("_law_pick" : PySem.Str), ("_law_say" : PySem.Str), ("_law_all" : PySem.Str), ("_law_closed" : PySem.Str), ("_law_behind" : PySem.Str), ("_law_ahead" : PySem.Str), ("_law_close" : PySem.Str), ("_law_pair" : PySem.Str), ("_law_same" : PySem.Str), ("_law_world" : PySem.Str), ("_law_hops" : PySem.Str), ("_law_paper" : PySem.Str), ("_law_next" : PySem.Str), ("_law_ends" : PySem.Str), ("_law_entry_fits" : PySem.Str), ("_law_fits" : PySem.Str), ("_law_told" : PySem.Str), ("_law_chained" : PySem.Str), ("_law_row" : PySem.Str), ("_law_rich" : PySem.Str), ("_law_walk" : PySem.Str), ("_law_walks" : PySem.Str), ("_law_bent" : PySem.Str), ("_law_holds" : PySem.Str), ("_law_pair_holds" : PySem.Str), ("_law_long_row" : PySem.Str)] w := by
  intro os
  kernel_rfl
theorem facts {P : Program} {w : World} {K : PySem.W.Frag} {h : Heap} {mg : Str → Option Value} {f : Addr} (X : K.In h) (G : h.Ns mainGlobals mg) (hfa : mg ("law" : Str) = some (.ref f)) (c : He.SaysD fa fn K) :
    ∃ fd : FuncData, (∀ (s : Shared) (v : Value), BindsTo s fd ⟨[v], []⟩ [("script", v)]) ∧ ∀ base : Heap, K.In base → base.Ns mainGlobals mg → FnOk P w K mg base CX0 7 f fd ["script"] (spC K boxPL 1 F_law) := by
  obtain ⟨fd_hopped, F_hopped_⟩ := c.def_ 0 (d := d_hopped) rfl
  have m_hopped := He.glo_ok X G (c.fact 0 (f := .glo "_hopped") rfl)
  obtain ⟨fd_hops_of, F_hops_of_⟩ := c.def_ 1 (d := d_hops_of) rfl
  have m_hops_of := He.glo_ok X G (c.fact 1 (f := .glo "hops_of") rfl)
  obtain ⟨fd_chain_paper, F_chain_paper_⟩ := c.def_ 2 (d := d_chain_paper) rfl
  have m_chain_paper := He.glo_ok X G (c.fact 2 (f := .glo "chain_paper") rfl)
  obtain ⟨fd_exchanges, F_exchanges_⟩ := c.def_ 3 (d := d_exchanges) rfl
  have m_exchanges := He.glo_ok X G (c.fact 3 (f := .glo "_exchanges") rfl)
  obtain ⟨fd_entry_fits, F_entry_fits_⟩ := c.def_ 4 (d := d_entry_fits) rfl
  have m_entry_fits := He.glo_ok X G (c.fact 4 (f := .glo "_entry_fits") rfl)
  obtain ⟨fd_chain_fits, F_chain_fits_⟩ := c.def_ 5 (d := d_chain_fits) rfl
  have m_chain_fits := He.glo_ok X G (c.fact 5 (f := .glo "chain_fits") rfl)
  obtain ⟨fd_law_draws, F_law_draws_⟩ := c.def_ 6 (d := d_law_draws) rfl
  have m_law_draws := He.glo_ok X G (c.fact 6 (f := .glo "_law_draws") rfl)
  obtain ⟨fd_law_pick, F_law_pick_⟩ := c.def_ 7 (d := d_law_pick) rfl
  have m_law_pick := He.glo_ok X G (c.fact 7 (f := .glo "_law_pick") rfl)
  obtain ⟨fd_law_say, F_law_say_⟩ := c.def_ 8 (d := d_law_say) rfl
  have m_law_say := He.glo_ok X G (c.fact 8 (f := .glo "_law_say") rfl)
  obtain ⟨fd_law_all, F_law_all_⟩ := c.def_ 9 (d := d_law_all) rfl
  have m_law_all := He.glo_ok X G (c.fact 9 (f := .glo "_law_all") rfl)
  obtain ⟨fd_law_closed, F_law_closed_⟩ := c.def_ 10 (d := d_law_closed) rfl
  have m_law_closed := He.glo_ok X G (c.fact 10 (f := .glo "_law_closed") rfl)
  obtain ⟨fd_law_behind, F_law_behind_⟩ := c.def_ 11 (d := d_law_behind) rfl
  have m_law_behind := He.glo_ok X G (c.fact 11 (f := .glo "_law_behind") rfl)
  obtain ⟨fd_law_ahead, F_law_ahead_⟩ := c.def_ 12 (d := d_law_ahead) rfl
  have m_law_ahead := He.glo_ok X G (c.fact 12 (f := .glo "_law_ahead") rfl)
  obtain ⟨fd_law_close, F_law_close_⟩ := c.def_ 13 (d := d_law_close) rfl
  have m_law_close := He.glo_ok X G (c.fact 13 (f := .glo "_law_close") rfl)
  obtain ⟨fd_law_pair, F_law_pair_⟩ := c.def_ 14 (d := d_law_pair) rfl
  have m_law_pair := He.glo_ok X G (c.fact 14 (f := .glo "_law_pair") rfl)
  obtain ⟨fd_law_same, F_law_same_⟩ := c.def_ 15 (d := d_law_same) rfl
  have m_law_same := He.glo_ok X G (c.fact 15 (f := .glo "_law_same") rfl)
  obtain ⟨fd_law_world, F_law_world_⟩ := c.def_ 16 (d := d_law_world) rfl
  have m_law_world := He.glo_ok X G (c.fact 16 (f := .glo "_law_world") rfl)
  obtain ⟨fd_law_hops, F_law_hops_⟩ := c.def_ 17 (d := d_law_hops) rfl
  have m_law_hops := He.glo_ok X G (c.fact 17 (f := .glo "_law_hops") rfl)
  obtain ⟨fd_law_paper, F_law_paper_⟩ := c.def_ 18 (d := d_law_paper) rfl
  have m_law_paper := He.glo_ok X G (c.fact 18 (f := .glo "_law_paper") rfl)
  obtain ⟨fd_law_next, F_law_next_⟩ := c.def_ 19 (d := d_law_next) rfl
  have m_law_next := He.glo_ok X G (c.fact 19 (f := .glo "_law_next") rfl)
  obtain ⟨fd_law_ends, F_law_ends_⟩ := c.def_ 20 (d := d_law_ends) rfl
  have m_law_ends := He.glo_ok X G (c.fact 20 (f := .glo "_law_ends") rfl)
  obtain ⟨fd_law_entry_fits, F_law_entry_fits_⟩ := c.def_ 21 (d := d_law_entry_fits) rfl
  have m_law_entry_fits := He.glo_ok X G (c.fact 21 (f := .glo "_law_entry_fits") rfl)
  obtain ⟨fd_law_fits, F_law_fits_⟩ := c.def_ 22 (d := d_law_fits) rfl
  have m_law_fits := He.glo_ok X G (c.fact 22 (f := .glo "_law_fits") rfl)
  obtain ⟨fd_law_told, F_law_told_⟩ := c.def_ 23 (d := d_law_told) rfl
  have m_law_told := He.glo_ok X G (c.fact 23 (f := .glo "_law_told") rfl)
  obtain ⟨fd_law_chained, F_law_chained_⟩ := c.def_ 24 (d := d_law_chained) rfl
  have m_law_chained := He.glo_ok X G (c.fact 24 (f := .glo "_law_chained") rfl)
  obtain ⟨fd_law_row, F_law_row_⟩ := c.def_ 25 (d := d_law_row) rfl
  have m_law_row := He.glo_ok X G (c.fact 25 (f := .glo "_law_row") rfl)
  obtain ⟨fd_law_rich, F_law_rich_⟩ := c.def_ 26 (d := d_law_rich) rfl
  have m_law_rich := He.glo_ok X G (c.fact 26 (f := .glo "_law_rich") rfl)
  obtain ⟨fd_law_walk, F_law_walk_⟩ := c.def_ 27 (d := d_law_walk) rfl
  have m_law_walk := He.glo_ok X G (c.fact 27 (f := .glo "_law_walk") rfl)
  obtain ⟨fd_law_walks, F_law_walks_⟩ := c.def_ 28 (d := d_law_walks) rfl
  have m_law_walks := He.glo_ok X G (c.fact 28 (f := .glo "_law_walks") rfl)
  obtain ⟨fd_law_bent, F_law_bent_⟩ := c.def_ 29 (d := d_law_bent) rfl
  have m_law_bent := He.glo_ok X G (c.fact 29 (f := .glo "_law_bent") rfl)
  obtain ⟨fd_law_holds, F_law_holds_⟩ := c.def_ 30 (d := d_law_holds) rfl
  have m_law_holds := He.glo_ok X G (c.fact 30 (f := .glo "_law_holds") rfl)
  obtain ⟨fd_law_pair_holds, F_law_pair_holds_⟩ := c.def_ 31 (d := d_law_pair_holds) rfl
  have m_law_pair_holds := He.glo_ok X G (c.fact 31 (f := .glo "_law_pair_holds") rfl)
  obtain ⟨fd_law_long_row, F_law_long_row_⟩ := c.def_ 32 (d := d_law_long_row) rfl
  have m_law_long_row := He.glo_ok X G (c.fact 32 (f := .glo "_law_long_row") rfl)
  obtain ⟨fd_law, F_law_⟩ := c.def_ 33 (d := d_law) rfl
  have m_law := He.glo_ok X G (c.fact 33 (f := .glo "law") rfl)
  have z_abs : mg "abs" = none := He.free_ok X G (c.fact 34 (f := .free "abs") rfl)
  have z_bool : mg "bool" = none := He.free_ok X G (c.fact 35 (f := .free "bool") rfl)
  have z_dict : mg "dict" = none := He.free_ok X G (c.fact 36 (f := .free "dict") rfl)
  have z_int : mg "int" = none := He.free_ok X G (c.fact 37 (f := .free "int") rfl)
  have z_isinstance : mg "isinstance" = none := He.free_ok X G (c.fact 38 (f := .free "isinstance") rfl)
  have z_len : mg "len" = none := He.free_ok X G (c.fact 39 (f := .free "len") rfl)
  have z_list : mg "list" = none := He.free_ok X G (c.fact 40 (f := .free "list") rfl)
  have z_max : mg "max" = none := He.free_ok X G (c.fact 41 (f := .free "max") rfl)
  have z_min : mg "min" = none := He.free_ok X G (c.fact 42 (f := .free "min") rfl)
  have z_range : mg "range" = none := He.free_ok X G (c.fact 43 (f := .free "range") rfl)
  have z_str : mg "str" = none := He.free_ok X G (c.fact 44 (f := .free "str") rfl)
  have z_tuple : mg "tuple" = none := He.free_ok X G (c.fact 45 (f := .free "tuple") rfl)
  have z_zip : mg "zip" = none := He.free_ok X G (c.fact 46 (f := .free "zip") rfl)
  have e := hfa.symm.trans m_law
  cases e
  have b := FunD.bindsA (ps := ["script"]) F_law_ fun _ _ _ _ _ _ us hl => match us, hl with | [_], _ => rfl
  refine ⟨fd_law, fun s v => b s [v] rfl, fun base _ _ => ?_⟩
  have D_law_draws : Def P w K mg base boxPL CX0 1 "_law_draws" s_law_draws [] [] P_law_draws F_law_draws := ⟨_, _, raw_law_draws F_law_draws_ z_abs z_int, m_law_draws, F_law_draws_.kp, F_law_draws_⟩
  have D_law_pick : Def P w K mg base boxPL CX0 1 "_law_pick" s_law_pick [] [] P_law_pick F_law_pick := ⟨_, _, raw_law_pick F_law_pick_ z_len z_int, m_law_pick, F_law_pick_.kp, F_law_pick_⟩
  have D_law_all : Def P w K mg base boxPL CX0 1 "_law_all" s_law_all [] [] P_law_all F_law_all := ⟨_, _, fnC F_law_all_ sc_law_all (fun _ _ _ _ _ _ hr => q_law_all z_len z_range hr) red_law_all, m_law_all, F_law_all_.kp, F_law_all_⟩
  have D_law_behind : Def P w K mg base boxPL CX0 1 "_law_behind" s_law_behind [] [] P_law_behind F_law_behind := ⟨_, _, fnC F_law_behind_ sc_law_behind (fun _ _ _ _ _ _ hr => q_law_behind z_len z_range hr) red_law_behind, m_law_behind, F_law_behind_.kp, F_law_behind_⟩
  have D_law_ahead : Def P w K mg base boxPL CX0 1 "_law_ahead" s_law_ahead [] [] P_law_ahead F_law_ahead := ⟨_, _, fnC F_law_ahead_ sc_law_ahead (fun _ _ _ _ _ _ hr => q_law_ahead z_len z_range hr) red_law_ahead, m_law_ahead, F_law_ahead_.kp, F_law_ahead_⟩
  have D_law_close : Def P w K mg base boxPL CX0 2 "_law_close" s_law_close [] [] P_law_close F_law_close := ⟨_, _, fnC F_law_close_ sc_law_close (fun _ _ _ _ _ _ hr => q_law_close D_law_behind z_len hr) red_law_close, m_law_close, F_law_close_.kp, F_law_close_⟩
  have D_law_pair : Def P w K mg base boxPL CX0 3 "_law_pair" s_law_pair [] [] P_law_pair F_law_pair := ⟨_, _, fnC F_law_pair_ sc_law_pair (fun _ _ _ _ _ _ hr => q_law_pair D_law_pick D_law_behind D_law_ahead D_law_close z_len hr) red_law_pair, m_law_pair, F_law_pair_.kp, F_law_pair_⟩
  have D_law_closed : Def P w K mg base boxPL CX0 2 "_law_closed" s_law_closed [] [] P_law_closed F_law_closed := ⟨_, _, fnC F_law_closed_ sc_law_closed (fun _ _ _ _ _ _ hr => q_law_closed D_law_all z_len z_range hr) red_law_closed, m_law_closed, F_law_closed_.kp, F_law_closed_⟩
  have D_law_say : Def P w K mg base boxPL CX0 2 "_law_say" s_law_say [] [] P_law_say F_law_say := ⟨_, _, fnC F_law_say_ sc_law_say (fun _ _ _ _ _ _ hr => q_law_say D_law_pick z_range hr) red_law_say, m_law_say, F_law_say_.kp, F_law_say_⟩
  have D_law_world : Def P w K mg base boxPL CX0 4 "_law_world" s_law_world [] [] P_law_world F_law_world := ⟨_, _, fnC F_law_world_ sc_law_world (fun _ _ _ _ _ _ hr => q_law_world D_law_pick D_law_all D_law_pair D_law_closed D_law_say z_range hr) red_law_world, m_law_world, F_law_world_.kp, F_law_world_⟩
  have D_law_rich : Def P w K mg base boxPL CX0 1 "_law_rich" s_law_rich [] [] P_law_rich F_law_rich := ⟨_, _, fnC F_law_rich_ sc_law_rich (fun _ _ _ _ _ _ hr => q_law_rich z_len z_range hr) red_law_rich, m_law_rich, F_law_rich_.kp, F_law_rich_⟩
  have D_law_hops : Def P w K mg base boxPL CX0 1 "_law_hops" s_law_hops [] [] P_law_hops F_law_hops := ⟨_, _, fnC F_law_hops_ sc_law_hops (fun _ _ _ _ _ _ hr => q_law_hops z_len z_range z_tuple hr) red_law_hops, m_law_hops, F_law_hops_.kp, F_law_hops_⟩
  have D_law_paper : Def P w K mg base boxPL CX0 2 "_law_paper" s_law_paper [] [] P_law_paper F_law_paper := ⟨_, _, fnC F_law_paper_ sc_law_paper (fun _ _ _ _ _ _ hr => q_law_paper D_law_hops z_len z_range z_tuple hr) red_law_paper, m_law_paper, F_law_paper_.kp, F_law_paper_⟩
  have D_law_same : Def P w K mg base boxPL CX0 5 "_law_same" s_law_same [] [] P_law_same F_law_same := by
    have D0 : Def P w K mg base boxPL CX0 0 "_law_same" s_law_same [] [] P_law_same (fun _ _ => False) := ⟨_, _, bot_ok, m_law_same, F_law_same_.kp, F_law_same_⟩
    have S : ∀ {k : Nat} {F F' : FS}, 0 ≤ k → Def P w K mg base boxPL CX0 k "_law_same" s_law_same [] [] P_law_same F' → (∀ as R, as.length = P_law_same.length → F as R → b_law_same F' (fnEnds as R) (c0 as N_law_same.length)) → Def P w K mg base boxPL CX0 (k + 1) "_law_same" s_law_same [] [] P_law_same F := fun hk D' red => ⟨_, _, fnC F_law_same_ sc_law_same (fun _ _ _ _ _ _ hr => q_law_same hk D' z_bool z_dict z_int z_isinstance z_len z_list z_range z_str z_tuple hr) red, m_law_same, F_law_same_.kp, F_law_same_⟩
    have D1 := S (F := F_same 0) (by decide) D0 (red_law_same 0 _ (by intro m h; cases h))
    have D2 := S (F := F_same 1) (by decide) D1 (red_law_same 1 _ (by intro m h; cases h; rfl))
    have D3 := S (F := F_same 2) (by decide) D2 (red_law_same 2 _ (by intro m h; cases h; rfl))
    have D4 := S (F := F_same 3) (by decide) D3 (red_law_same 3 _ (by intro m h; cases h; rfl))
    have D5 := S (F := F_same 4) (by decide) D4 (red_law_same 4 _ (by intro m h; cases h; rfl))
    exact D5
  have D_exchanges : Def P w K mg base boxPL CX0 1 "_exchanges" s_exchanges [] [] P_exchanges F_exchanges := ⟨_, _, fnC F_exchanges_ sc_exchanges (fun _ _ _ _ _ _ hr => q_exchanges  hr) red_exchanges, m_exchanges, F_exchanges_.kp, F_exchanges_⟩
  have D_entry_fits : Def P w K mg base boxPL CX0 2 "_entry_fits" s_entry_fits [] [] P_entry_fits F_entry_fits := ⟨_, _, fnC F_entry_fits_ sc_entry_fits (fun _ _ _ _ _ _ hr => q_entry_fits D_exchanges z_len z_zip hr) red_entry_fits, m_entry_fits, F_entry_fits_.kp, F_entry_fits_⟩
  have D_chain_fits : Def P w K mg base boxPL CX0 3 "chain_fits" s_chain_fits [] [] P_chain_fits F_chain_fits := ⟨_, _, fnC F_chain_fits_ sc_chain_fits (fun _ _ _ _ _ _ hr => q_chain_fits D_entry_fits z_len z_max z_zip hr) red_chain_fits, m_chain_fits, F_chain_fits_.kp, F_chain_fits_⟩
  have D_hopped : Def P w K mg base boxPL CX0 1 "_hopped" s_hopped [] [] P_hopped F_hopped := ⟨_, _, fnC F_hopped_ sc_hopped (fun _ _ _ _ _ _ hr => q_hopped  hr) red_hopped, m_hopped, F_hopped_.kp, F_hopped_⟩
  have D_hops_of : Def P w K mg base boxPL CX0 2 "hops_of" s_hops_of [] [] P_hops_of F_hops_of := ⟨_, _, fnC F_hops_of_ sc_hops_of (fun _ _ _ _ _ _ hr => q_hops_of D_hopped z_tuple hr) red_hops_of, m_hops_of, F_hops_of_.kp, F_hops_of_⟩
  have D_chain_paper : Def P w K mg base boxPL CX0 3 "chain_paper" s_chain_paper [] [] P_chain_paper F_chain_paper := ⟨_, _, fnC F_chain_paper_ sc_chain_paper (fun _ _ _ _ _ _ hr => q_chain_paper D_hops_of z_tuple z_zip hr) red_chain_paper, m_chain_paper, F_chain_paper_.kp, F_chain_paper_⟩
  have D_law_ends : Def P w K mg base boxPL CX0 1 "_law_ends" s_law_ends [] [] P_law_ends F_law_ends := ⟨_, _, fnC F_law_ends_ sc_law_ends (fun _ _ _ _ _ _ hr => q_law_ends  hr) red_law_ends, m_law_ends, F_law_ends_.kp, F_law_ends_⟩
  have D_law_next : Def P w K mg base boxPL CX0 1 "_law_next" s_law_next [] [] P_law_next F_law_next := ⟨_, _, fnC F_law_next_ sc_law_next (fun _ _ _ _ _ _ hr => q_law_next  hr) red_law_next, m_law_next, F_law_next_.kp, F_law_next_⟩
  have D_law_entry_fits : Def P w K mg base boxPL CX0 2 "_law_entry_fits" s_law_entry_fits [] [] P_law_entry_fits F_law_entry_fits := ⟨_, _, fnC F_law_entry_fits_ sc_law_entry_fits (fun _ _ _ _ _ _ hr => q_law_entry_fits D_law_ends D_law_next z_len z_range hr) red_law_entry_fits, m_law_entry_fits, F_law_entry_fits_.kp, F_law_entry_fits_⟩
  have D_law_fits : Def P w K mg base boxPL CX0 3 "_law_fits" s_law_fits [] [] P_law_fits F_law_fits := ⟨_, _, fnC F_law_fits_ sc_law_fits (fun _ _ _ _ _ _ hr => q_law_fits D_law_entry_fits z_len z_max z_range hr) red_law_fits, m_law_fits, F_law_fits_.kp, F_law_fits_⟩
  have D_law_long_row : Def P w K mg base boxPL CX0 6 "_law_long_row" s_law_long_row [] [] P_law_long_row F_law_long_row := ⟨_, _, fnC F_law_long_row_ sc_law_long_row (fun _ _ _ _ _ _ hr => q_law_long_row D_law_pick D_law_paper D_law_say D_law_hops D_law_same D_chain_fits D_chain_paper D_law_fits z_len z_min z_range z_tuple hr) red_law_long_row, m_law_long_row, F_law_long_row_.kp, F_law_long_row_⟩
  have D_law_told : Def P w K mg base boxPL CX0 1 "_law_told" s_law_told [] [] P_law_told F_law_told := ⟨_, _, fnC F_law_told_ sc_law_told (fun _ _ _ _ _ _ hr => q_law_told  hr) red_law_told, m_law_told, F_law_told_.kp, F_law_told_⟩
  have D_law_chained : Def P w K mg base boxPL CX0 2 "_law_chained" s_law_chained [] [] P_law_chained F_law_chained := ⟨_, _, fnC F_law_chained_ sc_law_chained (fun _ _ _ _ _ _ hr => q_law_chained D_law_told z_len z_range hr) red_law_chained, m_law_chained, F_law_chained_.kp, F_law_chained_⟩
  have D_law_walk : Def P w K mg base boxPL CX0 2 "_law_walk" s_law_walk [] [] P_law_walk F_law_walk := ⟨_, _, fnC F_law_walk_ sc_law_walk (fun _ _ _ _ _ _ hr => q_law_walk D_law_next D_law_ends D_law_pick D_law_told z_len z_range z_tuple hr) red_law_walk, m_law_walk, F_law_walk_.kp, F_law_walk_⟩
  have D_law_bent : Def P w K mg base boxPL CX0 2 "_law_bent" s_law_bent [] [] P_law_bent F_law_bent := ⟨_, _, fnC F_law_bent_ sc_law_bent (fun _ _ _ _ _ _ hr => q_law_bent D_law_pick z_len hr) red_law_bent, m_law_bent, F_law_bent_.kp, F_law_bent_⟩
  have D_law_holds : Def P w K mg base boxPL CX0 6 "_law_holds" s_law_holds [] [] P_law_holds F_law_holds := ⟨_, _, fnC F_law_holds_ sc_law_holds (fun _ _ _ _ _ _ hr => q_law_holds D_chain_paper D_law_paper D_law_chained D_law_same D_law_fits D_chain_fits D_law_walk D_law_bent z_len z_range z_tuple hr) red_law_holds, m_law_holds, F_law_holds_.kp, F_law_holds_⟩
  have D_law_walks : Def P w K mg base boxPL CX0 2 "_law_walks" s_law_walks [] [] P_law_walks F_law_walks := ⟨_, _, fnC F_law_walks_ sc_law_walks (fun _ _ _ _ _ _ hr => q_law_walks D_law_next z_len z_range hr) red_law_walks, m_law_walks, F_law_walks_.kp, F_law_walks_⟩
  have D_law_pair_holds : Def P w K mg base boxPL CX0 6 "_law_pair_holds" s_law_pair_holds [] [] P_law_pair_holds F_law_pair_holds := ⟨_, _, fnC F_law_pair_holds_ sc_law_pair_holds (fun _ _ _ _ _ _ hr => q_law_pair_holds D_law_walks D_law_ends D_law_same D_law_told D_chain_paper D_chain_fits D_law_hops z_int z_len hr) red_law_pair_holds, m_law_pair_holds, F_law_pair_holds_.kp, F_law_pair_holds_⟩
  have D_law_row : Def P w K mg base boxPL CX0 3 "_law_row" s_law_row [] [] P_law_row F_law_row := ⟨_, _, fnC F_law_row_ sc_law_row (fun _ _ _ _ _ _ hr => q_law_row D_law_pick D_law_behind D_law_close z_len z_range z_tuple hr) red_law_row, m_law_row, F_law_row_.kp, F_law_row_⟩
  exact fnC F_law_ sc_law (fun _ _ _ _ _ _ hr => q_law D_law_draws D_law_world D_law_all D_law_closed D_law_rich D_law_long_row D_law_holds D_law_pair_holds D_law_told D_law_pick D_law_same D_chain_fits D_law_row D_chain_paper z_len z_min z_range hr) red_law
end K26
open PySem PySem.W PySem.Calls PyProof.Rows
set_option maxHeartbeats 0 in
theorem PySem.Challenge.cw_deedstand_k26_whole_chain_papers_holds : PySem.Challenge.rw_deedstand_k26_whole_chain_papers.Holds := by
  w_on; o_law
  refine HandSHeadRun.head_any (r := OpenLaw.row PySem.Challenge.rw_deedstand_k26_whole_chain_papers) (q := view (OpenLaw.row PySem.Challenge.rw_deedstand_k26_whole_chain_papers).prog [36]) (H := K26.hk) (ob := K26.ob) (M := 3000) (loose := [("_hopped" : PySem.Str), ("hops_of" : PySem.Str), ("chain_paper" : PySem.Str), ("_exchanges" : PySem.Str), ("_entry_fits" : PySem.Str), ("chain_fits" : PySem.Str), ("_law_draws" : PySem.Str), ("_law_pick" : PySem.Str), ("_law_say" : PySem.Str), ("_law_all" : PySem.Str), ("_law_closed" : PySem.Str), ("_law_behind" : PySem.Str), ("_law_ahead" : PySem.Str), ("_law_close" : PySem.Str), ("_law_pair" : PySem.Str), ("_law_same" : PySem.Str), ("_law_world" : PySem.Str), ("_law_hops" : PySem.Str), ("_law_paper" : PySem.Str), ("_law_next" : PySem.Str), ("_law_ends" : PySem.Str), ("_law_entry_fits" : PySem.Str), ("_law_fits" : PySem.Str), ("_law_told" : PySem.Str), ("_law_chained" : PySem.Str), ("_law_row" : PySem.Str), ("_law_rich" : PySem.Str), ("_law_walk" : PySem.Str), ("_law_walks" : PySem.Str), ("_law_bent" : PySem.Str), ("_law_holds" : PySem.Str), ("_law_pair_holds" : PySem.Str), ("_law_long_row" : PySem.Str)]) (d := HandSHeadRun.topDef (OpenLaw.row PySem.Challenge.rw_deedstand_k26_whole_chain_papers).prog 36) (kwd := []) K26.ob_eq
    (by kernel_rfl) (fun s => by kernel_rfl) K26.run (by kernel_rfl) (by kernel_rfl) (by kernel_rfl) (by rfl) (by first | assumption | decide +kernel) (by decide +kernel) ⟨rfl, rfl, rfl, rfl, rfl, by decide +kernel⟩ ?hw ?hc
  case hw => w_witness2
  case hc =>
    refine L2.walk_ofE (l := PySem.Challenge.rw_deedstand_k26_whole_chain_papers) (n := 63) (k := 7) (x := "script") (CX := L2.CX0) rfl (by decide) (by kernel_rfl) ⟨rfl, by decide, by decide⟩ ?F (fun _ _ _ _ z => z)
    intro w mg fa h Y G hmg0
    obtain ⟨K, KX, c⟩ := Y
    have hmg : mg ("law" : PySem.Str) = some (.ref fa) := by
      have e : (HandSHeadRun.topDef (OpenLaw.row PySem.Challenge.rw_deedstand_k26_whole_chain_papers).prog 36).name = ("law" : PySem.Str) := by kernel_rfl
      rw [← e]
      exact hmg0
    obtain ⟨fd, hb, hF⟩ := K26.facts (P := (PySem.Challenge.rw_deedstand_k26_whole_chain_papers).prog) (w := w) KX G hmg c
    exact ⟨K, fd, _, KX, hb, fun H a ns hl _ hS => Cl.law_sp K26.law_ok hl hS, hF⟩
