import PyProof.Rows.All
import Wide.All
import OpenK.AllK
import Wide.FinOn
import HandS.ForMost
import HandS.StrMore
import HandS.TupMul
import HandS.Defaults
import HandS.IsInst
import KE.GoesEnum
import KE.GoesMore
import HandS.Rev
import HandS.Iter
import HandS.Deep
import HandS.Conv
import HandS.NoneIn
import HandS.Zip
import HandS.TupAny
import HandS.TupLe
import HandS.Style
import KE.KRevSl
import HandS.Exc
import HandS.ExcOwn
import HandS.WordsExc
import HandS.ExcInit
import HandS.ExcField
import HandS.HeadHook1
import HandS.ExcCtx
import HandS.HotCalls
import HandS.ExcInitHot
import HandS.Lambda
import HandS.HeadHook2
import KE.DataMinMax
import HandS.Flt
import HandS.Text
import PyProof.Rows.StrRev
import PyProof.StrLawsIn
import HandS.ReplaceLit
import HandS.ReplaceDef
import PyProof.ToksMono
import PyProof.EqAt
import PyProof.EqKinds
import PyProof.TupleCall
import HandS.Base
import HandS.Call
import HandS.TryMany
import PyProof.ListStr
import PyProof.TupleOfStr
import HandS.Codes
import HandS.Dict
import KE.SortData
import HandS.SortInts
import HandS.Set
import HandS.SetFor
import HandS.Strs
import PyProof.TupleOfSeq
import HandS.ExcValue
import KE.KExcIs
import HandS.ExcIs
import HandS.IterVal
import HandS.HeadHook3
import HandS.HeadHook4
import KE.KStateDown
import HandS.Head0
import HandS.Head1
import HandS.Head2
import HandS.HeadEnd
import PySem.Challenge.RW_deedstand_k48_motions_lead_by_spots
set_option Elab.async false
set_option linter.all false
set_option maxRecDepth 100000
set_option maxHeartbeats 400000
namespace Cl
open PySem PySem.Spec PyProof.Rows L2

/-! ### plain data -/
inductive Dt where
  | non | bl (b : Bool) | int (i : Int) | str (s : List Nat) | tup (l : List Dt) | lst (l : List Dt) | frz (l : List Dt)
  /-- an empty dict -/
  | emp
  /-- a caught exception: the object, its class, its dict, the fields -/
  | exc (a : Addr) (x : Str) (dd : Addr) (ns : List Str) (l : List Dt)

def S (s : List Nat) : Str := ⟨s.toArray⟩
theorem S_tl (s : List Nat) : (S s).cps.toList = s := rfl
theorem S_len (s : List Nat) : (S s).length = s.length := by simp [S, Str.length]
theorem S_inj {s t : List Nat} (h : S s = S t) : s = t := by
  have := congrArg (fun x => x.cps.toList) h
  simpa [S] using this
theorem S_of (x : Str) : x = S x.cps.toList := by cases x; rfl

mutual
def Rep (K : PySem.W.Frag) (B : Hp) : Dt → V → Prop
  | .non, v => v = .non
  | .bl b, v => v = .bl b
  | .int i, v => v = .int i
  | .str s, v => v = .str (S s)
  | .tup l, v => ∃ a xs, v = .ref a ∧ SqT K B a xs ∧ RepL K B l xs
  | .lst l, v => ∃ a xs, v = .ref a ∧ B a = some (.lst xs) ∧ RepL K B l xs
  | .frz l, v => ∃ a xs, v = .ref a ∧ SqL K B a xs ∧ RepL K B l xs
  | .emp, v => ∃ a, v = .ref a ∧ B a = some (.dK [])
  | .exc a _ dd ns l, v => v = .ref a ∧ ∃ xs, B dd = some (.xd (ns.zip xs)) ∧ xs.length = ns.length ∧ RepL K B l xs
def RepL (K : PySem.W.Frag) (B : Hp) : List Dt → List V → Prop
  | [], xs => xs = []
  | d :: ds, xs => ∃ x r, xs = x :: r ∧ Rep K B d x ∧ RepL K B ds r
end

theorem sameT {K : PySem.W.Frag} {H H' : Hp} {a : Addr} {xs : List V} (e : Same H H') (h : SqT K H a xs) : SqT K H' a xs := by
  rcases h with (h | ⟨o, h⟩) | h
  · exact .inl (.inl (e _ _ h))
  · exact .inl (.inr ⟨o, e _ _ h⟩)
  · exact .inr h

mutual
theorem Rep.mono {K : PySem.W.Frag} {B B' : Hp} (e : Same B B') : ∀ {d : Dt} {v : V}, Rep K B d v → Rep K B' d v
  | .non, _, h => h
  | .bl _, _, h => h
  | .int _, _, h => h
  | .str _, _, h => h
  | .tup l, v, h => by
    unfold Rep at h ⊢
    obtain ⟨a, xs, h1, h2, h3⟩ := h
    exact ⟨a, xs, h1, sameT e h2, RepL.mono e h3⟩
  | .lst l, v, h => by
    unfold Rep at h ⊢
    obtain ⟨a, xs, h1, h2, h3⟩ := h
    exact ⟨a, xs, h1, e _ _ h2, RepL.mono e h3⟩
  | .frz l, v, h => by
    unfold Rep at h ⊢
    obtain ⟨a, xs, h1, h2, h3⟩ := h
    exact ⟨a, xs, h1, e.seq h2, RepL.mono e h3⟩
  | .emp, v, h => by
    unfold Rep at h ⊢
    obtain ⟨a, h1, h2⟩ := h
    exact ⟨a, h1, e _ _ h2⟩
  | .exc a C dd ns l, v, h => by
    unfold Rep at h ⊢
    obtain ⟨h1, xs, h2, h3, h4⟩ := h
    exact ⟨h1, xs, e _ _ h2, h3, RepL.mono e h4⟩
theorem RepL.mono {K : PySem.W.Frag} {B B' : Hp} (e : Same B B') : ∀ {l : List Dt} {xs : List V}, RepL K B l xs → RepL K B' l xs
  | [], _, h => h
  | d :: ds, xs, h => by
    unfold RepL at h ⊢
    obtain ⟨x, r, h1, h2, h3⟩ := h
    exact ⟨x, r, h1, Rep.mono e h2, RepL.mono e h3⟩
end

theorem RepL.length {K : PySem.W.Frag} {B : Hp} : ∀ {l : List Dt} {xs : List V}, RepL K B l xs → xs.length = l.length
  | [], _, h => by unfold RepL at h; rw [h]; rfl
  | d :: ds, xs, h => by
    unfold RepL at h
    obtain ⟨x, r, h1, h2, h3⟩ := h
    rw [h1, List.length_cons, List.length_cons, RepL.length h3]
theorem RepL.get {K : PySem.W.Frag} {B : Hp} : ∀ {l : List Dt} {xs : List V} {i : Nat} {d : Dt}, RepL K B l xs → l[i]? = some d → ∃ v, xs[i]? = some v ∧ Rep K B d v
  | [], _, _, _, _, e => by simp at e
  | d :: ds, xs, 0, d', h, e => by
    unfold RepL at h
    obtain ⟨x, r, h1, h2, h3⟩ := h
    simp at e
    subst e
    exact ⟨x, by rw [h1]; rfl, h2⟩
  | d :: ds, xs, i + 1, d', h, e => by
    unfold RepL at h
    obtain ⟨x, r, h1, h2, h3⟩ := h
    obtain ⟨v, e1, e2⟩ := RepL.get (i := i) h3 (by simpa using e)
    exact ⟨v, by rw [h1]; simpa using e1, e2⟩
theorem RepL.getV {K : PySem.W.Frag} {B : Hp} {l : List Dt} {xs : List V} {i : Nat} {v : V} (h : RepL K B l xs) (e : xs[i]? = some v) : ∃ d, l[i]? = some d ∧ Rep K B d v := by
  have hi : i < l.length := by
    rw [← h.length]
    exact (List.getElem?_eq_some_iff.mp e).1
  obtain ⟨v', e1, e2⟩ := h.get (List.getElem?_eq_getElem hi)
  rw [e] at e1
  cases e1
  exact ⟨_, List.getElem?_eq_getElem hi, e2⟩
theorem RepL.app {K : PySem.W.Frag} {B : Hp} : ∀ {l m : List Dt} {xs ys : List V}, RepL K B l xs → RepL K B m ys → RepL K B (l ++ m) (xs ++ ys)
  | [], m, xs, ys, h, h' => by unfold RepL at h; rw [h]; exact h'
  | d :: ds, m, xs, ys, h, h' => by
    unfold RepL at h
    obtain ⟨x, r, h1, h2, h3⟩ := h
    rw [h1]
    show RepL K B (d :: (ds ++ m)) (x :: (r ++ ys))
    unfold RepL
    exact ⟨x, _, rfl, h2, RepL.app h3 h'⟩
theorem RepL.nil {K : PySem.W.Frag} {B : Hp} : RepL K B [] [] := by unfold RepL; rfl
theorem RepL.cons {K : PySem.W.Frag} {B : Hp} {d : Dt} {l : List Dt} {x : V} {xs : List V} (h : Rep K B d x) (h' : RepL K B l xs) : RepL K B (d :: l) (x :: xs) := by
  unfold RepL
  exact ⟨x, xs, rfl, h, h'⟩
theorem RepL.one {K : PySem.W.Frag} {B : Hp} {d : Dt} {x : V} (h : Rep K B d x) : RepL K B [d] [x] := .cons h .nil
theorem RepL.drop {K : PySem.W.Frag} {B : Hp} : ∀ {l : List Dt} {xs : List V} (n : Nat), RepL K B l xs → RepL K B (l.drop n) (xs.drop n)
  | [], _, _, h => by unfold RepL at h; rw [h]; simp; exact .nil
  | _ :: _, _, 0, h => h
  | d :: ds, xs, n + 1, h => by
    unfold RepL at h
    obtain ⟨x, r, h1, h2, h3⟩ := h
    rw [h1]
    exact RepL.drop n h3
theorem RepL.take {K : PySem.W.Frag} {B : Hp} : ∀ {l : List Dt} {xs : List V} (n : Nat), RepL K B l xs → RepL K B (l.take n) (xs.take n)
  | [], _, _, h => by unfold RepL at h; rw [h]; simp; exact .nil
  | _ :: _, _, 0, h => by simp; exact .nil
  | d :: ds, xs, n + 1, h => by
    unfold RepL at h
    obtain ⟨x, r, h1, h2, h3⟩ := h
    rw [h1]
    exact .cons h2 (RepL.take n h3)
theorem RepL.set {K : PySem.W.Frag} {B : Hp} {d : Dt} {v : V} (hv : Rep K B d v) : ∀ {l : List Dt} {xs : List V} (n : Nat), RepL K B l xs → RepL K B (l.set n d) (xs.set n v)
  | [], _, _, h => by unfold RepL at h; rw [h]; exact .nil
  | _ :: _, xs, 0, h => by
    unfold RepL at h
    obtain ⟨x, r, h1, h2, h3⟩ := h
    rw [h1]
    exact .cons hv h3
  | _ :: ds, xs, n + 1, h => by
    unfold RepL at h
    obtain ⟨x, r, h1, h2, h3⟩ := h
    rw [h1]
    exact .cons h2 (RepL.set hv n h3)
theorem RepL.rev {K : PySem.W.Frag} {B : Hp} : ∀ {l : List Dt} {xs : List V}, RepL K B l xs → RepL K B l.reverse xs.reverse
  | [], _, h => by unfold RepL at h; rw [h]; exact .nil
  | d :: ds, xs, h => by
    unfold RepL at h
    obtain ⟨x, r, h1, h2, h3⟩ := h
    rw [h1, List.reverse_cons, List.reverse_cons]
    exact .app (RepL.rev h3) (.one h2)
theorem RepL.erase {K : PySem.W.Frag} {B : Hp} : ∀ {l : List Dt} {xs : List V} (n : Nat), RepL K B l xs → RepL K B (l.eraseIdx n) (xs.eraseIdx n)
  | [], _, _, h => by unfold RepL at h; rw [h]; exact .nil
  | _ :: _, xs, 0, h => by
    unfold RepL at h
    obtain ⟨x, r, h1, h2, h3⟩ := h
    rw [h1]
    exact h3
  | _ :: ds, xs, n + 1, h => by
    unfold RepL at h
    obtain ⟨x, r, h1, h2, h3⟩ := h
    rw [h1]
    exact .cons h2 (RepL.erase n h3)
theorem RepL.rep {K : PySem.W.Frag} {B : Hp} {l : List Dt} {xs : List V} (h : RepL K B l xs) : ∀ k : Nat, RepL K B (List.replicate k l).flatten (List.replicate k xs).flatten
  | 0 => .nil
  | k + 1 => by
    rw [List.replicate_succ, List.replicate_succ, List.flatten_cons, List.flatten_cons]
    exact h.app (RepL.rep h k)

/-! ### owned objects -/
/-- the law's drawing box: what is true of it in the heap, with its footprint -/
structure PoolP where
  ok : Addr → List Addr → Hp → Prop
  mem : ∀ a fp H, ok a fp H → a ∈ fp
  alive : ∀ a fp H, ok a fp H → ∀ b ∈ fp, H b ≠ none
  loc : ∀ a fp H H', ok a fp H → (∀ b ∈ fp, H' b = H b) → ok a fp H'
inductive Ob where
  | lst (l : List Dt)
  | pool
def RepO (K : PySem.W.Frag) (PL : PoolP) (B H : Hp) : Ob → Addr → List Addr → Prop
  | .lst l, a, fp => fp = [a] ∧ ∃ xs, H a = some (.lst xs) ∧ RepL K B l xs
  | .pool, a, fp => PL.ok a fp H
theorem RepO.mono {K : PySem.W.Frag} {PL : PoolP} {B B' H H' : Hp} {o : Ob} {a : Addr} {fp : List Addr} (e : Same B B') (k : ∀ b ∈ fp, H' b = H b) (h : RepO K PL B H o a fp) : RepO K PL B' H' o a fp := by
  cases o with
  | lst l =>
    obtain ⟨rfl, xs, h1, h2⟩ := h
    exact ⟨rfl, xs, (k a (by simp)).trans h1, h2.mono e⟩
  | pool => exact PL.loc a fp H H' h k
theorem RepO.alive {K : PySem.W.Frag} {PL : PoolP} {B H : Hp} {o : Ob} {a : Addr} {fp : List Addr} (h : RepO K PL B H o a fp) : ∀ b ∈ fp, H b ≠ none := by
  cases o with
  | lst l =>
    obtain ⟨rfl, xs, h1, h2⟩ := h
    intro b hb
    have e : b = a := by simpa using hb
    rw [e, h1]
    simp
  | pool => exact PL.alive a fp H h
theorem RepO.self {K : PySem.W.Frag} {PL : PoolP} {B H : Hp} {o : Ob} {a : Addr} {fp : List Addr} (h : RepO K PL B H o a fp) : a ∈ fp := by
  cases o with
  | lst l =>
    obtain ⟨rfl, xs, h1, h2⟩ := h
    simp
  | pool => exact PL.mem a fp H h

/-! ### the clean state -/
inductive Slot where
  | no
  | dat (d : Dt)
  | own (o : Ob)
  | arg (o : Ob)
abbrev CEnv := List Slot
def gt : CEnv → Nat → Slot
  | [], _ => .no
  | s :: _, 0 => s
  | _ :: r, n + 1 => gt r n
theorem gt_get {c : CEnv} : ∀ {i : Nat} {s : Slot}, gt c i = s → s ≠ .no → c[i]? = some s := by
  induction c with
  | nil => intro i s h n; exact absurd h.symm n
  | cons t r ih =>
    intro i s h n
    cases i with
    | zero => exact congrArg some h
    | succ i => simpa using ih h n

theorem gt_of {c : CEnv} : ∀ {i : Nat} {s : Slot}, c[i]? = some s → gt c i = s := by
  induction c with
  | nil => intro i s h; simp at h
  | cons t r ih =>
    intro i s h
    cases i with
    | zero =>
      show t = s
      simpa using h
    | succ i => exact ih (i := i) (by simpa using h)

/-- what a def's entry was -/
structure Ent where
  B : Hp
  H : Hp
  ow : Nat → Option Addr
  fp : Nat → List Addr
  /-- cells that are being filled and must stand as they are -/
  pin : Addr → Option HO
def SlotOk (K : PySem.W.Frag) (PL : PoolP) (G : Ent) (B H : Hp) (F : List Addr) (i : Nat) : Slot → Option V → Prop
  | .no, _ => F = []
  | .dat d, o => F = [] ∧ ∃ v, o = some v ∧ Rep K B d v
  | .own ob, o => ∃ a, o = some (.ref a) ∧ RepO K PL B H ob a F ∧ ∀ b ∈ F, G.H b = none
  | .arg ob, o => ∃ a, o = some (.ref a) ∧ G.ow i = some a ∧ RepO K PL B H ob a F ∧ ∀ b ∈ F, G.H b = none ∨ b ∈ G.fp i
structure ConcF (K : PySem.W.Frag) (PL : PoolP) (G : Ent) (B : Hp) (c : CEnv) (σ : L2.St) (H : Hp) (F : Nat → List Addr) : Prop where
  ex : Same B H
  bb : Same G.B B
  new : ∀ a o, B a = some o → G.B a = some o ∨ G.H a = none
  frame : ∀ a o, G.H a = some o → (∀ k, a ∉ G.fp k) → H a = some o
  keep : ∀ a, G.H a ≠ none → H a ≠ none
  len : c.length = σ.length
  slots : ∀ i s, c[i]? = some s → ∃ o, σ[i]? = some o ∧ SlotOk K PL G B H (F i) i s o
  out : ∀ i, c.length ≤ i → F i = []
  disj : ∀ i j, i ≠ j → ∀ b ∈ F i, b ∉ F j
  off : ∀ i, ∀ b ∈ F i, B b = none
  pin : ∀ a o, G.pin a = some o → H a = some o ∧ B a = none ∧ ∀ i, a ∉ F i
def Conc (K : PySem.W.Frag) (PL : PoolP) (G : Ent) (B : Hp) (c : CEnv) (σ : L2.St) (H : Hp) : Prop := ∃ F, ConcF K PL G B c σ H F

section
variable {K : PySem.W.Frag} {PL : PoolP} {G : Ent} {B B' : Hp} {c : CEnv} {σ : L2.St} {H H' : Hp} {F : Nat → List Addr}

theorem SlotOk.mono {F : List Addr} {i : Nat} {s : Slot} {o : Option V} (e : Same B B') (k : ∀ b ∈ F, H' b = H b) (h : SlotOk K PL G B H F i s o) : SlotOk K PL G B' H' F i s o := by
  cases s with
  | no => exact h
  | dat d =>
    obtain ⟨h1, v, h2, h3⟩ := h
    exact ⟨h1, v, h2, h3.mono e⟩
  | own ob =>
    obtain ⟨a, h1, h2, h3⟩ := h
    exact ⟨a, h1, h2.mono e k, h3⟩
  | arg ob =>
    obtain ⟨a, h1, h1', h2, h3⟩ := h
    exact ⟨a, h1, h1', h2.mono e k, h3⟩
theorem SlotOk.alive {F : List Addr} {i : Nat} {s : Slot} {o : Option V} (h : SlotOk K PL G B H F i s o) : ∀ b ∈ F, H b ≠ none := by
  cases s with
  | no =>
    have e : F = [] := h
    rw [e]
    intro b hb
    simp at hb
  | dat d =>
    obtain ⟨h1, _⟩ := h
    rw [h1]
    intro b hb
    simp at hb
  | own ob =>
    obtain ⟨a, h1, h2, h3⟩ := h
    exact h2.alive
  | arg ob =>
    obtain ⟨a, h1, h1', h2, h3⟩ := h
    exact h2.alive
theorem ConcF.alive (h : ConcF K PL G B c σ H F) (i : Nat) : ∀ b ∈ F i, H b ≠ none := by
  by_cases hi : i < c.length
  · obtain ⟨o, _, h2⟩ := h.slots i _ (List.getElem?_eq_getElem hi)
    exact h2.alive
  · rw [h.out i (by omega)]
    intro b hb
    simp at hb
/-- new things stand in the heap -/
theorem ConcF.grow (h : ConcF K PL G B c σ H F) (e : Same H H') : ConcF K PL G B c σ H' F where
  ex := h.ex.trans e
  bb := h.bb
  new := h.new
  frame := fun a o h1 h2 => e a o (h.frame a o h1 h2)
  keep := fun a h1 h2 => by
    cases q : H a with
    | none => exact h.keep a h1 q
    | some o =>
      rw [e a o q] at h2
      cases h2
  len := h.len
  slots := fun i s hs => by
    obtain ⟨o, h1, h2⟩ := h.slots i s hs
    refine ⟨o, h1, h2.mono (Same.refl B) fun b hb => ?_⟩
    cases q : H b with
    | none => exact absurd q (h.alive i b hb)
    | some o => exact e b o q
  out := h.out
  disj := h.disj
  off := h.off
  pin := fun a o q => ⟨e a o (h.pin a o q).1, (h.pin a o q).2⟩
theorem Conc.grow (h : Conc K PL G B c σ H) (e : Same H H') : Conc K PL G B c σ H' := let ⟨F, h⟩ := h; ⟨F, h.grow e⟩
theorem Same.new {p : Addr} {o : HO} (h : H p = none) : Same H (upd H p o) := fun b x e => by
  rw [upd_ne (ne_of_none e h)]
  exact e
/-- a new object that will never change -/
theorem ConcF.dat {p : Addr} {o : HO} (h : ConcF K PL G B c σ H F) (hp : H p = none) : ConcF K PL G (upd B p o) c σ (upd H p o) F ∧ Same B (upd B p o) := by
  have hb : B p = none := h.ex.free hp
  have e : Same B (upd B p o) := Same.new hb
  refine ⟨?_, e⟩
  have h1 := h.grow (Same.new (o := o) hp)
  refine { h1 with ex := ?_, bb := h.bb.trans e, new := ?_, slots := ?_, off := ?_, pin := fun a x q => ⟨(h1.pin a x q).1, ?_, (h1.pin a x q).2.2⟩ }
  · intro a x q
    by_cases ha : a = p
    · subst ha
      rw [upd_same] at q ⊢
      exact q
    · rw [upd_ne ha] at q ⊢
      exact h.ex a x q
  · intro a x q
    by_cases ha : a = p
    · subst ha
      right
      cases g : G.H a with
      | none => rfl
      | some o' => exact absurd hp (h.keep a (by rw [g]; simp))
    · rw [upd_ne ha] at q
      exact h.new a x q
  · intro i s hs
    obtain ⟨o', q1, q2⟩ := h1.slots i s hs
    exact ⟨o', q1, q2.mono e fun _ _ => rfl⟩
  · intro i b hb'
    have : b ≠ p := fun z => h.alive i b hb' (by rw [z]; exact hp)
    rw [upd_ne this]
    exact h.off i b hb'
  · have : a ≠ p := fun z => by
      have := (h.pin a x q).1
      rw [z, hp] at this
      cases this
    rw [upd_ne this]
    exact (h.pin a x q).2.1
theorem Conc.dat {p : Addr} {o : HO} (h : Conc K PL G B c σ H) (hp : H p = none) : Conc K PL G (upd B p o) c σ (upd H p o) ∧ Same B (upd B p o) :=
  let ⟨F, h⟩ := h; ⟨⟨F, (h.dat hp).1⟩, (h.dat (o := o) hp).2⟩
theorem Conc.tup {p : Addr} {l : List Dt} {xs : List V} (h : Conc K PL G B c σ H) (hp : H p = none) (r : RepL K B l xs) :
    Conc K PL G (upd B p (.tup xs)) c σ (upd H p (.tup xs)) ∧ Same B (upd B p (.tup xs)) ∧ Rep K (upd B p (.tup xs)) (.tup l) (.ref p) := by
  obtain ⟨h1, h2⟩ := h.dat (o := .tup xs) hp
  refine ⟨h1, h2, ?_⟩
  unfold Rep
  exact ⟨p, xs, rfl, .of upd_same, r.mono h2⟩
theorem get_snoc {α : Type} {l : List α} {x y : α} {i : Nat} (h : (l ++ [x])[i]? = some y) : (i < l.length ∧ l[i]? = some y) ∨ (i = l.length ∧ x = y) := by
  by_cases hi : i < l.length
  · rw [List.getElem?_append_left hi] at h
    exact .inl ⟨hi, h⟩
  · rw [List.getElem?_append_right (by omega)] at h
    have : i - l.length = 0 := by
      by_cases z : i - l.length = 0
      · exact z
      · rw [List.getElem?_eq_none (by simp; omega)] at h
        cases h
    rw [this] at h
    exact .inr ⟨by omega, by simpa using h⟩
/-- an owned object besides, at the end -/
theorem ConcF.push {v : V} {o : Ob} {a : Addr} {fp : List Addr} (h : ConcF K PL G B c σ H F) (hv : v = .ref a) (r : RepO K PL B H o a fp) (hg : ∀ b ∈ fp, G.H b = none) (hb : ∀ b ∈ fp, B b = none) (hd : ∀ i, ∀ b ∈ F i, b ∉ fp) (hpin : ∀ b ∈ fp, G.pin b = none) :
    ConcF K PL G B (c ++ [.own o]) (σ ++ [some v]) H (fun i => if i = c.length then fp else F i) where
  ex := h.ex
  bb := h.bb
  new := h.new
  frame := h.frame
  keep := h.keep
  len := by simp [h.len]
  slots := fun i s hs => by
    rcases get_snoc hs with ⟨hi, q⟩ | ⟨hi, q⟩
    · obtain ⟨x, h1, h2⟩ := h.slots i s q
      have hne : i ≠ c.length := by omega
      refine ⟨x, ?_, ?_⟩
      · rw [List.getElem?_append_left (by rw [← h.len]; exact hi)]
        exact h1
      · simp only [hne, if_false]
        exact h2
    · subst hi
      subst q
      refine ⟨some v, ?_, ?_⟩
      · rw [h.len, List.getElem?_append_right (Nat.le_refl _)]
        simp
      · simp only [if_true]
        exact ⟨a, by rw [hv], r, hg⟩
  out := fun i hi => by
    rw [List.length_append, List.length_singleton] at hi
    have hne : i ≠ c.length := by omega
    simp only [hne, if_false]
    exact h.out i (by omega)
  disj := fun i j hij b hbi hbj => by
    by_cases hi : i = c.length
    · have hj : j ≠ c.length := by omega
      simp only [hi, if_true] at hbi
      simp only [hj, if_false] at hbj
      exact hd j b hbj hbi
    · simp only [hi, if_false] at hbi
      by_cases hj : j = c.length
      · simp only [hj, if_true] at hbj
        exact hd i b hbi hbj
      · simp only [hj, if_false] at hbj
        exact h.disj i j hij b hbi hbj
  off := fun i b hbi => by
    by_cases hi : i = c.length
    · simp only [hi, if_true] at hbi
      exact hb b hbi
    · simp only [hi, if_false] at hbi
      exact h.off i b hbi
  pin := fun x u q => ⟨(h.pin x u q).1, (h.pin x u q).2.1, fun i hx => by
    by_cases hi : i = c.length
    · simp only [hi, if_true] at hx
      rw [hpin x hx] at q
      cases q
    · simp only [hi, if_false] at hx
      exact (h.pin x u q).2.2 i hx⟩
/-- a new list of one's own -/
theorem Conc.newL {p : Addr} {l : List Dt} {xs : List V} (h : Conc K PL G B c σ H) (hp : H p = none) (r : RepL K B l xs) :
    Conc K PL G B (c ++ [.own (.lst l)]) (σ ++ [some (.ref p)]) (upd H p (.lst xs)) := by
  obtain ⟨F, h⟩ := h
  have h1 := h.grow (Same.new (o := .lst xs) hp)
  refine ⟨_, h1.push (a := p) (fp := [p]) rfl ⟨rfl, xs, upd_same, r⟩ (fun b hb => ?_) (fun b hb => ?_) (fun i b hb hb' => ?_) (fun b hb => ?_)⟩
  · have e : b = p := by simpa using hb
    subst e
    cases g : G.H b with
    | none => rfl
    | some o' => exact absurd hp (h.keep b (by rw [g]; simp))
  · have e : b = p := by simpa using hb
    subst e
    exact h.ex.free hp
  · have e : b = p := by simpa using hb'
    subst e
    exact h.alive i b hb hp
  · have e : b = p := by simpa using hb
    subst e
    cases g : G.pin b with
    | none => rfl
    | some o' =>
      have := (h.pin b o' g).1
      rw [hp] at this
      cases this
/-- the last one forgotten -/
theorem ConcF.pop {s : Slot} {o : Option V} (h : ConcF K PL G B (c ++ [s]) (σ ++ [o]) H F) : ConcF K PL G B c σ H (fun i => if i < c.length then F i else []) where
  ex := h.ex
  bb := h.bb
  new := h.new
  frame := h.frame
  keep := h.keep
  len := by simpa using h.len
  slots := fun i t ht => by
    have hi : i < c.length := (List.getElem?_eq_some_iff.mp ht).1
    have hl : c.length = σ.length := by simpa using h.len
    obtain ⟨x, h1, h2⟩ := h.slots i t (by rw [List.getElem?_append_left hi]; exact ht)
    refine ⟨x, ?_, ?_⟩
    · rw [List.getElem?_append_left (by omega)] at h1
      exact h1
    · simp only [hi, if_true]
      exact h2
  out := fun i hi => by
    have : ¬ i < c.length := by omega
    simp only [this, if_false]
  disj := fun i j hij b hbi hbj => by
    split at hbi
    · split at hbj
      · exact h.disj i j hij b hbi hbj
      · simp at hbj
    · simp at hbi
  off := fun i b hbi => by
    split at hbi
    · exact h.off i b hbi
    · simp at hbi
  pin := fun x u q => ⟨(h.pin x u q).1, (h.pin x u q).2.1, fun i hx => by
    split at hx
    · exact (h.pin x u q).2.2 i hx
    · simp at hx⟩
theorem Conc.pop {s : Slot} {o : Option V} (h : Conc K PL G B (c ++ [s]) (σ ++ [o]) H) : Conc K PL G B c σ H := let ⟨F, h⟩ := h; ⟨_, h.pop⟩
/-- a slot's own object is from now on never changed -/
theorem ConcF.freeze {i : Nat} {l : List Dt} (h : ConcF K PL G B c σ H F) (hs : c[i]? = some (.own (.lst l))) :
    ∃ B' v F', Same B B' ∧ σ[i]? = some (some v) ∧ Rep K B' (.lst l) v ∧ ConcF K PL G B' (c.set i (.dat (.lst l))) σ H F' := by
  obtain ⟨o, h1, a, h2, ⟨h3, xs, h4, h5⟩, h6⟩ := h.slots i _ hs
  subst h2
  have hb : B a = none := h.off i a (by rw [h3]; simp)
  have e : Same B (upd B a (.lst xs)) := Same.new hb
  have hic : i < c.length := (List.getElem?_eq_some_iff.mp hs).1
  have rep : Rep K (upd B a (.lst xs)) (.lst l) (.ref a) := by
    unfold Rep
    exact ⟨a, xs, rfl, upd_same, h5.mono e⟩
  refine ⟨upd B a (.lst xs), .ref a, fun j => if j = i then [] else F j, e, h1, rep, ?_⟩
  refine { ex := ?_, bb := h.bb.trans e, new := ?_, frame := h.frame, keep := h.keep, len := by simpa using h.len, slots := ?_, out := ?_, disj := ?_, off := ?_, pin := fun b x q => ⟨(h.pin b x q).1, ?_, fun j hx => ?_⟩ }
  · intro b x q
    by_cases hba : b = a
    · subst hba
      rw [upd_same] at q
      rw [h4]
      exact q
    · rw [upd_ne hba] at q
      exact h.ex b x q
  · intro b x q
    by_cases hba : b = a
    · subst hba
      exact .inr (h6 b (by rw [h3]; simp))
    · rw [upd_ne hba] at q
      exact h.new b x q
  · intro j s hj
    by_cases hji : j = i
    · subst hji
      rw [List.getElem?_set_self hic] at hj
      cases hj
      exact ⟨_, h1, by simp only [if_true]; exact ⟨rfl, _, rfl, rep⟩⟩
    · rw [List.getElem?_set_ne (Ne.symm hji)] at hj
      obtain ⟨x, q1, q2⟩ := h.slots j s hj
      refine ⟨x, q1, ?_⟩
      simp only [hji, if_false]
      exact q2.mono e fun _ _ => rfl
  · intro j hj
    rw [List.length_set] at hj
    by_cases hji : j = i
    · simp only [hji, if_true]
    · simp only [hji, if_false]
      exact h.out j hj
  · intro j k hjk b hbj hbk
    by_cases hji : j = i
    · simp only [hji, if_true] at hbj
      simp at hbj
    · simp only [hji, if_false] at hbj
      by_cases hki : k = i
      · simp only [hki, if_true] at hbk
        simp at hbk
      · simp only [hki, if_false] at hbk
        exact h.disj j k hjk b hbj hbk
  · intro j b hbj
    by_cases hji : j = i
    · simp only [hji, if_true] at hbj
      simp at hbj
    · simp only [hji, if_false] at hbj
      have hba : b ≠ a := fun z => h.disj j i hji b hbj (by rw [h3, z]; simp)
      rw [upd_ne hba]
      exact h.off j b hbj
  · have hba : b ≠ a := fun z => (h.pin b x q).2.2 i (by rw [h3, z]; simp)
    rw [upd_ne hba]
    exact (h.pin b x q).2.1
  · by_cases hji : j = i
    · simp only [hji, if_true] at hx
      simp at hx
    · simp only [hji, if_false] at hx
      exact (h.pin b x q).2.2 j hx
theorem set_snoc {α : Type} {l : List α} {x y : α} : (l ++ [x]).set l.length y = l ++ [y] := by
  rw [List.set_append_right _ _ (Nat.le_refl _)]
  simp
/-- a new list becomes plain data -/
theorem Conc.freezeLast {v : V} {l : List Dt} (h : Conc K PL G B (c ++ [.own (.lst l)]) (σ ++ [some v]) H) : ∃ B', Same B B' ∧ Conc K PL G B' c σ H ∧ Rep K B' (.lst l) v := by
  obtain ⟨F, h⟩ := h
  have hl : c.length = σ.length := by simpa using h.len
  obtain ⟨B', v', F', h1, h2, h3, h4⟩ := h.freeze (i := c.length) (l := l) (by rw [List.getElem?_append_right (Nat.le_refl _)]; simp)
  rw [hl, List.getElem?_append_right (Nat.le_refl _)] at h2
  have e : v' = v := by simpa using h2.symm
  subst e
  rw [set_snoc] at h4
  exact ⟨B', h1, ⟨_, h4.pop⟩, h3⟩
theorem Conc.freezeAt {i : Nat} {v : V} {l : List Dt} (h : Conc K PL G B c σ H) (hs : c[i]? = some (.own (.lst l))) (hv : σ[i]? = some (some v)) :
    ∃ B', Same B B' ∧ Conc K PL G B' (c.set i (.dat (.lst l))) σ H ∧ Rep K B' (.lst l) v := by
  obtain ⟨F, h⟩ := h
  obtain ⟨B', v', F', h1, h2, h3, h4⟩ := h.freeze hs
  rw [hv] at h2
  cases h2
  exact ⟨B', h1, ⟨_, h4⟩, h3⟩
/-- a name is given plain data -/
theorem Conc.setDat {i : Nat} {d : Dt} {v : V} (h : Conc K PL G B c σ H) (r : Rep K B d v) : Conc K PL G B (c.set i (.dat d)) (σ.set i (some v)) H := by
  obtain ⟨F, h⟩ := h
  refine ⟨fun j => if j = i then [] else F j, h.ex, h.bb, h.new, h.frame, h.keep, by simp [h.len], fun j s hj => ?_, fun j hj => ?_, fun j k hjk b hbj hbk => ?_, fun j b hbj => ?_, fun b x q => ⟨(h.pin b x q).1, (h.pin b x q).2.1, fun j hx => ?_⟩⟩
  · by_cases hji : j = i
    · subst hji
      have hic : j < c.length := by
        have := (List.getElem?_eq_some_iff.mp hj).1
        simpa using this
      rw [List.getElem?_set_self hic] at hj
      cases hj
      exact ⟨some v, List.getElem?_set_self (by rw [← h.len]; exact hic), by simp only [if_true]; exact ⟨rfl, v, rfl, r⟩⟩
    · rw [List.getElem?_set_ne (Ne.symm hji)] at hj
      obtain ⟨x, q1, q2⟩ := h.slots j s hj
      refine ⟨x, by rw [List.getElem?_set_ne (Ne.symm hji)]; exact q1, ?_⟩
      simp only [hji, if_false]
      exact q2
  · rw [List.length_set] at hj
    by_cases hji : j = i
    · simp only [hji, if_true]
    · simp only [hji, if_false]
      exact h.out j hj
  · by_cases hji : j = i
    · simp only [hji, if_true] at hbj
      simp at hbj
    · simp only [hji, if_false] at hbj
      by_cases hki : k = i
      · simp only [hki, if_true] at hbk
        simp at hbk
      · simp only [hki, if_false] at hbk
        exact h.disj j k hjk b hbj hbk
  · by_cases hji : j = i
    · simp only [hji, if_true] at hbj
      simp at hbj
    · simp only [hji, if_false] at hbj
      exact h.off j b hbj
  · by_cases hji : j = i
    · simp only [hji, if_true] at hx
      simp at hx
    · simp only [hji, if_false] at hx
      exact (h.pin b x q).2.2 j hx
/-- a name is forgotten -/
theorem Conc.setNo {i : Nat} (h : Conc K PL G B c σ H) (o : Option V) : Conc K PL G B (c.set i .no) (σ.set i o) H := by
  obtain ⟨F, h⟩ := h
  refine ⟨fun j => if j = i then [] else F j, h.ex, h.bb, h.new, h.frame, h.keep, by simp [h.len], fun j s hj => ?_, fun j hj => ?_, fun j k hjk b hbj hbk => ?_, fun j b hbj => ?_, fun b x q => ⟨(h.pin b x q).1, (h.pin b x q).2.1, fun j hx => ?_⟩⟩
  · by_cases hji : j = i
    · subst hji
      have hic : j < c.length := by
        have := (List.getElem?_eq_some_iff.mp hj).1
        simpa using this
      rw [List.getElem?_set_self hic] at hj
      cases hj
      exact ⟨o, List.getElem?_set_self (by rw [← h.len]; exact hic), by simp only [if_true]; rfl⟩
    · rw [List.getElem?_set_ne (Ne.symm hji)] at hj
      obtain ⟨x, q1, q2⟩ := h.slots j s hj
      refine ⟨x, by rw [List.getElem?_set_ne (Ne.symm hji)]; exact q1, ?_⟩
      simp only [hji, if_false]
      exact q2
  · rw [List.length_set] at hj
    by_cases hji : j = i
    · simp only [hji, if_true]
    · simp only [hji, if_false]
      exact h.out j hj
  · by_cases hji : j = i
    · simp only [hji, if_true] at hbj
      simp at hbj
    · simp only [hji, if_false] at hbj
      by_cases hki : k = i
      · simp only [hki, if_true] at hbk
        simp at hbk
      · simp only [hki, if_false] at hbk
        exact h.disj j k hjk b hbj hbk
  · by_cases hji : j = i
    · simp only [hji, if_true] at hbj
      simp at hbj
    · simp only [hji, if_false] at hbj
      exact h.off j b hbj
  · by_cases hji : j = i
    · simp only [hji, if_true] at hx
      simp at hx
    · simp only [hji, if_false] at hx
      exact (h.pin b x q).2.2 j hx
/-- a name is given a new object -/
theorem Conc.setNew {i : Nat} {o : Ob} {v : V} (hi : i < c.length) (h : Conc K PL G B (c ++ [.own o]) (σ ++ [some v]) H) : Conc K PL G B (c.set i (.own o)) (σ.set i (some v)) H := by
  obtain ⟨F, h⟩ := h
  have hl : c.length = σ.length := by simpa using h.len
  obtain ⟨x, hx, a, q1, q2, q3⟩ := h.slots c.length (.own o) (by rw [List.getElem?_append_right (Nat.le_refl _)]; simp)
  rw [hl, List.getElem?_append_right (Nat.le_refl _)] at hx
  have ex : x = some v := by simpa using hx.symm
  subst ex
  refine ⟨fun j => if j = i then F c.length else if j < c.length then F j else [], h.ex, h.bb, h.new, h.frame, h.keep, by simpa using hl, fun j s hj => ?_, fun j hj => ?_, fun j k hjk b hbj hbk => ?_, fun j b hbj => ?_, fun b x q => ⟨(h.pin b x q).1, (h.pin b x q).2.1, fun j hx => ?_⟩⟩
  · have hjc : j < c.length := by
      have := (List.getElem?_eq_some_iff.mp hj).1
      simpa using this
    by_cases hji : j = i
    · subst hji
      rw [List.getElem?_set_self hjc] at hj
      cases hj
      exact ⟨some v, List.getElem?_set_self (by omega), by simp only [if_true]; exact ⟨a, q1, q2, q3⟩⟩
    · rw [List.getElem?_set_ne (Ne.symm hji)] at hj
      obtain ⟨x, r1, r2⟩ := h.slots j s (by rw [List.getElem?_append_left hjc]; exact hj)
      rw [List.getElem?_append_left (by omega)] at r1
      refine ⟨x, by rw [List.getElem?_set_ne (Ne.symm hji)]; exact r1, ?_⟩
      simp only [hji, if_false, hjc, if_true]
      exact r2
  · rw [List.length_set] at hj
    have h1 : j ≠ i := by omega
    have h2 : ¬ j < c.length := by omega
    simp only [h1, if_false, h2]
  · have un : ∀ j, b ∈ (if j = i then F c.length else if j < c.length then F j else []) → (j = i ∧ b ∈ F c.length) ∨ (j ≠ i ∧ j < c.length ∧ b ∈ F j) := fun j hb => by
      by_cases hji : j = i
      · simp only [hji, if_true] at hb
        exact .inl ⟨hji, hb⟩
      · simp only [hji, if_false] at hb
        by_cases hjc : j < c.length
        · simp only [hjc, if_true] at hb
          exact .inr ⟨hji, hjc, hb⟩
        · simp only [hjc, if_false] at hb
          simp at hb
    rcases un j hbj with ⟨e1, m1⟩ | ⟨e1, l1, m1⟩
    · rcases un k hbk with ⟨e2, m2⟩ | ⟨e2, l2, m2⟩
      · omega
      · exact h.disj _ _ (by omega) b m1 m2
    · rcases un k hbk with ⟨e2, m2⟩ | ⟨e2, l2, m2⟩
      · exact h.disj _ _ (by omega) b m1 m2
      · exact h.disj _ _ hjk b m1 m2
  · by_cases hji : j = i
    · simp only [hji, if_true] at hbj
      exact h.off _ b hbj
    · simp only [hji, if_false] at hbj
      by_cases hjc : j < c.length
      · simp only [hjc, if_true] at hbj
        exact h.off j b hbj
      · simp only [hjc, if_false] at hbj
        simp at hbj
  · by_cases hji : j = i
    · simp only [hji, if_true] at hx
      exact (h.pin b x q).2.2 _ hx
    · simp only [hji, if_false] at hx
      by_cases hjc : j < c.length
      · simp only [hjc, if_true] at hx
        exact (h.pin b x q).2.2 j hx
      · simp only [hjc, if_false] at hx
        simp at hx
/-- a slot's list is changed -/
theorem Conc.write {i : Nat} {l m : List Dt} {a : Addr} {ys : List V} (h : Conc K PL G B c σ H) (hs : c[i]? = some (.own (.lst l)) ∨ c[i]? = some (.arg (.lst l))) (hv : σ[i]? = some (some (.ref a))) (r : RepL K B m ys) :
    Conc K PL G B (c.set i (match gt c i with | .arg _ => .arg (.lst m) | _ => .own (.lst m))) σ (upd H a (.lst ys)) ∧ ∃ xs, H a = some (.lst xs) ∧ RepL K B l xs := by
  obtain ⟨F, h⟩ := h
  have hic : i < c.length := by
    rcases hs with hs | hs <;> exact (List.getElem?_eq_some_iff.mp hs).1
  have key : F i = [a] ∧ (∃ xs, H a = some (.lst xs) ∧ RepL K B l xs) ∧ ((c[i]? = some (.own (.lst l)) ∧ G.H a = none) ∨ (c[i]? = some (.arg (.lst l)) ∧ G.ow i = some a ∧ (G.H a = none ∨ a ∈ G.fp i))) := by
    rcases hs with hs | hs
    · obtain ⟨o, h1, a', h2, ⟨h3, xs, h4, h5⟩, h6⟩ := h.slots i _ hs
      rw [hv] at h1
      cases h1
      cases h2
      exact ⟨h3, ⟨xs, h4, h5⟩, .inl ⟨hs, h6 a (by rw [h3]; simp)⟩⟩
    · obtain ⟨o, h1, a', h2, h2', ⟨h3, xs, h4, h5⟩, h6⟩ := h.slots i _ hs
      rw [hv] at h1
      cases h1
      cases h2
      exact ⟨h3, ⟨xs, h4, h5⟩, .inr ⟨hs, h2', h6 a (by rw [h3]; simp)⟩⟩
  obtain ⟨hF, hx, hk⟩ := key
  have hba : B a = none := h.off i a (by rw [hF]; simp)
  have gts : ∀ s, c[i]? = some s → gt c i = s := fun s => gt_of
  refine ⟨⟨F, fun b x q => ?_, h.bb, h.new, fun b x q nf => ?_, fun b q => ?_, by simpa using h.len, fun j s hj => ?_, fun j hj => h.out j (by simpa using hj), h.disj, h.off, fun b x q => ⟨?_, (h.pin b x q).2⟩⟩, hx⟩
  · have : b ≠ a := fun z => by
      rw [z, hba] at q
      cases q
    rw [upd_ne this]
    exact h.ex b x q
  · have : b ≠ a := fun z => by
      subst z
      rcases hk with ⟨_, g⟩ | ⟨_, _, g⟩
      · rw [g] at q
        cases q
      · rcases g with g | g
        · rw [g] at q
          cases q
        · exact nf i g
    rw [upd_ne this]
    exact h.frame b x q nf
  · by_cases hb : b = a
    · rw [hb, upd_same]
      simp
    · rw [upd_ne hb]
      exact h.keep b q
  · by_cases hji : j = i
    · subst hji
      rw [List.getElem?_set_self hic] at hj
      have ej := Option.some.inj hj
      refine ⟨_, hv, ?_⟩
      rcases hk with ⟨hc, g⟩ | ⟨hc, g1, g2⟩
      · rw [gts _ hc] at ej
        subst ej
        refine ⟨a, rfl, ⟨hF, ys, upd_same, r⟩, fun b hb => ?_⟩
        rw [hF] at hb
        have : b = a := by simpa using hb
        rw [this]
        exact g
      · rw [gts _ hc] at ej
        subst ej
        refine ⟨a, rfl, g1, ⟨hF, ys, upd_same, r⟩, fun b hb => ?_⟩
        rw [hF] at hb
        have : b = a := by simpa using hb
        rw [this]
        exact g2
    · rw [List.getElem?_set_ne (Ne.symm hji)] at hj
      obtain ⟨x, q1, q2⟩ := h.slots j s hj
      refine ⟨x, q1, q2.mono (Same.refl B) fun b hb => ?_⟩
      have : b ≠ a := fun z => h.disj j i hji b hb (by rw [hF, z]; simp)
      rw [upd_ne this]
  · have : b ≠ a := fun z => (h.pin b x q).2.2 i (by rw [hF, z]; simp)
    rw [upd_ne this]
    exact (h.pin b x q).1
theorem Conc.same (h : Conc K PL G B c σ H) : Same B H := let ⟨_, h⟩ := h; h.ex
theorem Conc.len (h : Conc K PL G B c σ H) : c.length = σ.length := let ⟨_, h⟩ := h; h.len
theorem Conc.getDat {i : Nat} {d : Dt} (h : Conc K PL G B c σ H) (hs : gt c i = .dat d) : ∃ v, σ[i]? = some (some v) ∧ Rep K B d v := by
  obtain ⟨F, h⟩ := h
  obtain ⟨o, h1, _, v, h2, h3⟩ := h.slots i _ (gt_get hs (by simp))
  exact ⟨v, by rw [h1, h2], h3⟩
theorem Conc.getOb {i : Nat} {o : Ob} (h : Conc K PL G B c σ H) (hs : c[i]? = some (.own o) ∨ c[i]? = some (.arg o)) : ∃ a fp, σ[i]? = some (some (.ref a)) ∧ RepO K PL B H o a fp := by
  obtain ⟨F, h⟩ := h
  rcases hs with hs | hs
  · obtain ⟨x, h1, a, h2, h3, _⟩ := h.slots i _ hs
    exact ⟨a, _, by rw [h1, h2], h3⟩
  · obtain ⟨x, h1, a, h2, _, h3, _⟩ := h.slots i _ hs
    exact ⟨a, _, by rw [h1, h2], h3⟩
end
end Cl

namespace Cl
open PySem PySem.Spec PyProof.Rows L2

/-- two ways by a bool -/
def br (b : Bool) (A B : Prop) : Prop := match b with
  | true => A
  | false => B
theorem br_true {A B : Prop} : br true A B = A := rfl
theorem br_false {A B : Prop} : br false A B = B := rfl
theorem br_not {b : Bool} {A B : Prop} : br (!b) A B = br b B A := by cases b <;> rfl
theorem br_dec {p : Prop} [Decidable p] {A B : Prop} : br (decide p) A B = ((p → A) ∧ (¬ p → B)) := by
  by_cases h : p
  · rw [decide_eq_true h]
    simp [br, h]
  · rw [decide_eq_false h]
    simp [br, h]
theorem br_intro {b : Bool} {A B : Prop} (h1 : b = true → A) (h2 : b = false → B) : br b A B := by
  cases b with
  | true => exact h1 rfl
  | false => exact h2 rfl
/-! ### what an expression gives -/
inductive Res where
  | dat (d : Dt)
  | sl (i : Nat)
  | new (o : Ob)
def CR (K : PySem.W.Frag) (PL : PoolP) (G : Ent) (B : Hp) (c : CEnv) (σ : L2.St) (H : Hp) : Res → V → Prop
  | .dat d, v => Conc K PL G B c σ H ∧ Rep K B d v
  | .sl i, v => Conc K PL G B c σ H ∧ σ[i]? = some (some v)
  | .new o, v => Conc K PL G B (c ++ [.own o]) (σ ++ [some v]) H
abbrev DE := CEnv → (Res → CEnv → Prop) → Prop
abbrev DT := CEnv → (Bool → CEnv → Prop) → Prop
abbrev DA := CEnv → (List Res → CEnv → Prop) → Prop
/-- an exception in the air: its class's name, its fields -/
structure Exn where
  cls : Str
  ns : List Str
  fs : List Dt
structure CEnds where
  nx : CEnv → Prop
  rt : Res → CEnv → Prop
  bk : CEnv → Prop := fun _ => False
  ct : CEnv → Prop := fun _ => False
  ra : Exn → CEnv → Prop := fun _ _ => False
abbrev DS := CEnds → CEnv → Prop
def lE (K : PySem.W.Frag) (PL : PoolP) (de : DE) : TE := fun σ H Q => ∃ G B c Qd, Conc K PL G B c σ H ∧ de c Qd ∧ ∀ r c' B' H' v, Qd r c' → Same B B' → CR K PL G B' c' σ H' r v → Q v H'
def lT (K : PySem.W.Frag) (PL : PoolP) (dt : DT) : TT := fun σ H Q => ∃ G B c Qd, Conc K PL G B c σ H ∧ dt c Qd ∧ ∀ b c' B' H', Qd b c' → Same B B' → Conc K PL G B' c' σ H' → Q b H'
/-- what stays of a result while other things are reckoned -/
def Held (K : PySem.W.Frag) (B : Hp) (σ : L2.St) : Res → V → Prop
  | .dat d, v => Rep K B d v
  | .sl i, v => σ[i]? = some (some v)
  | .new _, _ => True
def HeldL (K : PySem.W.Frag) (B : Hp) (σ : L2.St) : List Res → List V → Prop
  | [], vs => vs = []
  | r :: rs, vs => ∃ v ws, vs = v :: ws ∧ Held K B σ r v ∧ HeldL K B σ rs ws
def lA (K : PySem.W.Frag) (PL : PoolP) (da : DA) : TA := fun σ H Q => ∃ G B c Qd, Conc K PL G B c σ H ∧ da c Qd ∧ ∀ rs c' B' H' vs, Qd rs c' → Same B B' → Conc K PL G B' c' σ H' → HeldL K B' σ rs vs → Q vs H'
def lS (K : PySem.W.Frag) (PL : PoolP) (ds : DS) : TS := fun D σ H => ∃ G B c E, Conc K PL G B c σ H ∧ ds E c ∧ (∀ c' B' σ' H', E.nx c' → Same B B' → Conc K PL G B' c' σ' H' → D.nx σ' H') ∧
  (∀ r c' B' σ' H' v, E.rt r c' → CR K PL G B' c' σ' H' r v → D.rt v H') ∧ (∀ c' B' σ' H', E.bk c' → Same B B' → Conc K PL G B' c' σ' H' → D.bk σ' H') ∧ (∀ c' B' σ' H', E.ct c' → Same B B' → Conc K PL G B' c' σ' H' → D.ct σ' H')
structure QE (X : Cx) (PL : PoolP) (e : Expr) (de : DE) : Prop where
  pe : PE X e (lE X.K PL de)
structure QT (X : Cx) (PL : PoolP) (e : Expr) (dt : DT) : Prop where
  pt : PT X e (lT X.K PL dt)
structure QW (X : Cx) (PL : PoolP) (e : Expr) (dt : DT) : Prop where
  pw : PW X e (lT X.K PL dt)
structure QA (X : Cx) (PL : PoolP) (es : List Expr) (da : DA) : Prop where
  pa : PA X es (lA X.K PL da)
structure QS (X : Cx) (PL : PoolP) (st : Stmt) (ds : DS) : Prop where
  ps : PS X st (lS X.K PL ds)
structure QSs (X : Cx) (PL : PoolP) (st : List Stmt) (ds : DS) : Prop where
  pss : PSs X st (lS X.K PL ds)

theorem PE.weak {X : Cx} {e : Expr} {t t' : TE} (h : PE X e t) (hw : ∀ σ H Q, t' σ H Q → t σ H Q) : PE X e t' := ⟨fun pins s σ H Q I q => h.run pins s σ H Q I (hw _ _ _ q)⟩
theorem PT.weak {X : Cx} {e : Expr} {t t' : TT} (h : PT X e t) (hw : ∀ σ H Q, t' σ H Q → t σ H Q) : PT X e t' := ⟨fun pins s σ H Q I q => h.run pins s σ H Q I (hw _ _ _ q)⟩
theorem PW.weak {X : Cx} {e : Expr} {t t' : TT} (h : PW X e t) (hw : ∀ σ H Q, t' σ H Q → t σ H Q) : PW X e t' := ⟨fun wh pins s σ H Q I q => h.run wh pins s σ H Q I (hw _ _ _ q)⟩
theorem PA.weak {X : Cx} {e : List Expr} {t t' : TA} (h : PA X e t) (hw : ∀ σ H Q, t' σ H Q → t σ H Q) : PA X e t' := ⟨fun pos pins s σ H Q I q => h.run pos pins s σ H Q I (hw _ _ _ q)⟩
theorem PS.weak {X : Cx} {e : Stmt} {t t' : TS} (h : PS X e t) (hw : ∀ D σ H, t' D σ H → t D σ H) : PS X e t' := ⟨fun pins s σ H D I q => h.run pins s σ H D I (hw _ _ _ q)⟩
theorem PSs.weak {X : Cx} {e : List Stmt} {t t' : TS} (h : PSs X e t) (hw : ∀ D σ H, t' D σ H → t D σ H) : PSs X e t' := ⟨fun pins s σ H D I q => h.run pins s σ H D I (hw _ _ _ q)⟩

/-! ### results looked at -/
/-- a new list that waits becomes plain data -/
def hd : Res → Res
  | .new (.lst l) => .dat (.lst l)
  | r => r
/-- data as it stands now -/
def vw : Res → CEnv → Option Dt
  | .dat d, _ => some d
  | .sl i, c => match gt c i with
    | .dat d => some d
    | .own (.lst l) => some (.lst l)
    | .arg (.lst l) => some (.lst l)
    | _ => none
  | .new _, _ => none
def RepH (K : PySem.W.Frag) (B H : Hp) : Dt → V → Prop
  | .non, v => v = .non
  | .bl b, v => v = .bl b
  | .int i, v => v = .int i
  | .str s, v => v = .str (S s)
  | .tup l, v => ∃ a xs, v = .ref a ∧ SqT K B a xs ∧ RepL K B l xs
  | .lst l, v => ∃ a xs, v = .ref a ∧ H a = some (.lst xs) ∧ RepL K B l xs
  | .frz l, v => ∃ a xs, v = .ref a ∧ SqL K B a xs ∧ RepL K B l xs
  | .emp, v => ∃ a, v = .ref a ∧ B a = some (.dK [])
  | .exc a _ dd ns l, v => v = .ref a ∧ ∃ xs, B dd = some (.xd (ns.zip xs)) ∧ xs.length = ns.length ∧ RepL K B l xs
section
variable {K : PySem.W.Frag} {PL : PoolP} {G : Ent} {B B' : Hp} {c c' : CEnv} {σ : L2.St} {H H' : Hp}
theorem Rep.toH {d : Dt} {v : V} (e : Same B H) (h : Rep K B d v) : RepH K B H d v := by
  cases d with
  | tup l =>
    unfold Rep at h
    obtain ⟨a, xs, h1, h2, h3⟩ := h
    exact ⟨a, xs, h1, h2, h3⟩
  | lst l =>
    unfold Rep at h
    obtain ⟨a, xs, h1, h2, h3⟩ := h
    exact ⟨a, xs, h1, e _ _ h2, h3⟩
  | frz l =>
    unfold Rep at h
    obtain ⟨a, xs, h1, h2, h3⟩ := h
    exact ⟨a, xs, h1, h2, h3⟩
  | _ => unfold Rep at h; exact h
theorem CR.conc {r : Res} {v : V} (h : CR K PL G B c σ H r v) : Conc K PL G B c σ H := by
  cases r with
  | dat d => exact h.1
  | sl i => exact h.1
  | new o => exact Conc.pop h
theorem CR.hold {r : Res} {v : V} (h : CR K PL G B c σ H r v) : ∃ B', Same B B' ∧ Conc K PL G B' c σ H ∧ Held K B' σ (hd r) v := by
  cases r with
  | dat d => exact ⟨B, Same.refl B, h.1, h.2⟩
  | sl i => exact ⟨B, Same.refl B, h.1, h.2⟩
  | new o =>
    cases o with
    | lst l =>
      obtain ⟨B', h1, h2, h3⟩ := Conc.freezeLast h
      exact ⟨B', h1, h2, h3⟩
    | pool => exact ⟨B, Same.refl B, Conc.pop h, trivial⟩
theorem Held.mono {r : Res} {v : V} (e : Same B B') (h : Held K B σ r v) : Held K B' σ r v := by
  cases r with
  | dat d => exact Rep.mono e h
  | sl i => exact h
  | new o => trivial
theorem HeldL.mono (e : Same B B') : ∀ {rs : List Res} {vs : List V}, HeldL K B σ rs vs → HeldL K B' σ rs vs
  | [], _, h => h
  | r :: rs, vs, h => by
    obtain ⟨v, ws, h1, h2, h3⟩ := h
    exact ⟨v, ws, h1, h2.mono e, HeldL.mono e h3⟩
theorem vw_ok {r : Res} {v : V} {d : Dt} (h : Conc K PL G B c σ H) (hh : Held K B σ r v) (hv : vw r c = some d) : RepH K B H d v := by
  cases r with
  | dat d' =>
    have e : d' = d := Option.some.inj hv
    subst e
    exact Rep.toH h.same hh
  | sl i =>
    have hs : σ[i]? = some (some v) := hh
    cases q : gt c i with
    | no => simp only [vw, q] at hv; cases hv
    | dat d' =>
      simp only [vw, q] at hv
      have e : d' = d := Option.some.inj hv
      subst e
      obtain ⟨v', h1, h2⟩ := h.getDat q
      rw [hs] at h1
      cases h1
      exact h2.toH h.same
    | own o =>
      cases o with
      | lst l =>
        simp only [vw, q] at hv
        have e : Dt.lst l = d := Option.some.inj hv
        subst e
        obtain ⟨a, fp, h1, h2, xs, h3, h4⟩ := h.getOb (.inl (gt_get q (by simp)))
        rw [hs] at h1
        cases h1
        exact ⟨a, xs, rfl, h3, h4⟩
      | pool => simp only [vw, q] at hv; cases hv
    | arg o =>
      cases o with
      | lst l =>
        simp only [vw, q] at hv
        have e : Dt.lst l = d := Option.some.inj hv
        subst e
        obtain ⟨a, fp, h1, h2, xs, h3, h4⟩ := h.getOb (.inr (gt_get q (by simp)))
        rw [hs] at h1
        cases h1
        exact ⟨a, xs, rfl, h3, h4⟩
      | pool => simp only [vw, q] at hv; cases hv
  | new o => cases hv
/-- made plain data for good -/
def asD (r : Res) (c : CEnv) (k : Dt → CEnv → Prop) : Prop := match r with
  | .dat d => k d c
  | .new (.lst l) => k (.lst l) c
  | .new .pool => False
  | .sl i => match gt c i with
    | .own (.lst l) => k (.lst l) (c.set i (.dat (.lst l)))
    | .dat d => k d c
    | _ => False
theorem asD_ok {r : Res} {v : V} {k : Dt → CEnv → Prop} (h : CR K PL G B c σ H r v) (hk : asD r c k) : ∃ B' c' d, Same B B' ∧ Conc K PL G B' c' σ H ∧ Rep K B' d v ∧ k d c' := by
  cases r with
  | dat d => exact ⟨B, c, d, Same.refl B, h.1, h.2, hk⟩
  | new o =>
    cases o with
    | lst l =>
      obtain ⟨B', h1, h2, h3⟩ := Conc.freezeLast h
      exact ⟨B', c, _, h1, h2, h3, hk⟩
    | pool => exact hk.elim
  | sl i =>
    obtain ⟨h1, h2⟩ := h
    unfold asD at hk
    cases q : gt c i with
    | no => simp only [q] at hk
    | dat d =>
      simp only [q] at hk
      obtain ⟨v', e1, e2⟩ := h1.getDat q
      rw [h2] at e1
      cases e1
      exact ⟨B, c, d, Same.refl B, h1, e2, hk⟩
    | own o =>
      cases o with
      | lst l =>
        simp only [q] at hk
        obtain ⟨B', e1, e2, e3⟩ := h1.freezeAt (gt_get q (by simp)) h2
        exact ⟨B', _, _, e1, e2, e3, hk⟩
      | pool => simp only [q] at hk
    | arg o => simp only [q] at hk
end

/-! ### names and constants -/
section
variable {X : Cx} {PL : PoolP}
def dVar (i : Nat) : DE := fun c Q => match gt c i with
  | .dat d => Q (.dat d) c
  | .own _ => Q (.sl i) c
  | .arg _ => Q (.sl i) c
  | .no => False
theorem q_of {e : Expr} {t : TE} {de : DE} (h : PE X e t) (hw : ∀ G B c σ H Qd Q, Conc X.K PL G B c σ H → de c Qd → (∀ r c' B' H' v, Qd r c' → Same B B' → CR X.K PL G B' c' σ H' r v → Q v H') → t σ H Q) : QE X PL e de :=
  ⟨PE.weak h fun σ H Q ⟨G, B, c, Qd, h1, h2, h3⟩ => hw G B c σ H Qd Q h1 h2 h3⟩
theorem qe_var {i : Nat} {x : Str} {pos : Pos} (h : PE X (.Name x pos) (tVar i)) : QE X PL (.Name x pos) (dVar i) := by
  refine q_of h fun G B c σ H Qd Q hc hd hq => ?_
  unfold dVar at hd
  cases q : gt c i with
  | no => simp only [q] at hd
  | dat d =>
    simp only [q] at hd
    obtain ⟨v, h1, h2⟩ := hc.getDat q
    exact ⟨v, h1, hq _ _ B H v hd (Same.refl B) ⟨hc, h2⟩⟩
  | own o =>
    simp only [q] at hd
    obtain ⟨a, fp, h1, h2⟩ := hc.getOb (.inl (gt_get q (by simp)))
    exact ⟨_, h1, hq _ _ B H _ hd (Same.refl B) ⟨hc, h1⟩⟩
  | arg o =>
    simp only [q] at hd
    obtain ⟨a, fp, h1, h2⟩ := hc.getOb (.inr (gt_get q (by simp)))
    exact ⟨_, h1, hq _ _ B H _ hd (Same.refl B) ⟨hc, h1⟩⟩
def dC (d : Dt) : DE := fun c Q => Q (.dat d) c
theorem qe_c {e : Expr} {d : Dt} {v : V} (h : PE X e (tC v)) (r : ∀ B, Rep X.K B d v) : QE X PL e (dC d) := by
  refine q_of h fun G B c σ H Qd Q hc hd hq => ?_
  exact hq _ _ B H v hd (Same.refl B) ⟨hc, r B⟩
theorem qe_int {i : Int} {j : Nat} {pos : Pos} : QE X PL (.Constant (.int i) j pos) (dC (.int i)) := qe_c pe_int fun _ => by unfold Rep; rfl
theorem qe_bl {b : Bool} {j : Nat} {pos : Pos} : QE X PL (.Constant (.bool b) j pos) (dC (.bl b)) := qe_c pe_bl fun _ => by unfold Rep; rfl
theorem qe_non {j : Nat} {pos : Pos} : QE X PL (.Constant .none j pos) (dC .non) := qe_c pe_non fun _ => by unfold Rep; rfl
theorem qe_str {x : Str} {j : Nat} {pos : Pos} (s : List Nat) (h : x = S s) : QE X PL (.Constant (.str x) j pos) (dC (.str s)) := by
  subst h
  exact qe_c pe_str fun _ => by unfold Rep; rfl
/-- a module's constant that is no object -/
theorem qe_glob {x : Str} {d : Dt} {v : V} {u : Value} {pos : Pos} (hg : Gl X x) (hm : X.mg x = some u) (r : RelV v u) (hr : ∀ B, Rep X.K B d v) (hd : (x == ("__debug__" : Str)) = false := by decide) : QE X PL (.Name x pos) (dC d) :=
  qe_c (pe_glob hg hm r hd) hr

/-! ### operators -/
abbrev OpF := Dt → Dt → (Res → Prop) → Prop
def OpD (K : PySem.W.Frag) (PL : PoolP) (r : R2) (f : OpF) : Prop := ∀ G B c σ H x y v u k (Q : VK), Conc K PL G B c σ H → RepH K B H x v → RepH K B H y u → f x y k →
  (∀ z w B' H', k z → Same B B' → CR K PL G B' c σ H' z w → Q w H') → r v u H Q
def on2 (r s : Res) (c : CEnv) (f : Dt → Dt → Prop) : Prop := match vw r c with
  | none => False
  | some x => match vw s c with
    | none => False
    | some y => f x y
def dBin (f : OpF) (da db : DE) : DE := fun c Q => da c fun r c1 => db c1 fun s c2 => on2 (hd r) (hd s) c2 fun x y => f x y fun z => Q z c2
theorem on2_ok {K : PySem.W.Frag} {PL : PoolP} {G : Ent} {B : Hp} {c : CEnv} {σ : L2.St} {H : Hp} {r s : Res} {v u : V} {f : Dt → Dt → Prop} (hc : Conc K PL G B c σ H) (h1 : Held K B σ r v) (h2 : Held K B σ s u) (h : on2 r s c f) : ∃ x y, RepH K B H x v ∧ RepH K B H y u ∧ f x y := by
  unfold on2 at h
  cases q1 : vw r c with
  | none => simp only [q1] at h
  | some x =>
    simp only [q1] at h
    cases q2 : vw s c with
    | none => simp only [q2] at h
    | some y =>
      simp only [q2] at h
      exact ⟨x, y, vw_ok hc h1 q1, vw_ok hc h2 q2, h⟩
theorem bin_ok {r : R2} {f : OpF} (ho : OpD X.K PL r f) {da db : DE} {G : Ent} {B : Hp} {c : CEnv} {σ : L2.St} {H : Hp} {Qd : Res → CEnv → Prop} {Q : VK} (hc : Conc X.K PL G B c σ H) (hd' : dBin f da db c Qd)
    (hq : ∀ r c' B' H' v, Qd r c' → Same B B' → CR X.K PL G B' c' σ H' r v → Q v H') : tOp r (lE X.K PL da) (lE X.K PL db) σ H Q := by
  refine ⟨G, B, c, _, hc, hd', fun r1 c1 B1 H1 v h1 e1 cr1 => ?_⟩
  obtain ⟨B2, e2, hc2, hh⟩ := cr1.hold
  refine ⟨G, B2, c1, _, hc2, h1, fun r2 c2 B3 H2 u h2 e3 cr2 => ?_⟩
  obtain ⟨B4, e4, hc4, hh2⟩ := cr2.hold
  obtain ⟨x, y, rx, ry, hf⟩ := on2_ok hc4 (hh.mono (e3.trans e4)) hh2 h2
  exact ho G B4 c2 σ H2 x y v u _ Q hc4 rx ry hf fun z w B' H' hk e' cr => hq z c2 B' H' w hk (((e1.trans e2).trans e3).trans (e4.trans e')) cr
theorem qe_op {a b : Expr} {op : Operator} {pos : Pos} {r : R2} {f : OpF} {da db : DE} (ho : OpR X (binaryOp op) r) (hd' : OpD X.K PL r f) (ha : QE X PL a da) (hb : QE X PL b db) : QE X PL (.BinOp a op b pos) (dBin f da db) :=
  q_of (pe_op ho ha.pe hb.pe) fun _ _ _ _ _ _ _ hc hd2 hq => bin_ok hd' hc hd2 hq
theorem qe_ix {a b : Expr} {pos : Pos} {r : R2} {f : OpF} {da db : DE} (ho : IxR X r) (hd' : OpD X.K PL r f) (ha : QE X PL a da) (hb : QE X PL b db) (hs : PlainIx b) : QE X PL (.Subscript a b pos) (dBin f da db) :=
  q_of (pe_ix ho ha.pe hb.pe hs) fun _ _ _ _ _ _ _ hc hd2 hq => bin_ok hd' hc hd2 hq
theorem qe_cmp {a b : Expr} {op : CmpOp} {pos : Pos} {r : R2} {f : OpF} {da db : DE} (ho : OpR X (compareOp op) r) (hd' : OpD X.K PL r f) (ha : QE X PL a da) (hb : QE X PL b db) (h1 : behindInMarks op b = false) : QE X PL (.Compare a [op] [b] pos) (dBin f da db) :=
  q_of (pe_cmpR ho ha.pe hb.pe h1) fun _ _ _ _ _ _ _ hc hd2 hq => bin_ok hd' hc hd2 hq
theorem OpR.or {f : Value → Value → Sem Value} {r r' : R2} (h : OpR X f r) (h' : OpR X f r') : OpR X f (fun x y H Q => r x y H Q ∨ r' x y H Q) := by
  intro pins s σ H x y v u Q I rx ry hw
  rcases hw with hw | hw
  · exact h pins s σ H x y v u Q I rx ry hw
  · exact h' pins s σ H x y v u Q I rx ry hw
end
end Cl

namespace Cl
open PySem PySem.Spec PyProof.Rows L2

theorem sz7 {n : Nat} (h : n ≤ 10000000) : n ≤ sizeLine := Nat.le_trans h (by rw [sizeLine_eq]; decide)
theorem sz7l {n : Nat} (h : n < 10000000) : n < sizeLine := Nat.lt_of_lt_of_le h (by rw [sizeLine_eq]; decide)
theorem S_app (s t : List Nat) : S s ++ S t = S (s ++ t) := by
  apply Str.ext'
  show (S s).cps ++ (S t).cps = (S (s ++ t)).cps
  simp [S]

/-! ### operators on data -/
section
variable {K : PySem.W.Frag} {PL : PoolP}
theorem opd_or {r r' : R2} {f g : OpF} (h : OpD K PL r f) (h' : OpD K PL r' g) : OpD K PL (fun x y H Q => r x y H Q ∨ r' x y H Q) (fun x y k => f x y k ∨ g x y k) := by
  intro G B c σ H x y v u k Q hc rx ry hf hq
  rcases hf with hf | hf
  · exact .inl (h G B c σ H x y v u k Q hc rx ry hf hq)
  · exact .inr (h' G B c σ H x y v u k Q hc rx ry hf hq)
/-- two ints in, a value out -/
def fI (C : Int → Int → Prop) (g : Int → Int → Dt) : OpF
  | .int i, .int j, k => C i j ∧ k (.dat (g i j))
  | _, _, _ => False
theorem opd_I {C D : Int → Int → Prop} {g : Int → Int → Int} (hD : ∀ i j, D i j → C i j) : OpD K PL (rI C fun i j => .int (g i j)) (fI D fun i j => .int (g i j)) := by
  intro G B c σ H x y v u k Q hc rx ry hf hq
  cases x with
  | int i =>
    cases y with
    | int j =>
      obtain ⟨h1, h2⟩ := hf
      exact ⟨i, j, rx, ry, hD i j h1, hq _ _ B H h2 (Same.refl B) ⟨hc, by unfold Rep; rfl⟩⟩
    | _ => exact hf.elim
  | _ => exact hf.elim
theorem opd_I0 {g : Int → Int → Int} : OpD K PL (rI0 fun i j => .int (g i j)) (fI (fun _ _ => True) fun i j => .int (g i j)) := by
  intro G B c σ H x y v u k Q hc rx ry hf hq
  cases x with
  | int i =>
    cases y with
    | int j =>
      obtain ⟨h1, h2⟩ := hf
      exact ⟨i, j, rx, ry, hq _ _ B H h2 (Same.refl B) ⟨hc, by unfold Rep; rfl⟩⟩
    | _ => exact hf.elim
  | _ => exact hf.elim
theorem opd_B0 {g : Int → Int → Bool} : OpD K PL (rI0 fun i j => .bl (g i j)) (fI (fun _ _ => True) fun i j => .bl (g i j)) := by
  intro G B c σ H x y v u k Q hc rx ry hf hq
  cases x with
  | int i =>
    cases y with
    | int j =>
      obtain ⟨h1, h2⟩ := hf
      exact ⟨i, j, rx, ry, hq _ _ B H h2 (Same.refl B) ⟨hc, by unfold Rep; rfl⟩⟩
    | _ => exact hf.elim
  | _ => exact hf.elim
theorem conc_lst {G : Ent} {B : Hp} {c : CEnv} {σ : L2.St} {H : Hp} {p : Addr} {l : List Dt} {xs : List V} (h : Conc K PL G B c σ H) (hp : H p = none) (r : RepL K B l xs) : CR K PL G B c σ (upd H p (.lst xs)) (.new (.lst l)) (.ref p) := Conc.newL h hp r
theorem conc_tup {G : Ent} {B : Hp} {c : CEnv} {σ : L2.St} {H : Hp} {p : Addr} {l : List Dt} {xs : List V} (h : Conc K PL G B c σ H) (hp : H p = none) (r : RepL K B l xs) :
    Same B (upd B p (.tup xs)) ∧ CR K PL G (upd B p (.tup xs)) c σ (upd H p (.tup xs)) (.dat (.tup l)) (.ref p) := by
  obtain ⟨h1, h2, h3⟩ := h.tup hp r
  exact ⟨h2, h1, h3⟩
/-- + -/
def fAdd : OpF
  | .int i, .int j, k => k (.dat (.int (i + j)))
  | .str s, .str t, k => s.length + t.length ≤ 10000000 ∧ k (.dat (.str (s ++ t)))
  | .lst l, .lst m, k => l.length + m.length ≤ 10000000 ∧ k (.new (.lst (l ++ m)))
  | .tup l, .tup m, k => l ≠ [] ∧ l.length + m.length ≤ 10000000 ∧ k (.dat (.tup (l ++ m)))
  | _, _, _ => False
def rAdd (K : PySem.W.Frag) : R2 := fun x y H Q => rI0 (fun i j => .int (i + j)) x y H Q ∨ (∃ i j, x = .str i ∧ y = .str j ∧ i.length + j.length ≤ sizeLine ∧ Q (.str (i ++ j)) H) ∨ rCat x y H Q ∨ rCatT K x y H Q
theorem opr_add {X : Cx} : OpR X (binaryOp .Add) (rAdd X.K) := OpR.or op_add (OpR.or op_add_str (OpR.or op_cat op_catT))
theorem opd_add : OpD K PL (rAdd K) fAdd := by
  intro G B c σ H x y v u k Q hc rx ry hf hq
  cases x with
  | int i =>
    cases y with
    | int j => exact .inl ⟨i, j, rx, ry, hq _ _ B H hf (Same.refl B) ⟨hc, by unfold Rep; rfl⟩⟩
    | _ => exact hf.elim
  | str s =>
    cases y with
    | str t =>
      obtain ⟨h1, h2⟩ := hf
      refine .inr (.inl ⟨S s, S t, rx, ry, by rw [S_len, S_len]; exact sz7 h1, hq _ _ B H h2 (Same.refl B) ⟨hc, by unfold Rep; rw [S_app]⟩⟩)
    | _ => exact hf.elim
  | lst l =>
    cases y with
    | lst m =>
      obtain ⟨h1, h2⟩ := hf
      obtain ⟨a, xs, rfl, e1, e2⟩ := rx
      obtain ⟨b, ys, rfl, e3, e4⟩ := ry
      refine .inr (.inr (.inl ⟨a, b, xs, ys, rfl, rfl, e1, e3, by rw [e2.length, e4.length]; exact sz7 h1, fun p hp => hq _ _ B _ h2 (Same.refl B) (conc_lst hc hp (e2.app e4))⟩))
    | _ => exact hf.elim
  | tup l =>
    cases y with
    | tup m =>
      obtain ⟨h0, h1, h2⟩ := hf
      obtain ⟨a, xs, rfl, e1, e2⟩ := rx
      obtain ⟨b, ys, rfl, e3, e4⟩ := ry
      refine .inr (.inr (.inr ⟨a, b, xs, ys, rfl, rfl, sameT hc.same e1, sameT hc.same e3, fun z => h0 ?_, by rw [e2.length, e4.length]; exact sz7 h1, fun z => ?_, fun z p hp => ?_⟩))
      · have := e2.length
        rw [z] at this
        exact List.length_eq_zero_iff.mp this.symm
      · have hm : m = [] := by
          have := e4.length
          rw [z] at this
          exact List.length_eq_zero_iff.mp this.symm
        subst hm
        subst z
        rw [List.append_nil] at h2
        exact hq _ _ B H h2 (Same.refl B) ⟨hc, by unfold Rep; exact ⟨a, xs, rfl, e1, e2⟩⟩
      · obtain ⟨h3, h4⟩ := conc_tup hc hp (e2.app e4)
        exact hq _ _ _ _ h2 h3 h4
    | _ => exact hf.elim
  | _ => exact hf.elim

/-- // and % by a positive number, shifts, bits -/
def CDiv' (_ j : Int) : Prop := 0 < j ∧ j < 1073741824
def fDiv : OpF := fI (fun _ j => 0 < j ∧ j < 1073741824) fun i j => .int (i / j)
theorem opd_div : OpD K PL (rI CDiv fun i j => .int (i / j)) fDiv := opd_I fun _ _ h => h
def fMod : OpF := fI (fun _ j => 0 < j) fun i j => .int (i % j)
theorem opd_mod : OpD K PL (rI (fun _ j => 0 < j) fun i j => .int (i % j)) fMod := opd_I fun _ _ h => h
def fSub : OpF := fI (fun _ _ => True) fun i j => .int (i - j)
theorem opd_sub : OpD K PL (rI0 fun i j => .int (i - j)) fSub := opd_I0
def fPow : OpF := fI CPow fun i j => .int (i ^ j.toNat)
theorem opd_pow : OpD K PL (rI CPow fun i j => .int (i ^ j.toNat)) fPow := opd_I fun _ _ h => h
def fShl : OpF := fI CPow fun i j => .int (i * 2 ^ j.toNat)
theorem opd_shl : OpD K PL (rI CPow fun i j => .int (i * 2 ^ j.toNat)) fShl := opd_I fun _ _ h => h
def fShr : OpF := fI (fun _ j => 0 ≤ j) fun i j => .int (i / 2 ^ j.toNat)
theorem opd_shr : OpD K PL (rI (fun _ j => 0 ≤ j) fun i j => .int (i / 2 ^ j.toNat)) fShr := opd_I fun _ _ h => h
def fAnd : OpF := fI (fun _ _ => True) fun i j => .int (Builtin.bitAnd i j)
theorem opd_and : OpD K PL (rI0 fun i j => .int (Builtin.bitAnd i j)) fAnd := opd_I0
def fOr : OpF := fI (fun _ _ => True) fun i j => .int (Builtin.bitOr i j)
theorem opd_or' : OpD K PL (rI0 fun i j => .int (Builtin.bitOr i j)) fOr := opd_I0
def fXor : OpF := fI (fun _ _ => True) fun i j => .int (Builtin.bitXor i j)
theorem opd_xor : OpD K PL (rI0 fun i j => .int (Builtin.bitXor i j)) fXor := opd_I0
/-- * of ints, of a list, of a text -/
def fMul : OpF
  | .int i, .int j, k => ((-(2 ^ 64) < i ∧ i < 2 ^ 64) ∨ (-(2 ^ 64) < j ∧ j < 2 ^ 64)) ∧ k (.dat (.int (i * j)))
  | .lst l, .int n, k => (n ≤ 10000000 ∧ -10000000 ≤ n ∧ l.length * n.toNat ≤ 10000000) ∧ k (.new (.lst (List.replicate n.toNat l).flatten))
  | .str s, .int n, k => (n ≤ 10000000 ∧ -10000000 ≤ n ∧ s.length * n.toNat ≤ 10000000) ∧ k (.dat (.str (List.replicate n.toNat s).flatten))
  | _, _, _ => False
def rMulS : R2 := fun x y H Q => ∃ z n, x = .str z ∧ y = .int n ∧ MulOk z n ∧ Q (.str (Txt.mul z n)) H
theorem opr_mulS {X : Cx} : OpR X (binaryOp .Mult) rMulS := by
  intro pins s σ H x y v u Q I rx ry h
  obtain ⟨z, n, rfl, rfl, h1, q⟩ := h
  obtain ⟨t, rfl⟩ := rx
  obtain ⟨t', rfl⟩ := ry
  exact SB.mul h1 fun t2 k => ⟨.str _, H, I.tok _, ⟨_, rfl⟩, q⟩
def rMul : R2 := fun x y H Q => rI CMul (fun i j => .int (i * j)) x y H Q ∨ rRep x y H Q ∨ rMulS x y H Q
theorem opr_mul {X : Cx} : OpR X (binaryOp .Mult) rMul := OpR.or op_mul (OpR.or op_rep opr_mulS)
theorem foldl_arr (x : Array Nat) : ∀ (n : Nat) (a : Array Nat), ((List.replicate n x).foldl (· ++ ·) a) = a ++ ((List.replicate n x.toList).flatten).toArray
  | 0, a => by simp
  | n + 1, a => by
    rw [List.replicate_succ, List.foldl_cons, foldl_arr x n, List.replicate_succ, List.flatten_cons]
    rw [Array.append_assoc]
    congr 1
    apply Array.ext'
    simp
theorem mul_S (s : List Nat) (n : Int) : Txt.mul (S s) n = S (List.replicate n.toNat s).flatten := by
  unfold Txt.mul
  by_cases h : n < 1
  · rw [if_pos h]
    have : n.toNat = 0 := by omega
    rw [this]
    rfl
  · rw [if_neg h]
    by_cases h2 : (n == 1 || (S s).length == 0) = true
    · rw [if_pos h2]
      rw [Bool.or_eq_true] at h2
      rcases h2 with h2 | h2
      · have e : n = 1 := by simpa using h2
        subst e
        simp [S]
      · have e : s.length = 0 := by
          have : (S s).length = 0 := by simpa using h2
          rw [S_len] at this
          exact this
        have : s = [] := List.length_eq_zero_iff.mp e
        subst this
        simp [S]
    · rw [if_neg h2, foldl_arr]
      simp [S]
theorem mulOk_S {s : List Nat} {n : Int} (h : n ≤ 10000000 ∧ -10000000 ≤ n ∧ s.length * n.toNat ≤ 10000000) : MulOk (S s) n := by
  obtain ⟨h1, h2, h3⟩ := h
  refine ⟨?_, fun h4 _ => ?_, fun h4 _ => ?_⟩
  · rw [Bool.or_eq_false_iff]
    exact ⟨decide_eq_false (by omega), decide_eq_false (by omega)⟩
  · rw [S_len]
    intro h5
    have h6 : (s.length : Int) ≤ 10000000 := by
      have : s.length * 1 ≤ s.length * n.toNat := Nat.mul_le_mul_left _ (by omega)
      omega
    have h7 : (10000000 : Int) ≤ (2 ^ 63 - 1) / n := by
      apply Int.le_ediv_of_mul_le (by omega)
      have : (10000000 : Int) * n ≤ 10000000 * 10000000 := Int.mul_le_mul_of_nonneg_left h1 (by decide)
      omega
    omega
  · rw [S_len]
    unfold Builtin.Str.tooLong
    exact decide_eq_false (by have := sz7 h3; omega)
theorem opd_mul : OpD K PL rMul fMul := by
  intro G B c σ H x y v u k Q hc rx ry hf hq
  cases x with
  | int i =>
    cases y with
    | int j =>
      obtain ⟨h1, h2⟩ := hf
      exact .inl ⟨i, j, rx, ry, h1, hq _ _ B H h2 (Same.refl B) ⟨hc, by unfold Rep; rfl⟩⟩
    | _ => exact hf.elim
  | lst l =>
    cases y with
    | int n =>
      obtain ⟨⟨h1, h2, h3⟩, h4⟩ := hf
      obtain ⟨a, xs, rfl, e1, e2⟩ := rx
      refine .inr (.inl ⟨a, n, xs, rfl, ry, e1, by omega, by omega, by rw [e2.length]; exact sz7 h3, fun p hp => hq _ _ B _ h4 (Same.refl B) (conc_lst hc hp (e2.rep _))⟩)
    | _ => exact hf.elim
  | str s =>
    cases y with
    | int n =>
      obtain ⟨h1, h4⟩ := hf
      refine .inr (.inr ⟨S s, n, rx, ry, mulOk_S h1, hq _ _ B _ h4 (Same.refl B) ⟨hc, by unfold Rep; rw [mul_S]⟩⟩)
    | _ => exact hf.elim
  | _ => exact hf.elim

/-! ### comparisons -/
def fLt : OpF := fI (fun _ _ => True) fun i j => .bl (decide (i < j))
def fLe : OpF := fI (fun _ _ => True) fun i j => .bl (decide (i ≤ j))
def fGt : OpF := fI (fun _ _ => True) fun i j => .bl (decide (j < i))
def fGe : OpF := fI (fun _ _ => True) fun i j => .bl (decide (j ≤ i))
mutual
def toPy : Dt → PyData
  | .non => .none
  | .bl b => .bool b
  | .int i => .int i
  | .str s => .str (S s)
  | .tup l => .tuple (toPys l)
  | .lst l => .list (toPys l)
  | .frz l => .list (toPys l)
  | .emp => .str (S [1114112])
  | .exc _ _ _ _ _ => .str (S [1114112])
def toPys : List Dt → List PyData
  | [] => []
  | d :: r => toPy d :: toPys r
end
theorem noLay : (PyData.str (S [1114112])).canLay0 = false := by
  show PyData.strOk (S [1114112]) = false
  unfold PyData.strOk S
  simp
theorem lay_cons {d : PyData} {r : List PyData} (h : PyData.canLayAll0 (d :: r) = true) : d.canLay0 = true ∧ PyData.canLayAll0 r = true := Bool.and_eq_true_iff.mp h
mutual
theorem Rep.dp {B H : Hp} (e : Same B H) : ∀ {d : Dt} {v : V}, (toPy d).canLay0 = true → Rep K B d v → Dp K H v (toPy d)
  | .non, v, _, h => by unfold Rep at h; subst h; unfold toPy; exact .non
  | .bl b, v, _, h => by unfold Rep at h; subst h; unfold toPy; exact .bl b
  | .int i, v, _, h => by unfold Rep at h; subst h; unfold toPy; exact .int i
  | .str s, v, _, h => by unfold Rep at h; subst h; unfold toPy; exact .str _
  | .tup l, v, hl, h => by
    unfold Rep at h
    obtain ⟨a, xs, h1, h2, h3⟩ := h
    subst h1
    unfold toPy at hl ⊢
    exact .tup (sameT e h2) (RepL.dp e hl h3)
  | .lst l, v, hl, h => by
    unfold Rep at h
    obtain ⟨a, xs, h1, h2, h3⟩ := h
    subst h1
    unfold toPy at hl ⊢
    exact .lst (.of (e _ _ h2)) (RepL.dp e hl h3)
  | .frz l, v, hl, h => by
    unfold Rep at h
    obtain ⟨a, xs, h1, h2, h3⟩ := h
    subst h1
    unfold toPy at hl ⊢
    exact .lst (e.seq h2) (RepL.dp e hl h3)
  | .emp, v, hl, h => by
    unfold toPy at hl
    rw [noLay] at hl
    cases hl
  | .exc _ _ _ _ _, v, hl, h => by
    unfold toPy at hl
    rw [noLay] at hl
    cases hl
theorem RepL.dp {B H : Hp} (e : Same B H) : ∀ {l : List Dt} {xs : List V}, PyData.canLayAll0 (toPys l) = true → RepL K B l xs → DpAll K H xs (toPys l)
  | [], xs, _, h => by unfold RepL at h; subst h; unfold toPys; exact .nil
  | d :: r, xs, hl, h => by
    unfold RepL at h
    obtain ⟨x, q, h1, h2, h3⟩ := h
    subst h1
    unfold toPys at hl ⊢
    obtain ⟨l1, l2⟩ := lay_cons hl
    exact .cons (Rep.dp e l1 h2) (RepL.dp e l2 h3)
end
theorem RepH.dp {B H : Hp} (e : Same B H) {d : Dt} {v : V} (hl : (toPy d).canLay0 = true) (h : RepH K B H d v) : Dp K H v (toPy d) := by
  cases d with
  | lst l =>
    obtain ⟨a, xs, rfl, h2, h3⟩ := h
    unfold toPy at hl ⊢
    exact .lst (.of h2) (h3.dp e hl)
  | tup l => exact Rep.dp e hl (by unfold Rep; exact h)
  | frz l => exact Rep.dp e hl (by unfold Rep; exact h)
  | _ => exact Rep.dp e hl (by unfold Rep; exact h)
/-- == as Python has it -/
def eqD (x y : Dt) : Bool := PyData.eqv (toPy x) (toPy y)
def shp (x : Dt) : Bool := SeqAt.shaped (toPy x)
theorem shp_lays {l : List Dt} (h : shp (.lst l) = true) : PyData.canLayAll0 (toPys l) = true := by
  have := (Bool.and_eq_true_iff.mp h).1
  unfold toPy at this
  exact this
theorem shp_lay {x : Dt} (h : shp x = true) : (toPy x).canLay0 = true := (Bool.and_eq_true_iff.mp h).1
theorem eqD_int (i j : Int) : eqD (.int i) (.int j) = decide (i = j) := by
  unfold eqD toPy PyData.eqv
  exact Bool.beq_eq_decide_eq i j
theorem eqD_bl (i j : Bool) : eqD (.bl i) (.bl j) = (i == j) := by
  unfold eqD toPy PyData.eqv
  rfl
theorem eqD_str (s t : List Nat) : eqD (.str s) (.str t) = decide (s = t) := by
  unfold eqD toPy PyData.eqv
  rw [Bool.eq_iff_iff]
  simp only [beq_iff_eq, decide_eq_true_eq]
  exact ⟨fun h => S_inj h, fun h => by rw [h]⟩
theorem shp_int (i : Int) : shp (.int i) = true := by unfold shp toPy; rfl
theorem shp_bl (i : Bool) : shp (.bl i) = true := by unfold shp toPy; rfl
theorem shp_non : shp .non = true := by unfold shp toPy; rfl
theorem shp_str (s : List Nat) (h : s.all (· < 1114112) = true) : shp (.str s) = true := by
  unfold shp toPy SeqAt.shaped
  rw [Bool.and_eq_true]
  refine ⟨?_, decide_eq_true (Nat.zero_le _)⟩
  show PyData.strOk (S s) = true
  unfold PyData.strOk S
  simpa using h
end
end Cl

namespace Cl
open PySem PySem.Spec PyProof.Rows L2

section
variable {K : PySem.W.Frag} {PL : PoolP}
/-! ### an item -/
def ixL (l : List Dt) (i : Int) (k : Res → Prop) : Prop := match atI l i with
  | some d => k (.dat d)
  | none => False
def fIx : OpF
  | .lst l, .int i, k => ixL l i k
  | .tup l, .int i, k => ixL l i k
  | .frz l, .int i, k => ixL l i k
  | .str s, .int i, k => s.length ≤ 10000000 ∧ (match atI s i with
    | some ch => k (.dat (.str [ch]))
    | none => False)
  | _, _, _ => False
theorem atI_map {B : Hp} {l : List Dt} {xs : List V} {i : Int} {d : Dt} (r : RepL K B l xs) (h : atI l i = some d) : ∃ v, atI xs i = some v ∧ Rep K B d v := by
  unfold atI at h ⊢
  rw [r.length]
  cases q : ixN l.length i with
  | none => rw [q] at h; cases h
  | some j =>
    rw [q] at h
    obtain ⟨v, h1, h2⟩ := r.get (show l[j]? = some d from h)
    exact ⟨v, h1, h2⟩
theorem opd_ix : OpD K PL (rIx K) fIx := by
  intro G B c σ H x y v u k Q hc rx ry hf hq
  have fin : ∀ {l : List Dt} {xs : List V} {i : Int}, RepL K B l xs → ixL l i k → ∃ w, atI xs i = some w ∧ Q w H := fun {l xs i} r h => by
    unfold ixL at h
    cases q : atI l i with
    | none => simp only [q] at h
    | some d =>
      simp only [q] at h
      obtain ⟨w, h1, h2⟩ := atI_map r q
      exact ⟨w, h1, hq _ _ B H h (Same.refl B) ⟨hc, h2⟩⟩
  cases x with
  | lst l =>
    cases y with
    | int i =>
      obtain ⟨a, xs, rfl, e1, e2⟩ := rx
      obtain ⟨w, h1, h2⟩ := fin e2 hf
      exact .inl ⟨a, xs, i, w, rfl, ry, .of e1, h1, h2⟩
    | _ => exact hf.elim
  | tup l =>
    cases y with
    | int i =>
      obtain ⟨a, xs, rfl, e1, e2⟩ := rx
      obtain ⟨w, h1, h2⟩ := fin e2 hf
      exact .inr (.inl ⟨a, xs, i, w, rfl, ry, sameT hc.same e1, h1, h2⟩)
    | _ => exact hf.elim
  | frz l =>
    cases y with
    | int i =>
      obtain ⟨a, xs, rfl, e1, e2⟩ := rx
      obtain ⟨w, h1, h2⟩ := fin e2 hf
      exact .inl ⟨a, xs, i, w, rfl, ry, hc.same.seq e1, h1, h2⟩
    | _ => exact hf.elim
  | str s =>
    cases y with
    | int i =>
      obtain ⟨h1, h2⟩ := hf
      cases q : atI s i with
      | none => simp only [q] at h2
      | some ch =>
        simp only [q] at h2
        exact .inr (.inr ⟨S s, i, ch, rx, ry, by rw [S_len]; exact sz7 h1, q, hq _ _ B H h2 (Same.refl B) ⟨hc, by unfold Rep; rfl⟩⟩)
    | _ => exact hf.elim
  | _ => exact hf.elim

/-! ### in -/
def flatD : Dt → Bool
  | .non => true
  | .bl _ => true
  | .int _ => true
  | .str _ => true
  | _ => false
theorem flat_rep {B : Hp} {d : Dt} {v : V} (h : Rep K B d v) (f : flatD d = true) : flatV v = true := by
  cases d with
  | non => unfold Rep at h; subst h; rfl
  | bl b => unfold Rep at h; subst h; rfl
  | int b => unfold Rep at h; subst h; rfl
  | str b => unfold Rep at h; subst h; rfl
  | _ => exact absurd (show false = true from f) Bool.false_ne_true
theorem flat_reps {B : Hp} : ∀ {l : List Dt} {xs : List V}, RepL K B l xs → l.all flatD = true → xs.all flatV = true
  | [], xs, h, _ => by unfold RepL at h; subst h; rfl
  | d :: r, xs, h, f => by
    unfold RepL at h
    obtain ⟨x, q, h1, h2, h3⟩ := h
    subst h1
    rw [List.all_cons, Bool.and_eq_true] at f
    rw [List.all_cons, Bool.and_eq_true]
    exact ⟨flat_rep h2 f.1, flat_reps h3 f.2⟩
theorem S_beq (a b : List Nat) : (S a == S b) = (a == b) := by
  rw [Bool.eq_iff_iff]
  simp only [beq_iff_eq]
  exact ⟨fun h => S_inj h, fun h => by rw [h]⟩
theorem eqV_rep {B : Hp} {d e : Dt} {v u : V} (h : Rep K B d v) (h' : Rep K B e u) (f : flatD d = true) (f' : flatD e = true) : eqV v u = eqD d e := by
  cases d with
  | non =>
    unfold Rep at h; subst h
    cases e with
    | non => unfold Rep at h'; subst h'; simp [eqV, eqD, toPy, PyData.eqv]
    | bl b => unfold Rep at h'; subst h'; simp [eqV, eqD, toPy, PyData.eqv]
    | int b => unfold Rep at h'; subst h'; simp [eqV, eqD, toPy, PyData.eqv]
    | str b => unfold Rep at h'; subst h'; simp [eqV, eqD, toPy, PyData.eqv]
    | _ => exact absurd (show false = true from f') Bool.false_ne_true
  | bl b =>
    unfold Rep at h; subst h
    cases e with
    | non => unfold Rep at h'; subst h'; simp [eqV, eqD, toPy, PyData.eqv]
    | bl b => unfold Rep at h'; subst h'; simp [eqV, eqD, toPy, PyData.eqv]
    | int b => unfold Rep at h'; subst h'; simp [eqV, eqD, toPy, PyData.eqv]
    | str b => unfold Rep at h'; subst h'; simp [eqV, eqD, toPy, PyData.eqv]
    | _ => exact absurd (show false = true from f') Bool.false_ne_true
  | int b =>
    unfold Rep at h; subst h
    cases e with
    | non => unfold Rep at h'; subst h'; simp [eqV, eqD, toPy, PyData.eqv]
    | bl b => unfold Rep at h'; subst h'; simp [eqV, eqD, toPy, PyData.eqv]
    | int b => unfold Rep at h'; subst h'; simp [eqV, eqD, toPy, PyData.eqv]
    | str b => unfold Rep at h'; subst h'; simp [eqV, eqD, toPy, PyData.eqv]
    | _ => exact absurd (show false = true from f') Bool.false_ne_true
  | str b =>
    unfold Rep at h; subst h
    cases e with
    | non => unfold Rep at h'; subst h'; simp [eqV, eqD, toPy, PyData.eqv]
    | bl b => unfold Rep at h'; subst h'; simp [eqV, eqD, toPy, PyData.eqv]
    | int b => unfold Rep at h'; subst h'; simp [eqV, eqD, toPy, PyData.eqv]
    | str b => unfold Rep at h'; subst h'; simp [eqV, eqD, toPy, PyData.eqv, S_beq]
    | _ => exact absurd (show false = true from f') Bool.false_ne_true
  | _ => exact absurd (show false = true from f) Bool.false_ne_true
theorem inV_rep {B : Hp} {d : Dt} {v : V} (h : Rep K B d v) (f : flatD d = true) : ∀ {l : List Dt} {xs : List V}, RepL K B l xs → l.all flatD = true → inV v xs = l.any fun y => eqD y d
  | [], xs, h', _ => by unfold RepL at h'; subst h'; rfl
  | e :: r, xs, h', f' => by
    unfold RepL at h'
    obtain ⟨x, q, h1, h2, h3⟩ := h'
    subst h1
    rw [List.all_cons, Bool.and_eq_true] at f'
    have ih := inV_rep h f h3 f'.2
    unfold inV at ih ⊢
    rw [List.any_cons, List.any_cons, ih, eqV_rep h2 h f'.1 f]
def one1 (s : List Nat) (k : Nat → Prop) : Prop := match s with
  | [ch] => k ch
  | _ => False
theorem one1_ok {s : List Nat} {k : Nat → Prop} (h : one1 s k) : ∃ ch, s = [ch] ∧ k ch := by
  match s, h with
  | [ch], h => exact ⟨ch, rfl, h⟩
def fIn (neg : Bool) : OpF
  | .str s, .str t, k => one1 s fun ch => k (.dat (.bl (decide (ch ∈ t) != neg)))
  | x, .lst l, k => (flatD x = true ∧ l.all flatD = true) ∧ k (.dat (.bl ((l.any fun y => eqD y x) != neg)))
  | x, .tup l, k => (flatD x = true ∧ l.all flatD = true) ∧ k (.dat (.bl ((l.any fun y => eqD y x) != neg)))
  | _, _, _ => False
def rInS (neg : Bool) : R2 := fun x y H Q => ∃ (c : Nat) (z : Str), x = .str ⟨#[c]⟩ ∧ y = .str z ∧ Q (.bl (decide (c ∈ z.cps.toList) != neg)) H
theorem opr_in {X : Cx} : OpR X (compareOp .In) (fun x y H Q => rInS false x y H Q ∨ rIn X.K false x y H Q) := by
  refine OpR.or ?_ op_in_seq
  intro pins s σ H x y v u Q I rx ry h
  obtain ⟨ch, z, h1, h2, h3⟩ := h
  rw [Bool.bne_false] at h3
  exact op_in_sign pins s σ H x y v u Q I rx ry ⟨ch, z, h1, h2, h3⟩
theorem opr_notIn {X : Cx} : OpR X (compareOp .NotIn) (fun x y H Q => rInS true x y H Q ∨ rIn X.K true x y H Q) := by
  refine OpR.or ?_ op_notIn_seq
  intro pins s σ H x y v u Q I rx ry h
  obtain ⟨ch, z, h1, h2, h3⟩ := h
  rw [Bool.bne_true] at h3
  exact op_notIn_sign pins s σ H x y v u Q I rx ry ⟨ch, z, h1, h2, h3⟩
theorem RepH.flat {B H : Hp} {d : Dt} {v : V} (h : RepH K B H d v) (f : flatD d = true) : Rep K B d v := by
  cases d with
  | non => unfold Rep; exact h
  | bl b => unfold Rep; exact h
  | int b => unfold Rep; exact h
  | str b => unfold Rep; exact h
  | _ => exact absurd (show false = true from f) Bool.false_ne_true
theorem opd_in {neg : Bool} : OpD K PL (fun x y H Q => rInS neg x y H Q ∨ rIn K neg x y H Q) (fIn neg) := by
  intro G B c σ H x y v u k Q hc rx ry hf hq
  have seq : ∀ {l : List Dt} {xs : List V} {a : Addr}, u = .ref a → (SqL K H a xs ∨ SqT K H a xs) → RepL K B l xs → ((flatD x = true ∧ l.all flatD = true) ∧ k (.dat (.bl ((l.any fun y => eqD y x) != neg)))) → rIn K neg v u H Q := fun {l xs a} hu hs r h => by
    obtain ⟨⟨h1, h2⟩, h3⟩ := h
    have rv := rx.flat h1
    refine ⟨a, xs, hu, hs, flat_rep rv h1, flat_reps r h2, ?_⟩
    have e := inV_rep rv h1 r h2
    refine hq _ _ B H h3 (Same.refl B) ⟨hc, ?_⟩
    unfold Rep
    rw [e]
    cases neg <;> simp
  cases y with
  | lst l =>
    obtain ⟨a, xs, hu, e1, e2⟩ := ry
    exact .inr (seq hu (.inl (.of e1)) e2 (by cases x <;> exact hf))
  | tup l =>
    obtain ⟨a, xs, hu, e1, e2⟩ := ry
    exact .inr (seq hu (.inr (sameT hc.same e1)) e2 (by cases x <;> exact hf))
  | str t =>
    cases x with
    | str s =>
      obtain ⟨ch, rfl, h2⟩ := one1_ok hf
      exact .inl ⟨ch, S t, rx, ry, hq _ _ B H h2 (Same.refl B) ⟨hc, by unfold Rep; rfl⟩⟩
    | _ => exact hf.elim
  | _ => cases x <;> exact hf.elim

/-! ### is None -/
def isN : Dt → Bool
  | .non => true
  | _ => false
def fIsN (neg : Bool) : OpF := fun x y k => match y with
  | .non => k (.dat (.bl (isN x != neg)))
  | _ => False
theorem non_iff {B H : Hp} {x : Dt} {v : V} (r : RepH K B H x v) : decide (v = .non) = isN x := by
  cases x with
  | non =>
    have e : v = .non := r
    subst e
    rfl
  | bl b =>
    have e : v = .bl b := r
    subst e
    rfl
  | int b =>
    have e : v = .int b := r
    subst e
    rfl
  | str b =>
    have e : v = .str (S b) := r
    subst e
    rfl
  | tup l => obtain ⟨a, xs, rfl, _⟩ := r; rfl
  | lst l => obtain ⟨a, xs, rfl, _⟩ := r; rfl
  | frz l => obtain ⟨a, xs, rfl, _⟩ := r; rfl
  | emp => obtain ⟨a, rfl, _⟩ := r; rfl
  | exc a C dd ns l => obtain ⟨rfl, _⟩ := r; rfl
theorem opd_isN : OpD K PL (fun x y H Q => y = .non ∧ Q (.bl (decide (x = .non))) H) (fIsN false) := by
  intro G B c σ H x y v u k Q hc rx ry hf hq
  cases y with
  | non => exact ⟨ry, hq _ _ B H hf (Same.refl B) ⟨hc, by unfold Rep; rw [non_iff rx, Bool.bne_false]⟩⟩
  | _ => exact hf.elim
theorem opd_notN : OpD K PL (fun x y H Q => y = .non ∧ Q (.bl (!decide (x = .non))) H) (fIsN true) := by
  intro G B c σ H x y v u k Q hc rx ry hf hq
  cases y with
  | non => exact ⟨ry, hq _ _ B H hf (Same.refl B) ⟨hc, by unfold Rep; rw [non_iff rx, Bool.bne_true]⟩⟩
  | _ => exact hf.elim
end

/-! ### == of plain values of any kinds, and of data -/
section
variable {K : PySem.W.Frag} {PL : PoolP}
def scD : Dt → Dt → Bool
  | .non, .non => true | .non, .int _ => true | .int _, .non => true | .non, .bl _ => true | .bl _, .non => true | .non, .str _ => true | .str _, .non => true
  | .int _, .int _ => true | .bl _, .bl _ => true | .str _, .str _ => true
  | .int _, .str _ => true | .str _, .int _ => true | .bl _, .str _ => true | .str _, .bl _ => true
  | _, _ => false
theorem sc_rep {B H : Hp} {d e : Dt} {v u : V} (h : RepH K B H d v) (h' : RepH K B H e u) (f : scD d e = true) : scal v u = true ∧ decide (v = u) = eqD d e := by
  cases d with
  | non =>
    have q1 : v = .non := h
    subst q1
    cases e with
    | non =>
      have q : u = .non := h'
      subst q
      exact ⟨rfl, by simp [eqD, toPy, PyData.eqv]⟩
    | bl b =>
      have q : u = .bl b := h'
      subst q
      exact ⟨rfl, by simp [eqD, toPy, PyData.eqv]⟩
    | int b =>
      have q : u = .int b := h'
      subst q
      exact ⟨rfl, by simp [eqD, toPy, PyData.eqv]⟩
    | str b =>
      have q : u = .str (S b) := h'
      subst q
      exact ⟨rfl, by simp [eqD, toPy, PyData.eqv]⟩
    | _ => exact absurd (show false = true from f) Bool.false_ne_true
  | bl a =>
    have q1 : v = .bl a := h
    subst q1
    cases e with
    | non =>
      have q : u = .non := h'
      subst q
      exact ⟨rfl, by simp [eqD, toPy, PyData.eqv]⟩
    | bl b =>
      have q : u = .bl b := h'
      subst q
      exact ⟨rfl, by cases a <;> cases b <;> simp [eqD, toPy, PyData.eqv]⟩
    | str b =>
      have q : u = .str (S b) := h'
      subst q
      exact ⟨rfl, by simp [eqD, toPy, PyData.eqv]⟩
    | _ => exact absurd (show false = true from f) Bool.false_ne_true
  | int a =>
    have q1 : v = .int a := h
    subst q1
    cases e with
    | non =>
      have q : u = .non := h'
      subst q
      exact ⟨rfl, by simp [eqD, toPy, PyData.eqv]⟩
    | int b =>
      have q : u = .int b := h'
      subst q
      exact ⟨rfl, by rw [eqD_int]; simp⟩
    | str b =>
      have q : u = .str (S b) := h'
      subst q
      exact ⟨rfl, by simp [eqD, toPy, PyData.eqv]⟩
    | _ => exact absurd (show false = true from f) Bool.false_ne_true
  | str a =>
    have q1 : v = .str (S a) := h
    subst q1
    cases e with
    | non =>
      have q : u = .non := h'
      subst q
      exact ⟨rfl, by simp [eqD, toPy, PyData.eqv]⟩
    | bl b =>
      have q : u = .bl b := h'
      subst q
      exact ⟨rfl, by simp [eqD, toPy, PyData.eqv]⟩
    | int b =>
      have q : u = .int b := h'
      subst q
      exact ⟨rfl, by simp [eqD, toPy, PyData.eqv]⟩
    | str b =>
      have q : u = .str (S b) := h'
      subst q
      refine ⟨rfl, ?_⟩
      rw [eqD_str]
      by_cases e : a = b
      · subst e
        simp
      · have : ¬ V.str (S a) = V.str (S b) := fun z => e (S_inj (V.str.inj z))
        rw [decide_eq_false this, decide_eq_false e]
    | _ => exact absurd (show false = true from f) Bool.false_ne_true
  | _ => cases e <;> exact absurd (show false = true from f) Bool.false_ne_true
def okEq (x y : Dt) : Bool := scD x y || (shp x && shp y)
def fEq : OpF := fun x y k => okEq x y = true ∧ k (.dat (.bl (eqD x y)))
def fNe : OpF := fun x y k => okEq x y = true ∧ k (.dat (.bl (!eqD x y)))
theorem opr_eq {X : Cx} (hu : X.A.units + 64 < cLine) : OpR X (compareOp .Eq) (fun x y H Q => L2.rEq x y H Q ∨ rEqD X.K x y H Q) := OpR.or op_eq (op_eqD hu)
theorem opr_ne {X : Cx} (hu : X.A.units + 64 < cLine) : OpR X (compareOp .NotEq) (fun x y H Q => L2.rNe x y H Q ∨ rNeD X.K x y H Q) := OpR.or op_ne (op_neD hu)
theorem opd_eq : OpD K PL (fun x y H Q => L2.rEq x y H Q ∨ rEqD K x y H Q) fEq := by
  intro G B c σ H x y v u k Q hc rx ry hf hq
  obtain ⟨h1, h3⟩ := hf
  unfold okEq at h1
  rw [Bool.or_eq_true, Bool.and_eq_true] at h1
  rcases h1 with h1 | ⟨h1, h2⟩
  · obtain ⟨g1, g2⟩ := sc_rep rx ry h1
    exact .inl ⟨g1, hq _ _ B H h3 (Same.refl B) ⟨hc, by unfold Rep; rw [g2]⟩⟩
  · exact .inr ⟨_, _, RepH.dp hc.same (shp_lay h1) rx, RepH.dp hc.same (shp_lay h2) ry, h1, h2, hq _ _ B H h3 (Same.refl B) ⟨hc, by unfold Rep; rfl⟩⟩
theorem opd_ne : OpD K PL (fun x y H Q => L2.rNe x y H Q ∨ rNeD K x y H Q) fNe := by
  intro G B c σ H x y v u k Q hc rx ry hf hq
  obtain ⟨h1, h3⟩ := hf
  unfold okEq at h1
  rw [Bool.or_eq_true, Bool.and_eq_true] at h1
  rcases h1 with h1 | ⟨h1, h2⟩
  · obtain ⟨g1, g2⟩ := sc_rep rx ry h1
    exact .inl ⟨g1, hq _ _ B H h3 (Same.refl B) ⟨hc, by unfold Rep; rw [g2]⟩⟩
  · exact .inr ⟨_, _, RepH.dp hc.same (shp_lay h1) rx, RepH.dp hc.same (shp_lay h2) ry, h1, h2, hq _ _ B H h3 (Same.refl B) ⟨hc, by unfold Rep; rfl⟩⟩
end

/-! ### unary -/
section
variable {X : Cx} {PL : PoolP}
abbrev UnF := Dt → (Res → Prop) → Prop
def UnD (K : PySem.W.Frag) (PL : PoolP) (r : V → Hp → VK → Prop) (f : UnF) : Prop := ∀ G B c σ H x v k (Q : VK), Conc K PL G B c σ H → RepH K B H x v → f x k →
  (∀ z w B' H', k z → Same B B' → CR K PL G B' c σ H' z w → Q w H') → r v H Q
def on1 (r : Res) (c : CEnv) (f : Dt → Prop) : Prop := match vw r c with
  | none => False
  | some x => f x
theorem on1_ok {K : PySem.W.Frag} {G : Ent} {B : Hp} {c : CEnv} {σ : L2.St} {H : Hp} {r : Res} {v : V} {f : Dt → Prop} (hc : Conc K PL G B c σ H) (h1 : Held K B σ r v) (h : on1 r c f) : ∃ x, RepH K B H x v ∧ f x := by
  unfold on1 at h
  cases q1 : vw r c with
  | none => simp only [q1] at h
  | some x =>
    simp only [q1] at h
    exact ⟨x, vw_ok hc h1 q1, h⟩
def dUn (f : UnF) (da : DE) : DE := fun c Q => da c fun r c1 => on1 (hd r) c1 fun x => f x fun z => Q z c1
theorem qe_un {a : Expr} {op : UnaryOp} {pos : Pos} {r : V → Hp → VK → Prop} {f : UnF} {da : DE} (ho : UnR X (unaryOp op) r) (hd' : UnD X.K PL r f) (ha : QE X PL a da) : QE X PL (.UnaryOp op a pos) (dUn f da) := by
  refine q_of (pe_un ho ha.pe) fun G B c σ H Qd Q hc hd2 hq => ?_
  refine ⟨G, B, c, _, hc, hd2, fun r1 c1 B1 H1 v h1 e1 cr1 => ?_⟩
  obtain ⟨B2, e2, hc2, hh⟩ := cr1.hold
  obtain ⟨x, rx, hf⟩ := on1_ok hc2 hh h1
  exact hd' G B2 c1 σ H1 x v _ Q hc2 rx hf fun z w B' H' hk e' cr => hq z c1 B' H' w hk ((e1.trans e2).trans e') cr
def fNeg : UnF
  | .int i, k => k (.dat (.int (-i)))
  | _, _ => False
theorem und_neg {K : PySem.W.Frag} : UnD K PL (rU fun i => .int (-i)) fNeg := by
  intro G B c σ H x v k Q hc rx hf hq
  cases x with
  | int i => exact ⟨i, rx, hq _ _ B H hf (Same.refl B) ⟨hc, by unfold Rep; rfl⟩⟩
  | _ => exact hf.elim

/-! ### tests -/
/-- truth of data -/
def truD : Dt → Option Bool
  | .non => some false
  | .bl b => some b
  | .int i => some (i != 0)
  | .str s => if s.length ≤ 10000000 then some (!s.isEmpty) else none
  | .lst l => some (!l.isEmpty)
  | .tup l => some (!l.isEmpty)
  | .frz l => some (!l.isEmpty)
  | .emp => none
  | .exc _ _ _ _ _ => none
theorem isEmpty_len {α β : Type} {l : List α} {m : List β} (h : l.length = m.length) : l.isEmpty = m.isEmpty := by
  cases l <;> cases m <;> simp at h ⊢
theorem truD_ok {K : PySem.W.Frag} {B H : Hp} {x : Dt} {v : V} {b : Bool} (e : Same B H) (r : RepH K B H x v) (h : truD x = some b) : TruV K v H b := by
  cases x with
  | non =>
    have e1 : v = .non := r
    subst e1
    exact (Option.some.inj h).symm
  | bl k =>
    have e1 : v = .bl k := r
    subst e1
    exact (Option.some.inj h).symm
  | int k =>
    have e1 : v = .int k := r
    subst e1
    exact (Option.some.inj h).symm
  | str s =>
    have e1 : v = .str (S s) := r
    subst e1
    have h' : (if s.length ≤ 10000000 then some (!s.isEmpty) else none) = some b := h
    by_cases hl : s.length ≤ 10000000
    · rw [if_pos hl] at h'
      have h := h'
      have e2 : (!s.isEmpty) = b := Option.some.inj h
      refine ⟨by rw [S_len]; exact sz7 hl, ?_⟩
      rw [← e2, S_len]
      cases s with
      | nil => rfl
      | cons a t =>
        have : ((a :: t).length : Int) ≠ 0 := by simp; omega
        simp
        omega
    · rw [if_neg hl] at h'
      cases h'
  | lst l =>
    obtain ⟨a, xs, e1, h1, h2⟩ := r
    subst e1
    exact .inl ⟨xs, .of h1, by rw [isEmpty_len h2.length]; exact (Option.some.inj h).symm⟩
  | tup l =>
    obtain ⟨a, xs, e1, h1, h2⟩ := r
    subst e1
    exact .inr (.inl ⟨xs, sameT e h1, by rw [isEmpty_len h2.length]; exact (Option.some.inj h).symm⟩)
  | frz l =>
    obtain ⟨a, xs, e1, h1, h2⟩ := r
    subst e1
    exact .inl ⟨xs, e.seq h1, by rw [isEmpty_len h2.length]; exact (Option.some.inj h).symm⟩
  | emp => cases h
  | exc a C dd ns l => cases h
def tru (x : Dt) (k : Bool → Prop) : Prop := match truD x with
  | some b => k b
  | none => False
def dTru (da : DE) : DT := fun c Q => da c fun r c1 => on1 (hd r) c1 fun x => tru x fun b => Q b c1
theorem qt_of {e : Expr} {t : TT} {dt : DT} (h : PT X e t) (hw : ∀ G B c σ H Qd Q, Conc X.K PL G B c σ H → dt c Qd → (∀ b c' B' H', Qd b c' → Same B B' → Conc X.K PL G B' c' σ H' → Q b H') → t σ H Q) : QT X PL e dt :=
  ⟨PT.weak h fun σ H Q ⟨G, B, c, Qd, h1, h2, h3⟩ => hw G B c σ H Qd Q h1 h2 h3⟩
theorem qt_val {e : Expr} {da : DE} (ha : QE X PL e da) (he : ∀ whole, isTrue e X.env whole = (do let v ← whole; standAt e.pos; holding [v] (truthy v)) := by intro _; rfl) : QT X PL e (dTru da) := by
  refine qt_of (pt_truth ha.pe he) fun G B c σ H Qd Q hc hd2 hq => ?_
  refine ⟨G, B, c, _, hc, hd2, fun r1 c1 B1 H1 v h1 e1 cr1 => ?_⟩
  obtain ⟨B2, e2, hc2, hh⟩ := cr1.hold
  obtain ⟨x, rx, hf⟩ := on1_ok hc2 hh h1
  unfold tru at hf
  cases q : truD x with
  | none => simp only [q] at hf
  | some b =>
    simp only [q] at hf
    exact ⟨b, truD_ok hc2.same rx q, hq b c1 B2 H1 hf (e1.trans e2) hc2⟩
def blR (r : Res) (k : Bool → Prop) : Prop := match r with
  | .dat (.bl b) => k b
  | _ => False
/-- a comparison as a test -/
def dBinT (f : OpF) (da db : DE) : DT := fun c Q => da c fun r c1 => db c1 fun s c2 => on2 (hd r) (hd s) c2 fun x y => f x y fun z => blR z fun b => Q b c2
theorem qt_cmp {a b : Expr} {op : CmpOp} {pos : Pos} {r : R2} {f : OpF} {da db : DE} (ho : OpR X (compareOp op) r) (hd' : OpD X.K PL r f) (ha : QE X PL a da) (hb : QE X PL b db) (h1 : behindInMarks op b = false) : QT X PL (.Compare a [op] [b] pos) (dBinT f da db) := by
  refine qt_of (pt_cmpR ho ha.pe hb.pe h1) fun G B c σ H Qd Q hc hd2 hq => ?_
  refine bin_ok (PL := PL) hd' hc (Qd := fun z c2 => blR z fun b => Qd b c2) hd2 fun z c' B' H' w hz e cr => ?_
  cases z with
  | dat d =>
    cases d with
    | bl b =>
      obtain ⟨h2, h3⟩ := cr
      unfold Rep at h3
      exact ⟨b, h3, hq b c' B' H' hz e h2⟩
    | _ => exact hz.elim
  | _ => exact hz.elim
def dAnd (t u : DT) : DT := fun c Q => t c fun b c1 => br b (u c1 Q) (Q false c1)
def dOr (t u : DT) : DT := fun c Q => t c fun b c1 => br b (Q true c1) (u c1 Q)
def dNot (t : DT) : DT := fun c Q => t c fun b c1 => Q (!b) c1
theorem qw_of {e : Expr} {t : TT} {dt : DT} (h : PW X e t) (hw : ∀ G B c σ H Qd Q, Conc X.K PL G B c σ H → dt c Qd → (∀ b c' B' H', Qd b c' → Same B B' → Conc X.K PL G B' c' σ H' → Q b H') → t σ H Q) : QW X PL e dt :=
  ⟨PW.weak h fun σ H Q ⟨G, B, c, Qd, h1, h2, h3⟩ => hw G B c σ H Qd Q h1 h2 h3⟩
theorem QW.t {e : Expr} {dt : DT} (h : QW X PL e dt) : QT X PL e dt := ⟨h.pw.pt⟩
theorem qw_and1 {a : Expr} {pos : Pos} {t : DT} (h : QT X PL a t) : QW X PL (.BoolOp .And [a] pos) t := ⟨pw_and1 h.pt⟩
theorem qw_or1 {a : Expr} {pos : Pos} {t : DT} (h : QT X PL a t) : QW X PL (.BoolOp .Or [a] pos) t := ⟨pw_or1 h.pt⟩
theorem qw_and {a b : Expr} {rest : List Expr} {pos : Pos} {t u : DT} (h : QT X PL a t) (h' : QW X PL (.BoolOp .And (b :: rest) pos) u) : QW X PL (.BoolOp .And (a :: b :: rest) pos) (dAnd t u) := by
  refine qw_of (pw_and h.pt h'.pw) fun G B c σ H Qd Q hc hd2 hq => ?_
  refine ⟨G, B, c, _, hc, hd2, fun b c1 B1 H1 h1 e1 hc1 => ?_⟩
  cases b with
  | true =>
    rw [if_pos rfl]
    exact ⟨G, B1, c1, _, hc1, h1, fun b' c2 B2 H2 h2 e2 hc2 => hq b' c2 B2 H2 h2 (e1.trans e2) hc2⟩
  | false =>
    rw [if_neg Bool.false_ne_true]
    exact hq false c1 B1 H1 h1 e1 hc1
theorem qw_or {a b : Expr} {rest : List Expr} {pos : Pos} {t u : DT} (h : QT X PL a t) (h' : QW X PL (.BoolOp .Or (b :: rest) pos) u) : QW X PL (.BoolOp .Or (a :: b :: rest) pos) (dOr t u) := by
  refine qw_of (pw_or h.pt h'.pw) fun G B c σ H Qd Q hc hd2 hq => ?_
  refine ⟨G, B, c, _, hc, hd2, fun b c1 B1 H1 h1 e1 hc1 => ?_⟩
  cases b with
  | true =>
    rw [if_pos rfl]
    exact hq true c1 B1 H1 h1 e1 hc1
  | false =>
    rw [if_neg Bool.false_ne_true]
    exact ⟨G, B1, c1, _, hc1, h1, fun b' c2 B2 H2 h2 e2 hc2 => hq b' c2 B2 H2 h2 (e1.trans e2) hc2⟩
theorem qt_not {a : Expr} {pos : Pos} {t : DT} (h : QT X PL a t) : QT X PL (.UnaryOp .Not a pos) (dNot t) := by
  refine qt_of (pt_not h.pt) fun G B c σ H Qd Q hc hd2 hq => ?_
  exact ⟨G, B, c, _, hc, hd2, fun b c1 B1 H1 h1 e1 hc1 => hq (!b) c1 B1 H1 h1 e1 hc1⟩
/-! as values -/
def blD (r : Res) (k : Bool → Prop) : Prop := match r with
  | .dat (.bl b) => k b
  | _ => False
theorem blD_ok {K : PySem.W.Frag} {G : Ent} {B : Hp} {c : CEnv} {σ : L2.St} {H : Hp} {r : Res} {v : V} {k : Bool → Prop} (cr : CR K PL G B c σ H r v) (h : blD r k) : ∃ b, v = .bl b ∧ k b := by
  cases r with
  | dat d =>
    cases d with
    | bl b =>
      obtain ⟨_, h2⟩ := cr
      unfold Rep at h2
      exact ⟨b, h2, h⟩
    | _ => exact h.elim
  | _ => exact h.elim
def dAndV (da db : DE) : DE := fun c Q => da c fun r c1 => blD r fun b => br b (db c1 Q) (Q (.dat (.bl false)) c1)
def dOrV (da db : DE) : DE := fun c Q => da c fun r c1 => blD r fun b => br b (Q (.dat (.bl true)) c1) (db c1 Q)
def dNotV (da : DE) : DE := fun c Q => da c fun r c1 => blD r fun b => Q (.dat (.bl (!b))) c1
theorem qe_one {op : BoolOp} {a : Expr} {pos : Pos} {da : DE} (h : QE X PL a da) : QE X PL (.BoolOp op [a] pos) da := ⟨pe_one h.pe⟩
theorem qe_and {a b : Expr} {rest : List Expr} {pos : Pos} {da db : DE} (h : QE X PL a da) (h' : QE X PL (.BoolOp .And (b :: rest) pos) db) : QE X PL (.BoolOp .And (a :: b :: rest) pos) (dAndV da db) := by
  refine q_of (pe_and h.pe h'.pe) fun G B c σ H Qd Q hc hd2 hq => ?_
  refine ⟨G, B, c, _, hc, hd2, fun r c1 B1 H1 v h1 e1 cr => ?_⟩
  obtain ⟨b, rfl, h2⟩ := blD_ok cr h1
  refine ⟨b, rfl, ?_⟩
  cases b with
  | true =>
    rw [if_pos rfl]
    exact ⟨G, B1, c1, _, cr.conc, h2, fun r' c2 B2 H2 v' h3 e2 cr2 => hq r' c2 B2 H2 v' h3 (e1.trans e2) cr2⟩
  | false =>
    rw [if_neg Bool.false_ne_true]
    exact hq _ c1 B1 H1 _ h2 e1 ⟨cr.conc, by unfold Rep; rfl⟩
theorem qe_or {a b : Expr} {rest : List Expr} {pos : Pos} {da db : DE} (h : QE X PL a da) (h' : QE X PL (.BoolOp .Or (b :: rest) pos) db) : QE X PL (.BoolOp .Or (a :: b :: rest) pos) (dOrV da db) := by
  refine q_of (pe_or h.pe h'.pe) fun G B c σ H Qd Q hc hd2 hq => ?_
  refine ⟨G, B, c, _, hc, hd2, fun r c1 B1 H1 v h1 e1 cr => ?_⟩
  obtain ⟨b, rfl, h2⟩ := blD_ok cr h1
  refine ⟨b, rfl, ?_⟩
  cases b with
  | true =>
    rw [if_pos rfl]
    exact hq _ c1 B1 H1 _ h2 e1 ⟨cr.conc, by unfold Rep; rfl⟩
  | false =>
    rw [if_neg Bool.false_ne_true]
    exact ⟨G, B1, c1, _, cr.conc, h2, fun r' c2 B2 H2 v' h3 e2 cr2 => hq r' c2 B2 H2 v' h3 (e1.trans e2) cr2⟩
theorem qe_not {a : Expr} {pos : Pos} {da : DE} (h : QE X PL a da) : QE X PL (.UnaryOp .Not a pos) (dNotV da) := by
  refine q_of (pe_not h.pe) fun G B c σ H Qd Q hc hd2 hq => ?_
  refine ⟨G, B, c, _, hc, hd2, fun r c1 B1 H1 v h1 e1 cr => ?_⟩
  obtain ⟨b, rfl, h2⟩ := blD_ok cr h1
  exact ⟨b, rfl, hq _ c1 B1 H1 _ h2 e1 ⟨cr.conc, by unfold Rep; rfl⟩⟩
def dIfE (t : DT) (da db : DE) : DE := fun c Q => t c fun b c1 => br b (da c1 Q) (db c1 Q)
theorem qe_if {t a b : Expr} {pos : Pos} {dt : DT} {da db : DE} (ht : QT X PL t dt) (h : QE X PL a da) (h' : QE X PL b db) : QE X PL (.IfExp t a b pos) (dIfE dt da db) := by
  refine q_of (pe_ifExp ht.pt h.pe h'.pe) fun G B c σ H Qd Q hc hd2 hq => ?_
  refine ⟨G, B, c, _, hc, hd2, fun b c1 B1 H1 h1 e1 hc1 => ?_⟩
  cases b with
  | true =>
    rw [if_pos rfl]
    exact ⟨G, B1, c1, _, hc1, h1, fun r' c2 B2 H2 v' h3 e2 cr2 => hq r' c2 B2 H2 v' h3 (e1.trans e2) cr2⟩
  | false =>
    rw [if_neg Bool.false_ne_true]
    exact ⟨G, B1, c1, _, hc1, h1, fun r' c2 B2 H2 v' h3 e2 cr2 => hq r' c2 B2 H2 v' h3 (e1.trans e2) cr2⟩
end
end Cl

namespace Cl
open PySem PySem.Spec PyProof.Rows L2

section
variable {X : Cx} {PL : PoolP}
/-! ### arguments, each as it is -/
def aNil : DA := fun c Q => Q [] c
def aCons (de : DE) (da : DA) : DA := fun c Q => de c fun r c1 => da c1 fun rs c2 => Q (hd r :: rs) c2
theorem qa_of {es : List Expr} {t : TA} {da : DA} (h : PA X es t) (hw : ∀ G B c σ H Qd Q, Conc X.K PL G B c σ H → da c Qd → (∀ rs c' B' H' vs, Qd rs c' → Same B B' → Conc X.K PL G B' c' σ H' → HeldL X.K B' σ rs vs → Q vs H') → t σ H Q) : QA X PL es da :=
  ⟨PA.weak h fun σ H Q ⟨G, B, c, Qd, h1, h2, h3⟩ => hw G B c σ H Qd Q h1 h2 h3⟩
theorem qa_nil : QA X PL [] aNil := by
  refine qa_of pa_nil fun G B c σ H Qd Q hc hd2 hq => ?_
  exact hq [] c B H [] hd2 (Same.refl B) hc rfl
theorem qa_cons {e : Expr} {es : List Expr} {de : DE} {da : DA} (h : QE X PL e de) (h' : QA X PL es da) (hs : starEach (e :: es) X.env = (false, eval e X.env) :: starEach es X.env := by rfl) : QA X PL (e :: es) (aCons de da) := by
  refine qa_of (pa_cons h.pe h'.pa hs) fun G B c σ H Qd Q hc hd2 hq => ?_
  refine ⟨G, B, c, _, hc, hd2, fun r c1 B1 H1 v h1 e1 cr => ?_⟩
  obtain ⟨B2, e2, hc2, hh⟩ := cr.hold
  refine ⟨G, B2, c1, _, hc2, h1, fun rs c2 B3 H2 vs h3 e3 hc3 hl => ?_⟩
  exact hq _ c2 B3 H2 _ h3 ((e1.trans e2).trans e3) hc3 ⟨v, vs, rfl, hh.mono e3, hl⟩
/-! ### arguments made plain data -/
abbrev DL := CEnv → (List Dt → CEnv → Prop) → Prop
def lL (K : PySem.W.Frag) (PL : PoolP) (da : DL) : TA := fun σ H Q => ∃ G B c Qd, Conc K PL G B c σ H ∧ da c Qd ∧ ∀ ds c' B' H' vs, Qd ds c' → Same B B' → Conc K PL G B' c' σ H' → RepL K B' ds vs → Q vs H'
structure QL (X : Cx) (PL : PoolP) (es : List Expr) (da : DL) : Prop where
  pa : PA X es (lL X.K PL da)
def lNil : DL := fun c Q => Q [] c
def lCons (de : DE) (da : DL) : DL := fun c Q => de c fun r c1 => asD r c1 fun d c2 => da c2 fun ds c3 => Q (d :: ds) c3
theorem ql_of {es : List Expr} {t : TA} {da : DL} (h : PA X es t) (hw : ∀ G B c σ H Qd Q, Conc X.K PL G B c σ H → da c Qd → (∀ rs c' B' H' vs, Qd rs c' → Same B B' → Conc X.K PL G B' c' σ H' → RepL X.K B' rs vs → Q vs H') → t σ H Q) : QL X PL es da :=
  ⟨PA.weak h fun σ H Q ⟨G, B, c, Qd, h1, h2, h3⟩ => hw G B c σ H Qd Q h1 h2 h3⟩
theorem ql_nil : QL X PL [] lNil := by
  refine ql_of pa_nil fun G B c σ H Qd Q hc hd2 hq => ?_
  exact hq [] c B H [] hd2 (Same.refl B) hc .nil
theorem ql_cons {e : Expr} {es : List Expr} {de : DE} {da : DL} (h : QE X PL e de) (h' : QL X PL es da) (hs : starEach (e :: es) X.env = (false, eval e X.env) :: starEach es X.env := by rfl) : QL X PL (e :: es) (lCons de da) := by
  refine ql_of (pa_cons h.pe h'.pa hs) fun G B c σ H Qd Q hc hd2 hq => ?_
  refine ⟨G, B, c, _, hc, hd2, fun r c1 B1 H1 v h1 e1 cr => ?_⟩
  obtain ⟨B2, c2, d, e2, hc2, rd, h2⟩ := asD_ok cr h1
  refine ⟨G, B2, c2, _, hc2, h2, fun rs c3 B3 H2 vs h3 e3 hc3 hl => ?_⟩
  exact hq _ c3 B3 H2 _ h3 ((e1.trans e2).trans e3) hc3 (.cons (rd.mono e3) hl)

/-! ### displays -/
def dTup (da : DL) : DE := fun c Q => da c fun ds c1 => ds.length ≤ 10000000 ∧ Q (.dat (.tup ds)) c1
def dLst (da : DL) : DE := fun c Q => da c fun ds c1 => ds.length ≤ 10000000 ∧ Q (.new (.lst ds)) c1
theorem qe_tup {es : List Expr} {x1 : Nat} {pos : Pos} {da : DL} (h : QL X PL es da) : QE X PL (.Tuple es x1 pos) (dTup da) := by
  refine q_of (pe_tup h.pa) fun G B c σ H Qd Q hc hd2 hq => ?_
  refine ⟨G, B, c, _, hc, hd2, fun ds c1 B1 H1 vs h1 e1 hc1 rl => ?_⟩
  obtain ⟨h2, h3⟩ := h1
  refine ⟨by rw [rl.length]; exact sz7 h2, fun p hp => ?_⟩
  obtain ⟨e2, cr⟩ := conc_tup hc1 hp rl
  exact hq _ c1 _ _ _ h3 (e1.trans e2) cr
theorem qe_lst {es : List Expr} {pos : Pos} {da : DL} (h : QL X PL es da) : QE X PL (.List es pos) (dLst da) := by
  refine q_of (pe_lst h.pa) fun G B c σ H Qd Q hc hd2 hq => ?_
  refine ⟨G, B, c, _, hc, hd2, fun ds c1 B1 H1 vs h1 e1 hc1 rl => ?_⟩
  obtain ⟨h2, h3⟩ := h1
  exact ⟨by rw [rl.length]; exact sz7 h2, fun p hp => hq _ c1 _ _ _ h3 e1 (conc_lst hc1 hp rl)⟩

/-! ### calls of built-ins -/
abbrev CallF := List Dt → (Res → Prop) → Prop
def RepHs (K : PySem.W.Frag) (B H : Hp) : List Dt → List V → Prop
  | [], vs => vs = []
  | d :: ds, vs => ∃ v ws, vs = v :: ws ∧ RepH K B H d v ∧ RepHs K B H ds ws
def CallD (K : PySem.W.Frag) (PL : PoolP) (r : List V → Hp → VK → Prop) (f : CallF) : Prop := ∀ G B c σ H xs vs k (Q : VK), Conc K PL G B c σ H → RepHs K B H xs vs → f xs k →
  (∀ z w B' H', k z → Same B B' → CR K PL G B' c σ H' z w → Q w H') → r vs H Q
def vws : List Res → CEnv → (List Dt → Prop) → Prop
  | [], _, k => k []
  | r :: rs, c, k => on1 r c fun x => vws rs c fun xs => k (x :: xs)
theorem vws_ok {K : PySem.W.Frag} {G : Ent} {B : Hp} {c : CEnv} {σ : L2.St} {H : Hp} (hc : Conc K PL G B c σ H) : ∀ {rs : List Res} {vs : List V} {k : List Dt → Prop}, HeldL K B σ rs vs → vws rs c k → ∃ xs, RepHs K B H xs vs ∧ k xs
  | [], vs, k, h, hk => ⟨[], h, hk⟩
  | r :: rs, vs, k, h, hk => by
    obtain ⟨v, ws, h1, h2, h3⟩ := h
    obtain ⟨x, rx, hf⟩ := on1_ok hc h2 hk
    obtain ⟨xs, rxs, hf2⟩ := vws_ok hc h3 hf
    exact ⟨x :: xs, ⟨v, ws, h1, rx, rxs⟩, hf2⟩
def dCB (f : CallF) (da : DA) : DE := fun c Q => da c fun rs c1 => vws rs c1 fun xs => f xs fun z => Q z c1
theorem cb_ok {r : List V → Hp → VK → Prop} {f : CallF} (hf : CallD X.K PL r f) {da : DA} {G : Ent} {B : Hp} {c : CEnv} {σ : L2.St} {H : Hp} {Qd : Res → CEnv → Prop} {Q : VK} (hc : Conc X.K PL G B c σ H) (hd2 : dCB f da c Qd)
    (hq : ∀ r c' B' H' v, Qd r c' → Same B B' → CR X.K PL G B' c' σ H' r v → Q v H') : tCB r (lA X.K PL da) σ H Q := by
  refine ⟨G, B, c, _, hc, hd2, fun rs c1 B1 H1 vs h1 e1 hc1 hl => ?_⟩
  obtain ⟨xs, rx, h2⟩ := vws_ok hc1 hl h1
  exact hf G B1 c1 σ H1 xs vs _ Q hc1 rx h2 fun z w B' H' hk e' cr => hq z c1 B' H' w hk (e1.trans e') cr
theorem qe_cb {x : Str} {p pos : Pos} {e : Expr} {es : List Expr} {id : String} {r : List V → Hp → VK → Prop} {f : CallF} {da : DA} (hc : CallR X (.builtin id) r) (hf : CallD X.K PL r f) (hg : Gl X x) (hm : X.mg x = none) (hv : bootBuiltins x = some (.builtin id)) (ha : QA X PL (e :: es) da)
    (hn : x ≠ "__name__" := by decide) (hdb : (x == ("__debug__" : Str)) = false := by decide) (he : starEach (e :: es) X.env = (false, eval e X.env) :: starEach es X.env := by rfl) (hpl : (backTo pos (starEach es X.env)).any (·.1) = false := by rfl) :
    QE X PL (.Call (.Name x p) (e :: es) [] pos) (dCB f da) :=
  q_of (pe_callB hc hg hm hv ha.pa hn hdb he hpl) fun _ _ _ _ _ _ _ hc hd2 hq => cb_ok hf hc hd2 hq
theorem qe_cty {x : Str} {p pos : Pos} {e : Expr} {es : List Expr} {T : String} {r : List V → Hp → VK → Prop} {f : CallF} {da : DA} (hc : CallR X (.type T) r) (hf : CallD X.K PL r f) (hg : Gl X x) (hm : X.mg x = none) (hv : bootBuiltins x = some (.type T)) (ha : QA X PL (e :: es) da)
    (hn : x ≠ "__name__" := by decide) (hdb : (x == ("__debug__" : Str)) = false := by decide) (he : starEach (e :: es) X.env = (false, eval e X.env) :: starEach es X.env := by rfl) (hpl : (backTo pos (starEach es X.env)).any (·.1) = false := by rfl) :
    QE X PL (.Call (.Name x p) (e :: es) [] pos) (dCB f da) :=
  q_of (pe_callTy hc hg hm hv ha.pa hn hdb he hpl) fun _ _ _ _ _ _ _ hc hd2 hq => cb_ok hf hc hd2 hq
theorem repHs1 {K : PySem.W.Frag} {B H : Hp} {d : Dt} {vs : List V} (h : RepHs K B H [d] vs) : ∃ v, vs = [v] ∧ RepH K B H d v := by
  obtain ⟨v, ws, h1, h2, h3⟩ := h
  have e : ws = [] := h3
  subst e
  exact ⟨v, h1, h2⟩
theorem repHs2 {K : PySem.W.Frag} {B H : Hp} {d e : Dt} {vs : List V} (h : RepHs K B H [d, e] vs) : ∃ v u, vs = [v, u] ∧ RepH K B H d v ∧ RepH K B H e u := by
  obtain ⟨v, ws, h1, h2, h3⟩ := h
  obtain ⟨u, rfl, h4⟩ := repHs1 h3
  exact ⟨v, u, h1, h2, h4⟩
def arg1 (g : Dt → (Res → Prop) → Prop) : CallF := fun xs k => match xs with
  | [x] => g x k
  | _ => False
def arg2 (g : Dt → Dt → (Res → Prop) → Prop) : CallF := fun xs k => match xs with
  | [x, y] => g x y k
  | _ => False
theorem arg1_ok {g : Dt → (Res → Prop) → Prop} {xs : List Dt} {k : Res → Prop} (h : arg1 g xs k) : ∃ x, xs = [x] ∧ g x k := by
  cases xs with
  | nil => exact h.elim
  | cons x r =>
    cases r with
    | nil => exact ⟨x, rfl, h⟩
    | cons y r => exact h.elim
theorem arg2_ok {g : Dt → Dt → (Res → Prop) → Prop} {xs : List Dt} {k : Res → Prop} (h : arg2 g xs k) : ∃ x y, xs = [x, y] ∧ g x y k := by
  cases xs with
  | nil => exact h.elim
  | cons x r =>
    cases r with
    | nil => exact h.elim
    | cons y r =>
      cases r with
      | nil => exact ⟨x, y, rfl, h⟩
      | cons z r => exact h.elim
/-- len -/
def lenD (x : Dt) (k : Res → Prop) : Prop := match x with
  | .lst l => k (.dat (.int l.length))
  | .tup l => k (.dat (.int l.length))
  | .frz l => k (.dat (.int l.length))
  | .str s => s.length ≤ 10000000 ∧ k (.dat (.int s.length))
  | _ => False
def fLen : CallF := arg1 lenD
def rLenA (K : PySem.W.Frag) : List V → Hp → VK → Prop := fun xs H Q => (∃ p ys, xs = [.ref p] ∧ (SqL K H p ys ∨ SqT K H p ys) ∧ Q (.int ys.length) H) ∨ (∃ z, xs = [.str z] ∧ z.length ≤ sizeLine ∧ Q (.int z.length) H)
theorem cr_lenA : CallR X (.builtin "len") (rLenA X.K) := CallR.or call_len_seq call_len_str
theorem cd_len {K : PySem.W.Frag} : CallD K PL (rLenA K) fLen := by
  intro G B c σ H xs vs k Q hc rx hf hq
  obtain ⟨x, rfl, hf⟩ := arg1_ok hf
  cases x with
  | lst l =>
    obtain ⟨v, rfl, a, ys, rfl, h1, h2⟩ := repHs1 rx
    exact .inl ⟨a, ys, rfl, .inl (.of h1), hq _ _ B H hf (Same.refl B) ⟨hc, by unfold Rep; rw [h2.length]⟩⟩
  | tup l =>
    obtain ⟨v, rfl, a, ys, rfl, h1, h2⟩ := repHs1 rx
    exact .inl ⟨a, ys, rfl, .inr (sameT hc.same h1), hq _ _ B H hf (Same.refl B) ⟨hc, by unfold Rep; rw [h2.length]⟩⟩
  | frz l =>
    obtain ⟨v, rfl, a, ys, rfl, h1, h2⟩ := repHs1 rx
    exact .inl ⟨a, ys, rfl, .inl (hc.same.seq h1), hq _ _ B H hf (Same.refl B) ⟨hc, by unfold Rep; rw [h2.length]⟩⟩
  | str s =>
    obtain ⟨v, rfl, h1⟩ := repHs1 rx
    have e : v = .str (S s) := h1
    subst e
    exact .inr ⟨S s, rfl, by rw [S_len]; exact sz7 hf.1, hq _ _ B H hf.2 (Same.refl B) ⟨hc, by unfold Rep; rw [S_len]⟩⟩
  | _ => exact hf.elim
/-- int(..), abs, min, max -/
def int1D (x : Dt) (k : Res → Prop) : Prop := match x with
  | .int i => k (.dat (.int i))
  | .bl b => k (.dat (.int (if b then 1 else 0)))
  | _ => False
def fInt1 : CallF := arg1 int1D
theorem cd_int1 {K : PySem.W.Frag} : CallD K PL (fun xs H Q => (∃ i, xs = [.int i] ∧ Q (.int i) H) ∨ ∃ k, xs = [.bl k] ∧ Q (.int (if k then 1 else 0)) H) fInt1 := by
  intro G B c σ H xs vs k Q hc rx hf hq
  obtain ⟨x, rfl, hf⟩ := arg1_ok hf
  cases x with
  | int i =>
    obtain ⟨v, rfl, h1⟩ := repHs1 rx
    have e : v = .int i := h1
    subst e
    exact .inl ⟨i, rfl, hq _ _ B H hf (Same.refl B) ⟨hc, by unfold Rep; rfl⟩⟩
  | bl b =>
    obtain ⟨v, rfl, h1⟩ := repHs1 rx
    have e : v = .bl b := h1
    subst e
    exact .inr ⟨b, rfl, hq _ _ B H hf (Same.refl B) ⟨hc, by unfold Rep; rfl⟩⟩
  | _ => exact hf.elim
def absD (x : Dt) (k : Res → Prop) : Prop := match x with
  | .int i => k (.dat (.int (if i < 0 then -i else i)))
  | _ => False
def fAbs : CallF := arg1 absD
theorem cd_abs {K : PySem.W.Frag} : CallD K PL (fun xs H Q => ∃ i, xs = [.int i] ∧ Q (.int (if i < 0 then -i else i)) H) fAbs := by
  intro G B c σ H xs vs k Q hc rx hf hq
  obtain ⟨x, rfl, hf⟩ := arg1_ok hf
  cases x with
  | int i =>
    obtain ⟨v, rfl, h1⟩ := repHs1 rx
    have e : v = .int i := h1
    subst e
    exact ⟨i, rfl, hq _ _ B H hf (Same.refl B) ⟨hc, by unfold Rep; rfl⟩⟩
  | _ => exact hf.elim
def fMin2 : CallF := arg2 (fI (fun _ _ => True) fun i j => .int (min i j))
theorem fI_ok {C : Int → Int → Prop} {g : Int → Int → Dt} {x y : Dt} {k : Res → Prop} (h : fI C g x y k) : ∃ i j, x = .int i ∧ y = .int j ∧ C i j ∧ k (.dat (g i j)) := by
  cases x with
  | int i =>
    cases y with
    | int j => exact ⟨i, j, rfl, rfl, h.1, h.2⟩
    | _ => exact h.elim
  | _ => exact h.elim
theorem cd_min2 {K : PySem.W.Frag} : CallD K PL (fun xs H Q => ∃ i j, xs = [.int i, .int j] ∧ Q (.int (if j < i then j else i)) H) fMin2 := by
  intro G B c σ H xs vs k Q hc rx hf hq
  obtain ⟨x, y, rfl, hf⟩ := arg2_ok hf
  obtain ⟨i, j, rfl, rfl, _, hf⟩ := fI_ok hf
  obtain ⟨v, u, rfl, h1, h2⟩ := repHs2 rx
  have e : v = .int i := h1
  have e2 : u = .int j := h2
  subst e e2
  refine ⟨i, j, rfl, hq _ _ B H hf (Same.refl B) ⟨hc, ?_⟩⟩
  unfold Rep
  have : (if j < i then j else i) = min i j := by split <;> omega
  rw [this]
def fMax2 : CallF := arg2 (fI (fun _ _ => True) fun i j => .int (max i j))
theorem cd_max2 {K : PySem.W.Frag} : CallD K PL (fun xs H Q => ∃ i j, xs = [.int i, .int j] ∧ Q (.int (if j > i then j else i)) H) fMax2 := by
  intro G B c σ H xs vs k Q hc rx hf hq
  obtain ⟨x, y, rfl, hf⟩ := arg2_ok hf
  obtain ⟨i, j, rfl, rfl, _, hf⟩ := fI_ok hf
  obtain ⟨v, u, rfl, h1, h2⟩ := repHs2 rx
  have e : v = .int i := h1
  have e2 : u = .int j := h2
  subst e e2
  refine ⟨i, j, rfl, hq _ _ B H hf (Same.refl B) ⟨hc, ?_⟩⟩
  unfold Rep
  have : (if j > i then j else i) = max i j := by split <;> omega
  rw [this]
/-- tuple(..), list(..) of a list or a tuple -/
def tupleD (x : Dt) (k : Res → Prop) : Prop := match x with
  | .lst l => k (.dat (.tup l))
  | .tup l => k (.dat (.tup l))
  | _ => False
def fTuple : CallF := arg1 tupleD
theorem cd_tuple {K : PySem.W.Frag} : CallD K PL (fun xs H Q => ∃ p ys, xs = [.ref p] ∧ ((SqL K H p ys ∧ ∀ l, H l = none → Q (.ref l) (upd H l (.tup ys))) ∨ (SqT K H p ys ∧ Q (.ref p) H))) fTuple := by
  intro G B c σ H xs vs k Q hc rx hf hq
  obtain ⟨x, rfl, hf⟩ := arg1_ok hf
  cases x with
  | lst l =>
    obtain ⟨v, rfl, a, ys, rfl, h1, h2⟩ := repHs1 rx
    refine ⟨a, ys, rfl, .inl ⟨.of h1, fun p hp => ?_⟩⟩
    obtain ⟨e2, cr⟩ := conc_tup hc hp h2
    exact hq _ _ _ _ hf e2 cr
  | tup l =>
    obtain ⟨v, rfl, a, ys, rfl, h1, h2⟩ := repHs1 rx
    exact ⟨a, ys, rfl, .inr ⟨sameT hc.same h1, hq _ _ B H hf (Same.refl B) ⟨hc, by unfold Rep; exact ⟨a, ys, rfl, h1, h2⟩⟩⟩⟩
  | _ => exact hf.elim
def listD (x : Dt) (k : Res → Prop) : Prop := match x with
  | .lst l => k (.new (.lst l))
  | .tup l => k (.new (.lst l))
  | _ => False
def fList : CallF := arg1 listD
theorem cd_list {K : PySem.W.Frag} : CallD K PL (fun xs H Q => ∃ p ys, xs = [.ref p] ∧ (SqL K H p ys ∨ SqT K H p ys) ∧ ∀ l, H l = none → Q (.ref l) (upd H l (.lst ys))) fList := by
  intro G B c σ H xs vs k Q hc rx hf hq
  obtain ⟨x, rfl, hf⟩ := arg1_ok hf
  cases x with
  | lst l =>
    obtain ⟨v, rfl, a, ys, rfl, h1, h2⟩ := repHs1 rx
    exact ⟨a, ys, rfl, .inl (.of h1), fun p hp => hq _ _ _ _ hf (Same.refl B) (conc_lst hc hp h2)⟩
  | tup l =>
    obtain ⟨v, rfl, a, ys, rfl, h1, h2⟩ := repHs1 rx
    exact ⟨a, ys, rfl, .inr (sameT hc.same h1), fun p hp => hq _ _ _ _ hf (Same.refl B) (conc_lst hc hp h2)⟩
  | _ => exact hf.elim

/-! ### slices -/
def dNoPart : CEnv → (Option Int → CEnv → Prop) → Prop := fun c Q => Q none c
def dPart (de : DE) : CEnv → (Option Int → CEnv → Prop) → Prop := fun c Q => de c fun r c1 => match r with
  | .dat (.int i) => Q (some i) c1
  | _ => False
def lO (K : PySem.W.Frag) (PL : PoolP) (dp : CEnv → (Option Int → CEnv → Prop) → Prop) : TO := fun σ H Q => ∃ G B c Qd, Conc K PL G B c σ H ∧ dp c Qd ∧ ∀ o c' B' H', Qd o c' → Same B B' → Conc K PL G B' c' σ H' → Q o H'
structure QO (X : Cx) (PL : PoolP) (e : Option Expr) (dp : CEnv → (Option Int → CEnv → Prop) → Prop) : Prop where
  po : PO X e (lO X.K PL dp)
theorem PO.weak {e : Option Expr} {t t' : TO} (h : PO X e t) (hw : ∀ σ H Q, t' σ H Q → t σ H Q) : PO X e t' := ⟨fun pins s σ H Q I q => h.run pins s σ H Q I (hw _ _ _ q)⟩
theorem qo_none : QO X PL none dNoPart := ⟨PO.weak po_none fun σ H Q ⟨G, B, c, Qd, h1, h2, h3⟩ => h3 _ _ _ _ h2 (Same.refl B) h1⟩
theorem qo_some {e : Expr} {de : DE} (h : QE X PL e de) : QO X PL (some e) (dPart de) := ⟨PO.weak (po_some h.pe) fun σ H Q ⟨G, B, c, Qd, h1, h2, h3⟩ => by
  refine ⟨G, B, c, _, h1, h2, fun r c1 B1 H1 v hr e1 cr => ?_⟩
  cases r with
  | dat d =>
    cases d with
    | int i =>
      obtain ⟨c2, r2⟩ := cr
      unfold Rep at r2
      exact ⟨i, r2, h3 _ _ _ _ hr e1 c2⟩
    | _ => exact hr.elim
  | _ => exact hr.elim⟩
/-- the piece of a row from lo to hi -/
def cut {α : Type} (l : List α) (lo hi : Option Int) : List α := (l.drop (HT.sIx l.length 0 lo)).take (HT.sIx l.length l.length hi - HT.sIx l.length 0 lo)
theorem cut_rep {K : PySem.W.Frag} {B : Hp} {l : List Dt} {xs : List V} (h : RepL K B l xs) (lo hi : Option Int) : RepL K B (cut l lo hi) (cutV xs lo hi) := by
  unfold cut cutV
  rw [h.length]
  exact (h.drop _).take _
def fSl (x : Dt) (lo hi : Option Int) (k : Res → Prop) : Prop := match x with
  | .lst l => k (.new (.lst (cut l lo hi)))
  | .tup l => ¬ (HT.sIx l.length 0 lo = 0 ∧ HT.sIx l.length l.length hi = l.length) ∧ k (.dat (.tup (cut l lo hi)))
  | .str s => s.length ≤ 10000000 ∧ k (.dat (.str (cut s lo hi)))
  | _ => False
def dSl (da : DE) (dl dh : CEnv → (Option Int → CEnv → Prop) → Prop) : DE := fun c Q => da c fun r c1 => dl c1 fun lo c2 => dh c2 fun hi c3 => on1 (hd r) c3 fun x => fSl x lo hi fun z => Q z c3
theorem qe_sl {e : Expr} {lo hi : Option Expr} {p2 pos : Pos} {da : DE} {dl dh : CEnv → (Option Int → CEnv → Prop) → Prop} (h : QE X PL e da) (h1 : QO X PL lo dl) (h2 : QO X PL hi dh) : QE X PL (.Subscript e (.Slice lo hi none p2) pos) (dSl da dl dh) := by
  refine q_of (pe_slice (SlR.or sl_list (SlR.or sl_tup sl_str)) h.pe h1.po h2.po) fun G B c σ H Qd Q hc hd2 hq => ?_
  refine ⟨G, B, c, _, hc, hd2, fun r c1 B1 H1 v g1 e1 cr => ?_⟩
  obtain ⟨B2, e2, hc2, hh⟩ := cr.hold
  refine ⟨G, B2, c1, _, hc2, g1, fun o1 c2 B3 H2 g2 e3 hc3 => ?_⟩
  refine ⟨G, B3, c2, _, hc3, g2, fun o2 c3 B4 H3 g3 e4 hc4 => ?_⟩
  obtain ⟨x, rx, hf⟩ := on1_ok hc4 (hh.mono (e3.trans e4)) g3
  have ee : Same B B4 := ((e1.trans e2).trans e3).trans e4
  cases x with
  | lst l =>
    obtain ⟨a, xs, rfl, q1, q2⟩ := rx
    exact .inl ⟨a, xs, rfl, .of q1, fun p hp => hq _ _ B4 _ _ hf ee (conc_lst hc4 hp (cut_rep q2 _ _))⟩
  | tup l =>
    obtain ⟨a, xs, rfl, q1, q2⟩ := rx
    obtain ⟨f1, f2⟩ := hf
    refine .inr (.inl ⟨a, xs, rfl, sameT hc4.same q1, by rw [q2.length]; exact f1, fun p hp => ?_⟩)
    obtain ⟨e5, cr5⟩ := conc_tup hc4 hp (cut_rep q2 o1 o2)
    exact hq _ _ _ _ _ f2 (ee.trans e5) cr5
  | str s =>
    have q : v = .str (S s) := rx
    subst q
    obtain ⟨f1, f2⟩ := hf
    refine .inr (.inr ⟨S s, rfl, by rw [S_len]; exact sz7 f1, hq _ _ B4 _ _ f2 ee ⟨hc4, ?_⟩⟩)
    unfold Rep cutS cut
    rw [S_len]
    rfl
  | _ => exact hf.elim

/-! ### statements -/
theorem qs_of {st : Stmt} {t : TS} {ds : DS} (h : PS X st t) (hw : ∀ G B c σ H E D, Conc X.K PL G B c σ H → ds E c → (∀ c' B' σ' H', E.nx c' → Same B B' → Conc X.K PL G B' c' σ' H' → D.nx σ' H') →
  (∀ r c' B' σ' H' v, E.rt r c' → CR X.K PL G B' c' σ' H' r v → D.rt v H') → (∀ c' B' σ' H', E.bk c' → Same B B' → Conc X.K PL G B' c' σ' H' → D.bk σ' H') → (∀ c' B' σ' H', E.ct c' → Same B B' → Conc X.K PL G B' c' σ' H' → D.ct σ' H') → t D σ H) : QS X PL st ds :=
  ⟨PS.weak h fun D σ H ⟨G, B, c, E, h1, h2, h3, h4, h5, h6⟩ => hw G B c σ H E D h1 h2 h3 h4 h5 h6⟩
def dNext : DS := fun E c => E.nx c
def dSeq (s t : DS) : DS := fun E c => s { E with nx := t E } c
theorem qss_nil : QSs X PL [] dNext := ⟨PSs.weak pss_nil fun D σ H ⟨G, B, c, E, h1, h2, h3, h4, h5, h6⟩ => h3 _ _ _ _ h2 (Same.refl B) h1⟩
theorem qss_cons {st : Stmt} {rest : List Stmt} {s t : DS} (h : QS X PL st s) (h' : QSs X PL rest t) : QSs X PL (st :: rest) (dSeq s t) :=
  ⟨PSs.weak (pss_cons h.ps h'.pss) fun D σ H ⟨G, B, c, E, h1, h2, h3, h4, h5, h6⟩ => ⟨G, B, c, { E with nx := t E }, h1, h2, fun c' B' σ' H' q e hc' => ⟨G, B', c', E, hc', q, fun c2 B2 σ2 H2 q2 e2 => h3 c2 B2 σ2 H2 q2 (e.trans e2), h4, fun c2 B2 σ2 H2 q2 e2 => h5 c2 B2 σ2 H2 q2 (e.trans e2), fun c2 B2 σ2 H2 q2 e2 => h6 c2 B2 σ2 H2 q2 (e.trans e2)⟩, h4, h5, h6⟩⟩
theorem qss_one {st : Stmt} {s : DS} (h : QS X PL st s) : QSs X PL [st] s := ⟨pss_one h.ps⟩
def dBreak : DS := fun E c => E.bk c
def dCont : DS := fun E c => E.ct c
theorem qs_pass {pos : Pos} : QS X PL (.Pass pos) dNext := qs_of ps_pass fun G B c σ H E D h1 h2 h3 h4 h5 h6 => h3 _ _ _ _ h2 (Same.refl B) h1
theorem qs_break {pos : Pos} : QS X PL (.Break pos) dBreak := qs_of ps_break fun G B c σ H E D h1 h2 h3 h4 h5 h6 => h5 _ _ _ _ h2 (Same.refl B) h1
theorem qs_cont {pos : Pos} : QS X PL (.Continue pos) dCont := qs_of ps_continue fun G B c σ H E D h1 h2 h3 h4 h5 h6 => h6 _ _ _ _ h2 (Same.refl B) h1
def dDrop (de : DE) : DS := fun E c => de c fun _ c1 => E.nx c1
theorem qs_expr {e : Expr} {pos : Pos} {de : DE} (h : QE X PL e de) (hs : swapsWith e none pos.line X.env = pure false := by rfl) : QS X PL (.Expr e pos) (dDrop de) := by
  refine qs_of (ps_expr h.pe hs) fun G B c σ H E D h1 h2 h3 h4 h5 h6 => ?_
  exact ⟨G, B, c, _, h1, h2, fun r c1 B1 H1 v q e1 cr => h3 _ _ _ _ q e1 cr.conc⟩
/-- what a def hands back: an own object goes out of its hands -/
def toRet (r : Res) (c : CEnv) (k : Res → CEnv → Prop) : Prop := match r with
  | .dat d => k (.dat d) c
  | .new o => k (.new o) c
  | .sl i => match gt c i with
    | .dat d => k (.dat d) c
    | .own o => k (.sl i) c
    | _ => False
def dRet (de : DE) : DS := fun E c => de c fun r c1 => toRet r c1 E.rt
theorem qs_ret {e : Expr} {pos : Pos} {de : DE} (h : QE X PL e de) : QS X PL (.Return (some e) pos) (dRet de) := by
  refine qs_of (ps_ret h.pe) fun G B c σ H E D h1 h2 h3 h4 h5 h6 => ?_
  refine ⟨G, B, c, _, h1, h2, fun r c1 B1 H1 v q e1 cr => ?_⟩
  cases r with
  | dat d => exact h4 _ _ _ _ _ _ q cr
  | new o => exact h4 _ _ _ _ _ _ q cr
  | sl i =>
    unfold toRet at q
    cases g : gt c1 i with
    | dat d =>
      simp only [g] at q
      obtain ⟨v', q1, q2⟩ := cr.1.getDat g
      have e := cr.2
      rw [q1] at e
      cases e
      exact h4 _ _ _ _ _ _ q ⟨cr.1, q2⟩
    | own o =>
      simp only [g] at q
      exact h4 _ _ _ _ _ _ q cr
    | no => simp only [g] at q
    | arg o => simp only [g] at q
def dRetN : DS := fun E c => E.rt (.dat .non) c
theorem qs_retN {pos : Pos} : QS X PL (.Return none pos) dRetN := by
  refine qs_of ps_retN fun G B c σ H E D h1 h2 h3 h4 h5 h6 => ?_
  exact h4 _ _ _ _ _ _ h2 ⟨h1, by unfold Rep; rfl⟩
def dIf (t : DT) (a b : DS) : DS := fun E c => t c fun k c1 => br k (a E c1) (b E c1)
theorem qs_if {t : Expr} {a b : List Stmt} {pos : Pos} {dt : DT} {da db : DS} (ht : QT X PL t dt) (ha : QSs X PL a da) (hb : QSs X PL b db) : QS X PL (.If t a b pos) (dIf dt da db) := by
  refine qs_of (ps_if ht.pt ha.pss hb.pss) fun G B c σ H E D h1 h2 h3 h4 h5 h6 => ?_
  refine ⟨G, B, c, _, h1, h2, fun k c1 B1 H1 q e1 hc1 => ?_⟩
  cases k with
  | true =>
    rw [if_pos rfl]
    exact ⟨G, B1, c1, E, hc1, q, fun c2 B2 σ2 H2 q2 e2 => h3 c2 B2 σ2 H2 q2 (e1.trans e2), h4, fun c2 B2 σ2 H2 q2 e2 => h5 c2 B2 σ2 H2 q2 (e1.trans e2), fun c2 B2 σ2 H2 q2 e2 => h6 c2 B2 σ2 H2 q2 (e1.trans e2)⟩
  | false =>
    rw [if_neg Bool.false_ne_true]
    exact ⟨G, B1, c1, E, hc1, q, fun c2 B2 σ2 H2 q2 e2 => h3 c2 B2 σ2 H2 q2 (e1.trans e2), h4, fun c2 B2 σ2 H2 q2 e2 => h5 c2 B2 σ2 H2 q2 (e1.trans e2), fun c2 B2 σ2 H2 q2 e2 => h6 c2 B2 σ2 H2 q2 (e1.trans e2)⟩
/-- a name is given what an expression gave -/
def put (i : Nat) (r : Res) (c : CEnv) (k : CEnv → Prop) : Prop := match r with
  | .dat d => k (c.set i (.dat d))
  | .new o => i < c.length ∧ k (c.set i (.own o))
  | .sl j => match gt c j with
    | .dat d => k (c.set i (.dat d))
    | .own (.lst l) => k ((c.set j (.dat (.lst l))).set i (.dat (.lst l)))
    | _ => False
theorem put_ok {K : PySem.W.Frag} {G : Ent} {B : Hp} {c : CEnv} {σ : L2.St} {H : Hp} {i : Nat} {r : Res} {v : V} {k : CEnv → Prop} (cr : CR K PL G B c σ H r v) (h : put i r c k) : ∃ B' c', k c' ∧ Same B B' ∧ Conc K PL G B' c' (σ.set i (some v)) H := by
  cases r with
  | dat d => exact ⟨B, _, h, Same.refl B, cr.1.setDat cr.2⟩
  | new o => exact ⟨B, _, h.2, Same.refl B, Conc.setNew h.1 cr⟩
  | sl j =>
    unfold put at h
    cases g : gt c j with
    | dat d =>
      simp only [g] at h
      obtain ⟨v', q1, q2⟩ := cr.1.getDat g
      have e := cr.2
      rw [q1] at e
      cases e
      exact ⟨B, _, h, Same.refl B, cr.1.setDat q2⟩
    | own o =>
      cases o with
      | lst l =>
        simp only [g] at h
        obtain ⟨B', e1, e2, e3⟩ := cr.1.freezeAt (gt_get g (by simp)) cr.2
        exact ⟨B', _, h, e1, e2.setDat e3⟩
      | pool => simp only [g] at h
    | no => simp only [g] at h
    | arg o => simp only [g] at h
def dAsg (i : Nat) (de : DE) : DS := fun E c => de c fun r c1 => put i r c1 E.nx
theorem qs_set {i : Nat} {x : Str} {e : Expr} {de : DE} {pos pos' : Pos} (h : QE X PL e de) (hN : X.N.Nodup) (hi : X.N[i]? = some x) (hx : Loc X.env.scope x) (hs : swapsWith e (some (.Name x pos')) pos.line X.env = pure false := by rfl)
    (hf : X.fn x = true ∨ X.env.scope.names.lookup x = some .local := by first | exact .inl rfl | exact .inr rfl | assumption) : QS X PL (.Assign [.Name x pos'] e pos) (dAsg i de) := by
  refine qs_of (ps_set hN hi hx h.pe hs hf) fun G B c σ H E D h1 h2 h3 h4 h5 h6 => ?_
  refine ⟨G, B, c, _, h1, h2, fun r c1 B1 H1 v q e1 cr => ?_⟩
  obtain ⟨B', c', q1, q0, q2⟩ := put_ok cr q
  exact h3 _ _ _ _ q1 (e1.trans q0) q2
/-- x op= e on data -/
def dAug (i : Nat) (f : OpF) (de : DE) : DS := fun E c => match gt c i with
  | .dat x => de c fun r c1 => on1 (hd r) c1 fun y => f x y fun z => put i z c1 E.nx
  | _ => False
theorem qs_aug {i : Nat} {x : Str} {e : Expr} {de : DE} {op : Operator} {ti : TIp} {f : OpF} {pos pos' : Pos} (h : QE X PL e de) (hN : X.N.Nodup) (hi : X.N[i]? = some x) (hx : Loc X.env.scope x) (ho : PIp X op ti) (hf' : OpD X.K PL ti f)
    (hf : X.fn x = true ∨ X.env.scope.names.lookup x = some .local := by first | exact .inl rfl | exact .inr rfl | assumption) : QS X PL (.AugAssign (.Name x pos') op e pos) (dAug i f de) := by
  refine qs_of (ps_aug hN hi hx h.pe ho hf) fun G B c σ H E D h1 h2 h3 h4 h5 h6 => ?_
  unfold dAug at h2
  cases g : gt c i with
  | dat d =>
    simp only [g] at h2
    obtain ⟨v, q1, q2⟩ := h1.getDat g
    refine ⟨v, q1, G, B, c, _, h1, h2, fun r c1 B1 H1 u q e1 cr => ?_⟩
    obtain ⟨B2, e2, hc2, hh⟩ := cr.hold
    obtain ⟨y, ry, hf2⟩ := on1_ok hc2 hh q
    refine hf' G B2 c1 σ H1 d y v u _ _ hc2 ((q2.mono (e1.trans e2)).toH hc2.same) ry hf2 fun z w B' H' hk e' cr' => ?_
    obtain ⟨B'', c', p1, p0, p2⟩ := put_ok cr' hk
    exact h3 _ _ _ _ p1 (((e1.trans e2).trans e').trans p0) p2
  | no => simp only [g] at h2
  | own o => simp only [g] at h2
  | arg o => simp only [g] at h2
end
end Cl

namespace Cl
open PySem PySem.Spec PyProof.Rows L2

section
variable {X : Cx} {PL : PoolP}
/-! ### targets -/
abbrev DG := Dt → CEnv → (CEnv → Prop) → Prop
abbrev DGs := List Dt → CEnv → (CEnv → Prop) → Prop
def lG (K : PySem.W.Frag) (PL : PoolP) (g : DG) : TG := fun v σ H Q => ∃ G B c d Qd, Conc K PL G B c σ H ∧ Rep K B d v ∧ g d c Qd ∧ ∀ c' B' σ' H', Qd c' → Same B B' → Conc K PL G B' c' σ' H' → σ'.length = σ.length → Q σ' H'
def lGs (K : PySem.W.Frag) (PL : PoolP) (g : DGs) : TGs := fun vs σ H Q => ∃ G B c ds Qd, Conc K PL G B c σ H ∧ RepL K B ds vs ∧ g ds c Qd ∧ ∀ c' B' σ' H', Qd c' → Same B B' → Conc K PL G B' c' σ' H' → σ'.length = σ.length → Q σ' H'
structure QG (X : Cx) (PL : PoolP) (e : Expr) (g : DG) : Prop where
  pg : PG X e (lG X.K PL g)
structure QGs (X : Cx) (PL : PoolP) (es : List Expr) (g : DGs) : Prop where
  pgs : PGs X es (lGs X.K PL g)
theorem PG.weak {e : Expr} {t t' : TG} (h : PG X e t) (hw : ∀ v σ H Q, t' v σ H Q → t v σ H Q) : PG X e t' := ⟨fun pins s σ H v u Q I r q => h.run pins s σ H v u Q I r (hw _ _ _ _ q)⟩
theorem PGs.weak {e : List Expr} {t t' : TGs} (h : PGs X e t) (hw : ∀ v σ H Q, t' v σ H Q → t v σ H Q) : PGs X e t' := ⟨fun pins s σ H v u Q I r q => h.run pins s σ H v u Q I r (hw _ _ _ _ q)⟩
def gN (i : Nat) : DG := fun d c Q => Q (c.set i (.dat d))
theorem qg_name {i : Nat} {x : Str} {pos : Pos} (hN : X.N.Nodup) (hi : X.N[i]? = some x) (hx : Loc X.env.scope x) (hf : X.fn x = true ∨ X.env.scope.names.lookup x = some .local := by first | exact .inl rfl | exact .inr rfl | assumption) : QG X PL (.Name x pos) (gN i) :=
  ⟨PG.weak (pg_name hN hi hx hf) fun v σ H Q ⟨G, B, c, d, Qd, h1, h2, h3, h4⟩ => h4 _ B _ H h3 (Same.refl B) (h1.setDat h2) (by rw [List.length_set])⟩
def gsNil : DGs := fun ds c Q => ds = [] ∧ Q c
def gsCons (g : DG) (gs : DGs) : DGs := fun ds c Q => match ds with
  | d :: r => g d c fun c1 => gs r c1 Q
  | [] => False
theorem qgs_nil : QGs X PL [] gsNil := ⟨PGs.weak pgs_nil fun vs σ H Q ⟨G, B, c, ds, Qd, h1, h2, h3, h4⟩ => by
  obtain ⟨rfl, h5⟩ := h3
  unfold RepL at h2
  exact ⟨h2, h4 _ _ _ _ h5 (Same.refl B) h1 rfl⟩⟩
theorem qgs_cons {e : Expr} {es : List Expr} {g : DG} {gs : DGs} (h : QG X PL e g) (h' : QGs X PL es gs) (hs : (assignEach (e :: es) X.env).map (·.2) = assign e X.env :: (assignEach es X.env).map (·.2) := by rfl) : QGs X PL (e :: es) (gsCons g gs) :=
  ⟨PGs.weak (pgs_cons h.pg h'.pgs hs) fun vs σ H Q ⟨G, B, c, ds, Qd, h1, h2, h3, h4⟩ => by
    cases ds with
    | nil => exact h3.elim
    | cons d r =>
      unfold RepL at h2
      obtain ⟨x, xs, e1, r1, r2⟩ := h2
      refine ⟨x, xs, e1, G, B, c, d, _, h1, r1, h3, fun c1 B1 σ1 H1 q1 s1 hc1 l1 => ?_⟩
      exact ⟨G, B1, c1, r, _, hc1, r2.mono s1, q1, fun c2 B2 σ2 H2 q2 s2 hc2 l2 => h4 _ _ _ _ q2 (s1.trans s2) hc2 (l2.trans l1)⟩⟩
/-- (a, b, ..) = a tuple -/
def gT (n : Nat) (gs : DGs) : DG := fun d c Q => match d with
  | .tup l => l.length = n ∧ gs l c Q
  | _ => False
theorem qg_tup {es : List Expr} {k : Nat} {gs : DGs} {n : Nat} {pos : Pos} (hc : X.calm = true) (h : QGs X PL es gs) (hn : (assignEach es X.env).length = n := by rfl) (hst : (assignEach es X.env).findIdx? (·.1) = none := by rfl) : QG X PL (.Tuple es k pos) (gT n gs) :=
  ⟨PG.weak (pg_tup hc h.pgs hn hst) fun v σ H Q ⟨G, B, c, d, Qd, h1, h2, h3, h4⟩ => by
    cases d with
    | tup l =>
      unfold Rep at h2
      obtain ⟨a, xs, e1, r1, r2⟩ := h2
      obtain ⟨h5, h6⟩ := h3
      exact ⟨a, xs, e1, sameT h1.same r1, by rw [r2.length]; exact h5, G, B, c, l, _, h1, r2, h6, h4⟩
    | _ => exact h3.elim⟩
/-- target = e, the target a tuple -/
def dAsgG (g : DG) (de : DE) : DS := fun E c => de c fun r c1 => asD r c1 fun d c2 => g d c2 E.nx
theorem qs_asg {tg e : Expr} {de : DE} {g : DG} {pos : Pos} (he : QE X PL e de) (hg : QG X PL tg g) (hs : swapsWithSole [tg] e pos.line X.env = pure false := by rfl) (hw : swappedStores [tg] e X.env = pure none := by rfl)
    (h1 : (assignEach [tg] X.env).map (·.2) = [assign tg X.env] := by rfl) : QS X PL (.Assign [tg] e pos) (dAsgG g de) := by
  refine qs_of (ps_asg he.pe hg.pg hs hw h1) fun G B c σ H E D h1 h2 h3 h4 h5 h6 => ?_
  refine ⟨G, B, c, _, h1, h2, fun r c1 B1 H1 v q e1 cr => ?_⟩
  obtain ⟨B2, c2, d, e2, hc2, rd, q2⟩ := asD_ok cr q
  exact ⟨G, B2, c2, d, _, hc2, rd, q2, fun c3 B3 σ3 H3 q3 e3 hc3 _ => h3 _ _ _ _ q3 ((e1.trans e2).trans e3) hc3⟩
/-- a, b = e1, e2 with names -/
def dPar (i j : Nat) (da : DL) : DS := fun E c => da c fun ds c1 => match ds with
  | [d, e] => E.nx ((c1.set i (.dat d)).set j (.dat e))
  | _ => False
theorem qs_par {i j : Nat} {x y : Str} {a b : Expr} {da : DL} {px py pt pos : Pos} {kt k2 : Nat} {pt2 : Pos} (ha : QL X PL [a, b] da) (hc : X.calm = true) (hN : X.N.Nodup) (hi : X.N[i]? = some x) (hj : X.N[j]? = some y) (hij : i ≠ j)
    (hx : X.env.scope.names.lookup x = some .local) (hy : X.env.scope.names.lookup y = some .local)
    (hw : swappedStores [.Tuple [.Name x px, .Name y py] kt pt] (.Tuple [a, b] k2 pt2) X.env = pure (some [x, y]))
    (hs : swapsWithSole [.Tuple [.Name x px, .Name y py] kt pt] (.Tuple [a, b] k2 pt2) pos.line X.env = pure false := by rfl) :
    QS X PL (.Assign [.Tuple [.Name x px, .Name y py] kt pt] (.Tuple [a, b] k2 pt2) pos) (dPar i j da) := by
  refine qs_of (ps_par hc hN hi hj hij hx hy ha.pa hw hs) fun G B c σ H E D h1 h2 h3 h4 h5 h6 => ?_
  refine ⟨G, B, c, _, h1, h2, fun ds c1 B1 H1 vs q e1 hc1 rl => ?_⟩
  match ds, q, rl with
  | [d, e], q, rl =>
    unfold RepL at rl
    obtain ⟨v, r, rfl, r1, r2⟩ := rl
    unfold RepL at r2
    obtain ⟨w, r, rfl, r2, r3⟩ := r2
    unfold RepL at r3
    subst r3
    exact ⟨v, w, rfl, h3 _ _ _ _ q e1 ((hc1.setDat r1).setDat r2)⟩
  | [], q, _ => exact q.elim
  | [_], q, _ => exact q.elim
  | _ :: _ :: _ :: _, q, _ => exact q.elim

/-! ### what is walked -/
abbrev DI := CEnv → (List Dt → CEnv → Prop) → Prop
structure ItemsOf (K : PySem.W.Frag) (PL : PoolP) (B : Hp) (J : It) (ds : List Dt) : Prop where
  go : ∀ i H, Same B H → i < ds.length → J.go i H
  stop : ∀ H, Same B H → J.stop ds.length H
  yld : ∀ i H x H', i < ds.length → J.yld i H x H' → ∀ G B1 c σ, Same B B1 → Conc K PL G B1 c σ H → ∃ B2 d, ds[i]? = some d ∧ Same B1 B2 ∧ Conc K PL G B2 c σ H' ∧ Rep K B2 d x
def lI (K : PySem.W.Frag) (PL : PoolP) (di : DI) : TI := fun σ H R => ∃ G B c Qd, Conc K PL G B c σ H ∧ di c Qd ∧ ∀ ds c' B' H' J, Qd ds c' → Same B B' → Conc K PL G B' c' σ H' → ItemsOf K PL B' J ds → R J H'
structure QI (X : Cx) (PL : PoolP) (tg iter : Expr) (di : DI) : Prop where
  pi : PI X tg iter (lI X.K PL di)
theorem PI.weak {tg e : Expr} {t t' : TI} (h : PI X tg e t) (hw : ∀ σ H R, t' σ H R → t σ H R) : PI X tg e t' := ⟨fun pins s σ H R I q => h.run pins s σ H R I (hw _ _ _ q)⟩
theorem items_list {K : PySem.W.Frag} {B : Hp} {a : Addr} {xs : List V} {ds : List Dt} (h : SqL K B a xs) (r : RepL K B ds xs) : ItemsOf K PL B (Itl K a) ds where
  go := fun i H e hi => ⟨xs, xs[i]'(by rw [r.length]; exact hi), e.seq h, by simp⟩
  stop := fun H e => ⟨xs, e.seq h, by rw [r.length]; exact Nat.le_refl _⟩
  yld := fun i H x H' hi y G B1 c σ e1 hc => by
    obtain ⟨rfl, y⟩ := y
    obtain ⟨d, e2, e3⟩ := r.getV (y xs ((e1.trans hc.same).seq h))
    exact ⟨B1, d, e2, Same.refl _, hc, e3.mono e1⟩
theorem items_tup {K : PySem.W.Frag} {B : Hp} {a : Addr} {xs : List V} {ds : List Dt} (h : SqT K B a xs) (r : RepL K B ds xs) : ItemsOf K PL B (Itt K a) ds where
  go := fun i H e hi => ⟨xs, xs[i]'(by rw [r.length]; exact hi), sameT e h, by simp⟩
  stop := fun H e => ⟨xs, sameT e h, by rw [r.length]; exact Nat.le_refl _⟩
  yld := fun i H x H' hi y G B1 c σ e1 hc => by
    obtain ⟨rfl, y⟩ := y
    obtain ⟨d, e2, e3⟩ := r.getV (y xs (sameT (e1.trans hc.same) h))
    exact ⟨B1, d, e2, Same.refl _, hc, e3.mono e1⟩
def chs (s : List Nat) : List Dt := s.map fun ch => .str [ch]
theorem items_str {K : PySem.W.Frag} {B : Hp} {s : List Nat} : ItemsOf K PL B (Its (S s)) (chs s) where
  go := fun i H e hi => by
    unfold chs at hi
    rw [List.length_map] at hi
    show i < (S s).cps.size
    simpa [S] using hi
  stop := fun H e => by
    show (S s).cps.size ≤ (chs s).length
    simp [S, chs]
  yld := fun i H x H' hi y G B1 c σ e1 hc => by
    obtain ⟨rfl, ch, h1, h2⟩ := y
    have h3 : s[i]? = some ch := by simpa [S] using h1
    refine ⟨B1, .str [ch], ?_, Same.refl _, hc, ?_⟩
    · unfold chs
      rw [List.getElem?_map, h3]
      rfl
    · rw [h2]
      unfold Rep
      rfl
def rngD (lo : Int) (n : Nat) : List Dt := (List.range n).map fun (k : Nat) => .int (lo + (k : Int))
theorem items_rng {K : PySem.W.Frag} {B : Hp} {lo : Int} {n : Nat} : ItemsOf K PL B (Itr lo n) (rngD lo n) where
  go := fun i H e hi => by
    unfold rngD at hi
    rw [List.length_map, List.length_range] at hi
    exact hi
  stop := fun H e => by
    show n ≤ (rngD lo n).length
    simp [rngD]
  yld := fun i H x H' hi y G B1 c σ e1 hc => by
    obtain ⟨rfl, h2⟩ := y
    unfold rngD at hi
    rw [List.length_map, List.length_range] at hi
    refine ⟨B1, .int (lo + (i : Int)), ?_, Same.refl _, hc, ?_⟩
    · unfold rngD
      rw [List.getElem?_map, List.getElem?_range hi]
      rfl
    · rw [h2]
      unfold Rep
      rfl
def rngC (lo st : Int) (n : Nat) : List Dt := (List.range n).map fun (k : Nat) => .int (lo + (k : Int) * st)
theorem items_rngC {K : PySem.W.Frag} {B : Hp} {lo st : Int} {n : Nat} : ItemsOf K PL B (Itc lo st n) (rngC lo st n) where
  go := fun i H e hi => by
    unfold rngC at hi
    rw [List.length_map, List.length_range] at hi
    exact hi
  stop := fun H e => by
    show n ≤ (rngC lo st n).length
    simp [rngC]
  yld := fun i H x H' hi y G B1 c σ e1 hc => by
    obtain ⟨rfl, h2⟩ := y
    unfold rngC at hi
    rw [List.length_map, List.length_range] at hi
    refine ⟨B1, .int (lo + (i : Int) * st), ?_, Same.refl _, hc, ?_⟩
    · unfold rngC
      rw [List.getElem?_map, List.getElem?_range hi]
      rfl
    · rw [h2]
      unfold Rep
      rfl
/-- anything with items: a list, a tuple, a text -/
theorem pi_any {tg l : Expr} {tl : TE} (hl : PE X l tl) : PI X tg l (fun σ H R => tl σ H fun x H1 => (∃ a xs, x = .ref a ∧ SqL X.K H1 a xs ∧ R (Itl X.K a) H1) ∨ (∃ a xs, x = .ref a ∧ SqT X.K H1 a xs ∧ R (Itt X.K a) H1) ∨ ∃ z, x = .str z ∧ R (Its z) H1) := by
  refine ⟨fun pins s σ H R I hw => thn (hl.run pins s σ H _ I hw) fun v s1 ⟨x, H1, I1, rv, q⟩ => ?_⟩
  rcases q with ⟨a, xs, rfl, hs, q⟩ | ⟨a, xs, rfl, hs, q⟩ | ⟨z, rfl, q⟩
  · obtain ⟨its, _, p, _⟩ := I1.list hs
    cases rv
    exact wpAny_pyIter_list p.isList (pi_one (tk := s1.toks) I1 _ (turn_list a _) ⟨_, Heap.get?_push_size _ rfl, rfl, rfl⟩ q)
  · obtain ⟨its, _, p, _⟩ := I1.tuple hs
    cases rv
    exact wpAny_pyIter_tuple (show s1.heap.IsTuple a its.toArray from p) (pi_one (tk := s1.toks) I1 _ (turn_tuple a _) ⟨_, Heap.get?_push_size _ rfl, rfl, rfl⟩ q)
  · obtain ⟨t, rfl⟩ := rv
    cases g : z.cps.all (· < 128)
    · exact wpAny_pyIter_wide g (pi_one (tk := s1.toks) I1 _ (turn_str _ z t _ (.inr rfl)) ⟨_, Heap.get?_push_size _ rfl, rfl, rfl⟩ q)
    · exact wpAny_pyIter_ascii g (pi_one (tk := s1.toks) I1 _ (turn_str _ z t _ (.inl rfl)) ⟨_, Heap.get?_push_size _ rfl, rfl, rfl⟩ q)
def itemsD (d : Dt) (k : List Dt → Prop) : Prop := match d with
  | .lst l => k l
  | .tup l => k l
  | .frz l => k l
  | .str s => k (chs s)
  | _ => False
def dItems (de : DE) : DI := fun c Q => de c fun r c1 => asD r c1 fun d c2 => itemsD d fun l => Q l c2
theorem qi_of {tg e : Expr} {t : TI} {di : DI} (h : PI X tg e t) (hw : ∀ G B c σ H Qd R, Conc X.K PL G B c σ H → di c Qd → (∀ ds c' B' H' J, Qd ds c' → Same B B' → Conc X.K PL G B' c' σ H' → ItemsOf X.K PL B' J ds → R J H') → t σ H R) : QI X PL tg e di :=
  ⟨PI.weak h fun σ H R ⟨G, B, c, Qd, h1, h2, h3⟩ => hw G B c σ H Qd R h1 h2 h3⟩
theorem qi_any {tg e : Expr} {de : DE} (h : QE X PL e de) : QI X PL tg e (dItems de) := by
  refine qi_of (pi_any h.pe) fun G B c σ H Qd R hc hd2 hq => ?_
  refine ⟨G, B, c, _, hc, hd2, fun r c1 B1 H1 v g1 e1 cr => ?_⟩
  obtain ⟨B2, c2, d, e2, hc2, rd, g2⟩ := asD_ok cr g1
  cases d with
  | lst l =>
    unfold Rep at rd
    obtain ⟨a, xs, rfl, q1, q2⟩ := rd
    exact .inl ⟨a, xs, rfl, .of (hc2.same _ _ q1), hq _ _ B2 _ _ g2 (e1.trans e2) hc2 (items_list (.of q1) q2)⟩
  | tup l =>
    unfold Rep at rd
    obtain ⟨a, xs, rfl, q1, q2⟩ := rd
    exact .inr (.inl ⟨a, xs, rfl, sameT hc2.same q1, hq _ _ B2 _ _ g2 (e1.trans e2) hc2 (items_tup q1 q2)⟩)
  | frz l =>
    unfold Rep at rd
    obtain ⟨a, xs, rfl, q1, q2⟩ := rd
    exact .inl ⟨a, xs, rfl, hc2.same.seq q1, hq _ _ B2 _ _ g2 (e1.trans e2) hc2 (items_list q1 q2)⟩
  | str s =>
    unfold Rep at rd
    subst rd
    exact .inr (.inr ⟨S s, rfl, hq _ _ B2 _ _ g2 (e1.trans e2) hc2 items_str⟩)
  | _ => exact g2.elim
/-- range(n), range(a, b), range(a, b, s) -/
def dRng1 (da : DL) : DI := fun c Q => da c fun ds c1 => match ds with
  | [.int n] => (n ≤ 1000000000 ∧ -1000000000 ≤ n) ∧ Q (rngD 0 n.toNat) c1
  | _ => False
theorem int_of {ds : List Dt} {k : Int → Prop} (h : match ds with
  | [.int n] => k n
  | _ => False) : ∃ n, ds = [.int n] ∧ k n := by
  cases ds with
  | nil => exact h.elim
  | cons d r =>
    cases d with
    | int n =>
      cases r with
      | nil => exact ⟨n, rfl, h⟩
      | cons e r => exact h.elim
    | _ => exact h.elim
theorem qi_rng1 {tg a : Expr} {da : DL} {p pos : Pos} (h : QL X PL [a] da) (hg : Gl X "range") (hm : X.mg "range" = none) (hs : starEach [a] X.env = [(false, eval a X.env)] := by rfl) : QI X PL tg (.Call (.Name "range" p) [a] [] pos) (dRng1 da) := by
  refine qi_of (pi_range1 hg hm h.pa hs) fun G B c σ H Qd R hc hd2 hq => ?_
  refine ⟨G, B, c, _, hc, hd2, fun ds c1 B1 H1 vs g1 e1 hc1 rl => ?_⟩
  obtain ⟨n, rfl, ⟨h1, h2⟩, h3⟩ := int_of (k := fun n => (n ≤ 1000000000 ∧ -1000000000 ≤ n) ∧ Qd (rngD 0 n.toNat) c1) g1
  unfold RepL at rl
  obtain ⟨v, r, rfl, r1, r2⟩ := rl
  unfold RepL at r2
  subst r2
  unfold Rep at r1
  subst r1
  exact ⟨n, rfl, by omega, by omega, hq _ _ B1 _ _ h3 e1 hc1 items_rng⟩
def cints2 (ds : List Dt) (k : Int → Int → Prop) : Prop := match ds with
  | [.int a, .int b] => k a b
  | _ => False
theorem cints2_ok {ds : List Dt} {k : Int → Int → Prop} (h : cints2 ds k) : ∃ a b, ds = [.int a, .int b] ∧ k a b := by
  cases ds with
  | nil => exact h.elim
  | cons d r =>
    cases d with
    | int n =>
      cases r with
      | nil => exact h.elim
      | cons e r =>
        cases e with
        | int m =>
          cases r with
          | nil => exact ⟨n, m, rfl, h⟩
          | cons f r => exact h.elim
        | _ => exact h.elim
    | _ => exact h.elim
def dRng2 (da : DL) : DI := fun c Q => da c fun ds c1 => cints2 ds fun a b => (a ≤ 1000000000 ∧ -1000000000 ≤ a ∧ b ≤ 1000000000 ∧ -1000000000 ≤ b) ∧ Q (rngD a (b - a).toNat) c1
theorem qi_rng2 {tg a b : Expr} {da : DL} {p pos : Pos} (h : QL X PL [a, b] da) (hg : Gl X "range") (hm : X.mg "range" = none) (hs : starEach [a, b] X.env = [(false, eval a X.env), (false, eval b X.env)] := by rfl) (hs2 : starEach [b] X.env = [(false, eval b X.env)] := by rfl) :
    QI X PL tg (.Call (.Name "range" p) [a, b] [] pos) (dRng2 da) := by
  refine qi_of (pi_range2 hg hm h.pa hs hs2) fun G B c σ H Qd R hc hd2 hq => ?_
  refine ⟨G, B, c, _, hc, hd2, fun ds c1 B1 H1 vs g1 e1 hc1 rl => ?_⟩
  obtain ⟨i, j, rfl, h1, h3⟩ := cints2_ok g1
  unfold RepL at rl
  obtain ⟨v, r, rfl, r1, r2⟩ := rl
  unfold RepL at r2
  obtain ⟨w, r, rfl, r2, r3⟩ := r2
  unfold RepL at r3
  subst r3
  unfold Rep at r1 r2
  subst r1 r2
  exact ⟨i, j, rfl, by omega, hq _ _ B1 _ _ h3 e1 hc1 items_rng⟩
def cints3 (ds : List Dt) (k : Int → Int → Int → Prop) : Prop := match ds with
  | .int a :: r => cints2 r (k a)
  | _ => False
theorem cints3_ok {ds : List Dt} {k : Int → Int → Int → Prop} (h : cints3 ds k) : ∃ a b d, ds = [.int a, .int b, .int d] ∧ k a b d := by
  cases ds with
  | nil => exact h.elim
  | cons d r =>
    cases d with
    | int n =>
      obtain ⟨b, e, rfl, h2⟩ := cints2_ok (show cints2 r (k n) from h)
      exact ⟨n, b, e, rfl, h2⟩
    | _ => exact h.elim
def dRng3 (da : DL) : DI := fun c Q => da c fun ds c1 => cints3 ds fun a b s => ∃ n, RgC a b s n ∧ Q (rngC a s n) c1
theorem qi_rng3 {tg a b d : Expr} {da : DL} {p pos : Pos} (h : QL X PL [a, b, d] da) (hg : Gl X "range") (hm : X.mg "range" = none) (hs : starEach [a, b, d] X.env = (false, eval a X.env) :: starEach [b, d] X.env := by rfl) (hpl : (backTo pos (starEach [b, d] X.env)).any (·.1) = false := by rfl) :
    QI X PL tg (.Call (.Name "range" p) [a, b, d] [] pos) (dRng3 da) := by
  refine qi_of (pi_range3 hg hm h.pa hs hpl) fun G B c σ H Qd R hc hd2 hq => ?_
  refine ⟨G, B, c, _, hc, hd2, fun ds c1 B1 H1 vs g1 e1 hc1 rl => ?_⟩
  obtain ⟨i, j, k, rfl, n, h1, h3⟩ := cints3_ok g1
  unfold RepL at rl
  obtain ⟨v, r, rfl, r1, r2⟩ := rl
  unfold RepL at r2
  obtain ⟨w, r, rfl, r2, r3⟩ := r2
  unfold RepL at r3
  obtain ⟨u, r, rfl, r3, r4⟩ := r3
  unfold RepL at r4
  subst r4
  unfold Rep at r1 r2 r3
  subst r1 r2 r3
  exact ⟨i, j, k, n, rfl, h1, hq _ _ B1 _ _ h3 e1 hc1 items_rngC⟩

/-! ### for, while -/
def dFor (di : DI) (g : DG) (body : DS) : DS := fun E c => di c fun ds c1 => ∃ I : Nat → CEnv → Prop, I 0 c1 ∧
  (∀ k d c', ds[k]? = some d → I k c' → g d c' fun c2 => body { nx := I (k + 1), rt := E.rt, bk := E.nx, ct := I (k + 1), ra := E.ra } c2) ∧ ∀ c', I ds.length c' → E.nx c'
theorem qs_for {tg iter : Expr} {body : List Stmt} {di : DI} {g : DG} {db : DS} {pos : Pos} (hi : QI X PL tg iter di) (hg : QG X PL tg g) (hb : QSs X PL body db) (hp : PassesOwn (model X.prog X.w) X.A X.env X.xe) (hc : X.calm = true)
    (hs : ∀ x, foldedSetIterable iter X.env x = pure x := by intro _; rfl) : QS X PL (.For tg iter body [] pos) (dFor di g db) := by
  refine qs_of (ps_for hp hc hi.pi hg.pg hb.pss hs) fun G B c σ H E D h1 h2 h3 h4 h5 h6 => ?_
  refine ⟨G, B, c, _, h1, h2, fun ds c1 B1 H1 J ⟨I, i0, it, ie⟩ e1 hc1 HJ => ?_⟩
  refine ⟨fun i m σ' H' => m = ds.length - i ∧ i ≤ ds.length ∧ ∃ B2 c2, Same B1 B2 ∧ Conc X.K PL G B2 c2 σ' H' ∧ I i c2, ⟨_, rfl, Nat.zero_le _, B1, c1, Same.refl _, hc1, i0⟩, ?_⟩
  rintro i m σ' H' ⟨rfl, hil, B2, c2, e2, hc2, hI⟩
  by_cases hlt : i < ds.length
  · refine .inr ⟨HJ.go i H' (e2.trans hc2.same) hlt, fun σ2 H2 => ∃ B3 c3, Same B1 B3 ∧ Conc X.K PL G B3 c3 σ2 H2 ∧ I (i + 1) c3, fun σ2 H2 ⟨B3, c3, e3, hc3, hI3⟩ => ⟨ds.length - (i + 1), by omega, rfl, hlt, B3, c3, e3, hc3, hI3⟩, fun x H3 hy => ?_⟩
    obtain ⟨B3, d, hd3, e3, hc3, rd⟩ := HJ.yld i H' x H3 hlt hy G B2 c2 σ' e2 hc2
    refine ⟨G, B3, c2, d, _, hc3, rd, it i d c2 hd3 hI, fun c4 B4 σ4 H4 q4 e4 hc4 _ => ?_⟩
    have ee : Same B1 B4 := (e2.trans e3).trans e4
    exact ⟨G, B4, c4, _, hc4, q4, fun c5 B5 σ5 H5 q5 e5 hc5 => ⟨B5, c5, ee.trans e5, hc5, q5⟩, h4, fun c5 B5 σ5 H5 q5 e5 hc5 => h3 _ _ _ _ q5 ((e1.trans ee).trans e5) hc5, fun c5 B5 σ5 H5 q5 e5 hc5 => ⟨B5, c5, ee.trans e5, hc5, q5⟩⟩
  · have hie : i = ds.length := by omega
    subst hie
    exact .inl ⟨HJ.stop H' (e2.trans hc2.same), h3 _ _ _ _ (ie c2 hI) (e1.trans e2) hc2⟩
def dWhile (t : DT) (body : DS) : DS := fun E c => ∃ I : Nat → CEnv → Prop, (∃ m, I m c) ∧ ∀ m c', I m c' → t c' fun b c2 => br b (body { nx := fun c3 => ∃ m', m' < m ∧ I m' c3, rt := E.rt, bk := E.nx, ct := fun c3 => ∃ m', m' < m ∧ I m' c3, ra := E.ra } c2) (E.nx c2)
theorem qs_while {t : Expr} {body : List Stmt} {dt : DT} {db : DS} {pos : Pos} (ht : QT X PL t dt) (hb : QSs X PL body db) (hp : PassesOwn (model X.prog X.w) X.A X.env X.xe) : QS X PL (.While t body [] pos) (dWhile dt db) := by
  refine qs_of (ps_while hp ht.pt hb.pss) fun G B c σ H E D h1 h2 h3 h4 h5 h6 => ?_
  obtain ⟨I, ⟨m0, i0⟩, it⟩ := h2
  refine ⟨fun m σ' H' => ∃ B2 c2, Same B B2 ∧ Conc X.K PL G B2 c2 σ' H' ∧ I m c2, ⟨m0, B, c, Same.refl _, h1, i0⟩, ?_⟩
  rintro m σ' H' ⟨B2, c2, e2, hc2, hI⟩
  refine ⟨G, B2, c2, _, hc2, it m c2 hI, fun b c3 B3 H3 q3 e3 hc3 => ?_⟩
  cases b with
  | true =>
    rw [if_pos rfl]
    refine ⟨fun σ4 H4 => ∃ m', m' < m ∧ ∃ B4 c4, Same B B4 ∧ Conc X.K PL G B4 c4 σ4 H4 ∧ I m' c4, fun σ4 H4 ⟨m', hm, r⟩ => ⟨m', hm, r⟩, ?_⟩
    exact ⟨G, B3, c3, _, hc3, q3, fun c5 B5 σ5 H5 ⟨m', hm, q5⟩ e5 hc5 => ⟨m', hm, B5, c5, (e2.trans e3).trans e5, hc5, q5⟩, h4, fun c5 B5 σ5 H5 q5 e5 hc5 => h3 _ _ _ _ q5 ((e2.trans e3).trans e5) hc5, fun c5 B5 σ5 H5 ⟨m', hm, q5⟩ e5 hc5 => ⟨m', hm, B5, c5, (e2.trans e3).trans e5, hc5, q5⟩⟩
  | false =>
    rw [if_neg Bool.false_ne_true]
    exact h3 _ _ _ _ q3 (e2.trans e3) hc3
end
end Cl

namespace Cl
open PySem PySem.Spec PyProof.Rows L2

section
variable {X : Cx} {PL : PoolP}
/-! ### a list of one's own is changed -/
def obL (c : CEnv) (i : Nat) (k : List Dt → Prop) : Prop := match gt c i with
  | .own (.lst l) => k l
  | .arg (.lst l) => k l
  | _ => False
def setL (c : CEnv) (i : Nat) (m : List Dt) : CEnv := c.set i (match gt c i with
  | .arg _ => .arg (.lst m)
  | _ => .own (.lst m))
theorem obL_ok {c : CEnv} {i : Nat} {k : List Dt → Prop} (h : obL c i k) : ∃ l, (c[i]? = some (.own (.lst l)) ∨ c[i]? = some (.arg (.lst l))) ∧ k l := by
  unfold obL at h
  cases g : gt c i with
  | no => simp only [g] at h
  | dat d => simp only [g] at h
  | own o =>
    cases o with
    | lst l =>
      simp only [g] at h
      exact ⟨l, .inl (gt_get g (by simp)), h⟩
    | pool => simp only [g] at h
  | arg o =>
    cases o with
    | lst l =>
      simp only [g] at h
      exact ⟨l, .inr (gt_get g (by simp)), h⟩
    | pool => simp only [g] at h
abbrev MutF := List Dt → List Dt → (Dt → List Dt → Prop) → Prop
def MutD (K : PySem.W.Frag) (r : V → List V → Hp → VK → Prop) (f : MutF) : Prop := ∀ B H a l xs ds vs k (Q : VK), H a = some (.lst xs) → RepL K B l xs → RepL K B ds vs → f l ds k → Same B H →
  (∀ d m v ys, k d m → RepL K B m ys → Rep K B d v → Q v (upd H a (.lst ys))) → r (.ref a) vs H Q
def dMeth (i : Nat) (f : MutF) (dl : DL) : DE := fun c Q => obL c i fun _ => dl c fun ds c1 => obL c1 i fun l => f l ds fun d m => Q (.dat d) (setL c1 i m)
theorem meth_ok {r : V → List V → Hp → VK → Prop} {f : MutF} (hf : MutD X.K r f) {i : Nat} {G : Ent} {B : Hp} {c1 : CEnv} {σ : L2.St} {H1 : Hp} {a : Addr} {ds : List Dt} {vs : List V} {Qd : Res → CEnv → Prop} {Q : VK} (hc1 : Conc X.K PL G B c1 σ H1) (hv : σ[i]? = some (some (.ref a))) (rl : RepL X.K B ds vs)
    (q : obL c1 i fun l => f l ds fun d m => Qd (.dat d) (setL c1 i m)) (hq : ∀ r c' B' H' v, Qd r c' → Same B B' → CR X.K PL G B' c' σ H' r v → Q v H') : r (.ref a) vs H1 Q := by
  obtain ⟨l, hs, q2⟩ := obL_ok q
  obtain ⟨a', fp, e1, e2⟩ := hc1.getOb hs
  rw [hv] at e1
  cases e1
  obtain ⟨_, xs, e3, e4⟩ := e2
  refine hf B H1 a l xs ds vs _ Q e3 e4 rl q2 hc1.same fun d m v ys hk rm rd => ?_
  obtain ⟨hc2, _⟩ := hc1.write hs hv rm
  exact hq _ _ B _ v hk (Same.refl B) ⟨hc2, rd⟩
theorem qe_meth {i : Nat} {e : Expr} {es : List Expr} {apos cpos : Pos} {x : Str} {xpos : Pos} {T id : String} {name : Str} {r : V → List V → Hp → VK → Prop} {f : MutF} {dl : DL} (pa : PlainAttrs "list") (slot : PySem.Slot "list" name id) (hty : typeOf (.builtin id) = pure (.type "method_descriptor")) (hm : MtR X id r) (hf : MutD X.K r f)
    (ho : PE X (.Name x xpos) (tVar i)) (ha : QL X PL (e :: es) dl) (hbase : attributeBase (.Name x xpos) name X.env (eval (.Name x xpos) X.env) = eval (.Name x xpos) X.env := by rfl)
    (hfew : ((backTo cpos (starEach (e :: es) X.env)).all (fun x => !x.1) && (backToKw cpos (keywordEach [] X.env)).all (fun x => x.1.isSome) && decide ((e :: es).length + ([] : List Keyword).length + (if ([] : List Keyword).isEmpty then 0 else 1) < 30)) = true := by rfl)
    (hline : (apos.endLine == cpos.line) = true := by rfl) (hs : starEach (e :: es) X.env = (false, eval e X.env) :: starEach es X.env := by rfl) (hplain : (backTo cpos (starEach es X.env)).any (·.1) = false := by rfl) :
    QE X PL (.Call (.Attribute (.Name x xpos) name apos) (e :: es) [] cpos) (dMeth i f dl) := by
  refine q_of (pe_bm pa slot hty hm ho ha.pa hbase hfew hline hs hplain) fun G B c σ H Qd Q hc hd2 hq => ?_
  obtain ⟨l, hs', hd3⟩ := obL_ok hd2
  obtain ⟨a, fp, e1, _, xs, e2, e3⟩ := hc.getOb hs'
  refine ⟨.ref a, e1, .inl ⟨rfl, xs, .of e2⟩, G, B, c, _, hc, hd3, fun ds c1 B1 H1 vs q ee hc1 rl => ?_⟩
  exact meth_ok hf hc1 e1 rl q fun r c' B' H' v h1 h2 h3 => hq r c' B' H' v h1 (ee.trans h2) h3
theorem qe_meth0 {i : Nat} {apos cpos : Pos} {x : Str} {xpos : Pos} {T id : String} {name : Str} {r : V → List V → Hp → VK → Prop} {f : MutF} (pa : PlainAttrs "list") (slot : PySem.Slot "list" name id) (hty : typeOf (.builtin id) = pure (.type "method_descriptor")) (hm : MtR X id r) (hf : MutD X.K r f)
    (ho : PE X (.Name x xpos) (tVar i)) (hbase : attributeBase (.Name x xpos) name X.env (eval (.Name x xpos) X.env) = eval (.Name x xpos) X.env := by rfl) (hline : (apos.endLine == cpos.line) = true := by rfl) :
    QE X PL (.Call (.Attribute (.Name x xpos) name apos) [] [] cpos) (dMeth i f lNil) := by
  refine q_of (pe_bm0 pa slot hty hm ho hbase hline) fun G B c σ H Qd Q hc hd2 hq => ?_
  obtain ⟨l, hs', hd3⟩ := obL_ok hd2
  obtain ⟨a, fp, e1, _, xs, e2, e3⟩ := hc.getOb hs'
  exact ⟨.ref a, e1, .inl ⟨rfl, xs, .of e2⟩, meth_ok hf hc e1 .nil hd3 hq⟩
def oneD {α : Type} (ds : List α) (P : α → Prop) : Prop := match ds with
  | [d] => P d
  | _ => False
theorem oneD_ok {α : Type} {ds : List α} {P : α → Prop} (h : oneD ds P) : ∃ d, ds = [d] ∧ P d := by
  cases ds with
  | nil => exact h.elim
  | cons d r =>
    cases r with
    | nil => exact ⟨d, rfl, h⟩
    | cons e r => exact h.elim
def mAppend : MutF := fun l ds k => oneD ds fun d => l.length < 10000000 ∧ k .non (l ++ [d])
theorem repL1 {K : PySem.W.Frag} {B : Hp} {d : Dt} {vs : List V} (h : RepL K B [d] vs) : ∃ v, vs = [v] ∧ Rep K B d v := by
  unfold RepL at h
  obtain ⟨v, r, h1, h2, h3⟩ := h
  unfold RepL at h3
  subst h3
  exact ⟨v, h1, h2⟩
theorem mut_append {K : PySem.W.Frag} : MutD K rAppend mAppend := by
  intro B H a l xs ds vs k Q h1 h2 h3 h4 h5 hq
  obtain ⟨d, rfl, h6, h7⟩ := oneD_ok h4
  obtain ⟨v, rfl, h8⟩ := repL1 h3
  exact ⟨a, xs, v, rfl, rfl, h1, by rw [h2.length]; exact sz7l h6, hq _ _ _ _ h7 (h2.app (.one h8)) (by unfold Rep; rfl)⟩
def mPop : MutF := fun l ds k => match ds with
  | [] => (match l.getLast? with
    | some d => k d l.dropLast
    | none => False)
  | _ => False
theorem RepL.dropLast {K : PySem.W.Frag} {B : Hp} {l : List Dt} {xs : List V} (h : RepL K B l xs) : RepL K B l.dropLast xs.dropLast := by
  rw [List.dropLast_eq_take, List.dropLast_eq_take, h.length]
  exact h.take _
theorem mut_pop {K : PySem.W.Frag} : MutD K rPop mPop := by
  intro B H a l xs ds vs k Q h1 h2 h3 h4 h5 hq
  cases ds with
  | cons d r => exact h4.elim
  | nil =>
    unfold RepL at h3
    subst h3
    have h6 : (match l.getLast? with
      | some d => k d l.dropLast
      | none => False) := h4
    cases g : l.getLast? with
    | none => simp only [g] at h6
    | some d =>
      simp only [g] at h6
      rw [List.getLast?_eq_getElem?] at g
      obtain ⟨v, e1, e2⟩ := h2.get g
      exact ⟨a, xs, v, rfl, rfl, h1, by rw [h2.length]; exact e1, hq _ _ _ _ h6 h2.dropLast e2⟩
/-- xs[i] = e -/
def dSetIx (i : Nat) (dx de : DE) : DS := fun E c => de c fun r c1 => asD r c1 fun d c2 => obL c2 i fun _ => dx c2 fun rx c3 => match rx with
  | .dat (.int j) => obL c3 i fun l => match ixN l.length j with
    | some n => E.nx (setL c3 i (l.set n d))
    | none => False
  | _ => False
theorem qs_setIx {i : Nat} {x : Str} {xpos pos spos : Pos} {ix e : Expr} {dx de : DE} (he : QE X PL e de) (ho : PE X (.Name x xpos) (tVar i)) (hi : QE X PL ix dx)
    (ha : ∀ v, assign (.Subscript (.Name x xpos) ix spos) X.env v = (do
      let ov ← holding [v] (eval (.Name x xpos) X.env)
      let iv ← holding [v, ov] (eval ix X.env)
      standAt spos
      holding [v, ov, iv] (setItem ov iv v)
      release [v, ov, iv] []) := by intro _; rfl)
    (hs : swapsWithSole [.Subscript (.Name x xpos) ix spos] e pos.line X.env = pure false := by rfl) (hw : swappedStores [.Subscript (.Name x xpos) ix spos] e X.env = pure none := by rfl)
    (h1 : (assignEach [.Subscript (.Name x xpos) ix spos] X.env).map (·.2) = [assign (.Subscript (.Name x xpos) ix spos) X.env] := by rfl) : QS X PL (.Assign [.Subscript (.Name x xpos) ix spos] e pos) (dSetIx i dx de) := by
  refine qs_of (ps_asg he.pe (pg_sub ho hi.pe set_list ha) hs hw h1) fun G B c σ H E D h1 h2 h3 h4 h5 h6 => ?_
  refine ⟨G, B, c, _, h1, h2, fun r c1 B1 H1 v q e1 cr => ?_⟩
  obtain ⟨B2, c2, d, e2, hc2, rd, q2⟩ := asD_ok cr q
  obtain ⟨l, hs', q3⟩ := obL_ok q2
  obtain ⟨a, fp, g1, _⟩ := hc2.getOb hs'
  refine ⟨.ref a, g1, G, B2, c2, _, hc2, q3, fun rx c3 B3 H3 w q4 e3 cr3 => ?_⟩
  cases rx with
  | dat dd =>
    cases dd with
    | int j =>
      obtain ⟨hc3, r3⟩ := cr3
      unfold Rep at r3
      subst r3
      obtain ⟨m, hs3, q5⟩ := obL_ok q4
      obtain ⟨a', fp', e5, _, xs, e6, e7⟩ := hc3.getOb hs3
      rw [g1] at e5
      cases e5
      cases g : ixN m.length j with
      | none => simp only [g] at q5
      | some n =>
        simp only [g] at q5
        refine ⟨a, xs, j, n, rfl, rfl, e6, by rw [e7.length]; exact g, ?_⟩
        obtain ⟨hc4, _⟩ := hc3.write hs3 g1 (e7.set (rd.mono e3) n)
        exact h3 _ _ _ _ q5 ((e1.trans e2).trans e3) hc4
    | _ => exact q4.elim
  | _ => exact q4.elim

/-! ### methods of texts -/
abbrev MtF := Dt → List Dt → (Res → Prop) → Prop
def MtD (K : PySem.W.Frag) (PL : PoolP) (r : V → List V → Hp → VK → Prop) (f : MtF) : Prop := ∀ G B c σ H s xs vs k (Q : VK), Conc K PL G B c σ H → RepHs K B H xs vs → f (.str s) xs k →
  (∀ z w B' H', k z → Same B B' → CR K PL G B' c σ H' z w → Q w H') → r (.str (S s)) vs H Q
def dMt (f : MtF) (de : DE) (da : DA) : DE := fun c Q => de c fun r c1 => match r with
  | .dat (.str s) => da c1 fun rs c2 => vws rs c2 fun xs => f (.str s) xs fun z => Q z c2
  | _ => False
theorem qe_mt {o e : Expr} {es : List Expr} {apos cpos : Pos} {id : String} {name : Str} {r : V → List V → Hp → VK → Prop} {f : MtF} {de : DE} {da : DA} (pa : PlainAttrs "str") (slot : PySem.Slot "str" name id) (hty : typeOf (.builtin id) = pure (.type "method_descriptor")) (hm : MtR X id r) (hf : MtD X.K PL r f)
    (ho : QE X PL o de) (ha : QA X PL (e :: es) da) (hbase : attributeBase o name X.env (eval o X.env) = eval o X.env := by rfl)
    (hfew : ((backTo cpos (starEach (e :: es) X.env)).all (fun x => !x.1) && (backToKw cpos (keywordEach [] X.env)).all (fun x => x.1.isSome) && decide ((e :: es).length + ([] : List Keyword).length + (if ([] : List Keyword).isEmpty then 0 else 1) < 30)) = true := by rfl)
    (hline : (apos.endLine == cpos.line) = true := by rfl) (hs : starEach (e :: es) X.env = (false, eval e X.env) :: starEach es X.env := by rfl) (hplain : (backTo cpos (starEach es X.env)).any (·.1) = false := by rfl) :
    QE X PL (.Call (.Attribute o name apos) (e :: es) [] cpos) (dMt f de da) := by
  refine q_of (pe_bm pa slot hty hm ho.pe ha.pa hbase hfew hline hs hplain) fun G B c σ H Qd Q hc hd2 hq => ?_
  refine ⟨G, B, c, _, hc, hd2, fun r1 c1 B1 H1 v q e1 cr => ?_⟩
  cases r1 with
  | dat d =>
    cases d with
    | str s =>
      obtain ⟨hc1, rv⟩ := cr
      unfold Rep at rv
      subst rv
      refine ⟨rfl, G, B1, c1, _, hc1, q, fun rs c2 B2 H2 vs q2 e2 hc2 hl => ?_⟩
      obtain ⟨xs, rx, q3⟩ := vws_ok hc2 hl q2
      exact hf G B2 c2 σ H2 s xs vs _ Q hc2 rx q3 fun z w B' H' hk e' cr' => hq z c2 B' H' w hk ((e1.trans e2).trans e') cr'
    | _ => exact q.elim
  | _ => exact q.elim
end

/-! ### calls of the text's own defs -/
inductive AV where
  | dat (d : Dt)
  | own (i : Nat)
inductive AArg where
  | dat (d : Dt)
  | ob (o : Ob)
/-- what a def does, said of plain data: its arguments, what is wanted of the result and of the own objects behind it -/
abbrev FS := List AArg → (Res → List AArg → Prop) → Prop
def lookA (c : CEnv) : AV → Option AArg
  | .dat d => some (.dat d)
  | .own i => match gt c i with
    | .own o => some (.ob o)
    | .arg o => some (.ob o)
    | _ => none
def looks (c : CEnv) : List AV → Option (List AArg)
  | [] => some []
  | a :: r => match lookA c a with
    | none => none
    | some x => match looks c r with
      | none => none
      | some xs => some (x :: xs)
def ownAt : List AV → List AArg → Nat → Option Ob
  | .own i :: avs, .ob o :: as, j => if i = j then some o else ownAt avs as j
  | _ :: avs, _ :: as, j => ownAt avs as j
  | _, _, _ => none
def newSlot (s : Slot) (o : Option Ob) : Slot := match o with
  | none => s
  | some o => match s with
    | .arg _ => .arg o
    | _ => .own o
def putA (avs : List AV) (as : List AArg) : Nat → CEnv → CEnv
  | _, [] => []
  | j, s :: r => newSlot s (ownAt avs as j) :: putA avs as (j + 1) r
theorem putA_length (avs : List AV) (as : List AArg) : ∀ (j : Nat) (c : CEnv), (putA avs as j c).length = c.length
  | _, [] => rfl
  | j, s :: r => by
    unfold putA
    rw [List.length_cons, List.length_cons, putA_length avs as (j + 1) r]
theorem putA_get (avs : List AV) (as : List AArg) : ∀ (j : Nat) (c : CEnv) (i : Nat) (s : Slot), (putA avs as j c)[i]? = some s → ∃ t, c[i]? = some t ∧ s = newSlot t (ownAt avs as (j + i))
  | _, [], i, s, h => by simp [putA] at h
  | j, t :: r, 0, s, h => by
    unfold putA at h
    exact ⟨t, rfl, by simpa using h.symm⟩
  | j, t :: r, i + 1, s, h => by
    unfold putA at h
    obtain ⟨u, h1, h2⟩ := putA_get avs as (j + 1) r i s (by simpa using h)
    exact ⟨u, by simpa using h1, by rw [h2]; congr 2; omega⟩
/-- each own object is handed in once -/
def nodupO : List AV → Bool
  | [] => true
  | .own i :: r => (r.all fun a => match a with
    | .own j => i != j
    | _ => true) && nodupO r
  | _ :: r => nodupO r
theorem ownAt_some : ∀ {avs : List AV} {as : List AArg} {j : Nat} {o : Ob}, ownAt avs as j = some o → ∃ k : Nat, avs[k]? = some (.own j) ∧ as[k]? = some (.ob o)
  | [], as, j, o, h => by cases as <;> simp [ownAt] at h
  | .own i :: avs, [], j, o, h => by simp [ownAt] at h
  | .dat d :: avs, [], j, o, h => by simp [ownAt] at h
  | .own i :: avs, .ob u :: as, j, o, h => by
    unfold ownAt at h
    by_cases e : i = j
    · rw [if_pos e] at h
      cases h
      exact ⟨0, by rw [e]; rfl, rfl⟩
    · rw [if_neg e] at h
      obtain ⟨k, h1, h2⟩ := ownAt_some h
      exact ⟨k + 1, by simpa using h1, by simpa using h2⟩
  | .own i :: avs, .dat u :: as, j, o, h => by
    obtain ⟨k, h1, h2⟩ := ownAt_some (show ownAt avs as j = some o from h)
    exact ⟨k + 1, by simpa using h1, by simpa using h2⟩
  | .dat d :: avs, a :: as, j, o, h => by
    obtain ⟨k, h1, h2⟩ := ownAt_some (show ownAt avs as j = some o from h)
    exact ⟨k + 1, by simpa using h1, by simpa using h2⟩
theorem ownAt_none : ∀ {avs : List AV} {as : List AArg} {j : Nat}, ownAt avs as j = none → ∀ (k : Nat) (o : Ob), avs[k]? = some (.own j) → as[k]? ≠ some (.ob o)
  | [], as, j, h, k, o, e => by simp at e
  | .own i :: avs, [], j, h, k, o, e => by simp
  | .dat d :: avs, [], j, h, k, o, e => by simp
  | .own i :: avs, .ob u :: as, j, h, 0, o, e => by
    have e' : i = j := by simpa using e
    unfold ownAt at h
    rw [if_pos e'] at h
    cases h
  | .own i :: avs, .ob u :: as, j, h, k + 1, o, e => by
    unfold ownAt at h
    by_cases e' : i = j
    · rw [if_pos e'] at h
      cases h
    · rw [if_neg e'] at h
      simpa using ownAt_none h k o (by simpa using e)
  | .own i :: avs, .dat u :: as, j, h, 0, o, e => by simp
  | .own i :: avs, .dat u :: as, j, h, k + 1, o, e => by
    simpa using ownAt_none (show ownAt avs as j = none from h) k o (by simpa using e)
  | .dat d :: avs, a :: as, j, h, 0, o, e => by simp at e
  | .dat d :: avs, a :: as, j, h, k + 1, o, e => by
    simpa using ownAt_none (show ownAt avs as j = none from h) k o (by simpa using e)
theorem nodupO_inj : ∀ {avs : List AV}, nodupO avs = true → ∀ (k l i : Nat), avs[k]? = some (.own i) → avs[l]? = some (.own i) → k = l
  | [], _, k, l, i, h, _ => by simp at h
  | .dat d :: r, h, 0, l, i, e, _ => by simp at e
  | .dat d :: r, h, k + 1, 0, i, _, e => by simp at e
  | .dat d :: r, h, k + 1, l + 1, i, e, f => by
    rw [nodupO_inj (show nodupO r = true from h) k l i (by simpa using e) (by simpa using f)]
  | .own m :: r, h, 0, 0, i, e, f => rfl
  | .own m :: r, h, 0, l + 1, i, e, f => by
    unfold nodupO at h
    rw [Bool.and_eq_true, List.all_eq_true] at h
    have e1 : m = i := by simpa using e
    have := h.1 _ (List.mem_of_getElem? (show r[l]? = some (.own i) by simpa using f))
    simp [e1] at this
  | .own m :: r, h, k + 1, 0, i, f, e => by
    unfold nodupO at h
    rw [Bool.and_eq_true, List.all_eq_true] at h
    have e1 : m = i := by simpa using e
    have := h.1 _ (List.mem_of_getElem? (show r[k]? = some (.own i) by simpa using f))
    simp [e1] at this
  | .own m :: r, h, k + 1, l + 1, i, e, f => by
    unfold nodupO at h
    rw [Bool.and_eq_true] at h
    rw [nodupO_inj h.2 k l i (by simpa using e) (by simpa using f)]
section
variable {K : PySem.W.Frag} {PL : PoolP}
def ArgOk (K : PySem.W.Frag) (PL : PoolP) (B H : Hp) (a : AArg) (v : V) (f : List Addr) : Prop := match a with
  | .dat d => f = [] ∧ Rep K B d v
  | .ob o => ∃ p, v = .ref p ∧ RepO K PL B H o p f
/-- the arguments stand for what is said of them; fs: the own objects' footprints -/
def ArgsOk (K : PySem.W.Frag) (PL : PoolP) (B H : Hp) (as : List AArg) (vs : List V) (fs : Nat → List Addr) : Prop :=
  as.length = vs.length ∧ ∀ k a, as[k]? = some a → ∃ v, vs[k]? = some v ∧ ArgOk K PL B H a v (fs k)
structure Apart (B H : Hp) (n : Nat) (fs : Nat → List Addr) : Prop where
  out : ∀ k, n ≤ k → fs k = []
  disj : ∀ k l, k ≠ l → ∀ b ∈ fs k, b ∉ fs l
  off : ∀ k, ∀ b ∈ fs k, B b = none
def RetOk (K : PySem.W.Frag) (PL : PoolP) (B H H' : Hp) (fs : Nat → List Addr) : Res → V → Prop
  | .dat d, v => Rep K B d v
  | .new o, v => ∃ p fp, v = .ref p ∧ RepO K PL B H' o p fp ∧ ∀ b ∈ fp, B b = none ∧ H b = none ∧ ∀ k, b ∉ fs k
  | .sl _, _ => False
def spC (K : PySem.W.Frag) (PL : PoolP) (n : Nat) (F : FS) : Sp := fun vs H Q _ => ∃ B as fs R, as.length = n ∧ Same B H ∧ ArgsOk K PL B H as vs fs ∧ Apart B H n fs ∧ F as R ∧
  ∀ r as' B' H' v fs', R r as' → Same B B' → (∀ a o, B' a = some o → B a = some o ∨ H a = none) → Same B' H' → (∀ a o, H a = some o → (∀ k, a ∉ fs k) → H' a = some o) → (∀ a, H a ≠ none → H' a ≠ none) →
    ArgsOk K PL B' H' as' vs fs' → Apart B' H' n fs' → (∀ k, ∀ b ∈ fs' k, H b = none ∨ b ∈ fs k) → (∀ (k : Nat) (o : Ob), as[k]? = some (AArg.ob o) → ∃ o' : Ob, as'[k]? = some (AArg.ob o')) → RetOk K PL B' H H' fs' r v → Q v H'
end
end Cl

namespace Cl
open PySem PySem.Spec PyProof.Rows L2

section
variable {X : Cx} {PL : PoolP}
/-! ### a call's arguments -/
abbrev DV := CEnv → (List AV → CEnv → Prop) → Prop
def AVOk (K : PySem.W.Frag) (B : Hp) (σ : L2.St) : List AV → List V → Prop
  | [], vs => vs = []
  | .dat d :: r, vs => ∃ v ws, vs = v :: ws ∧ Rep K B d v ∧ AVOk K B σ r ws
  | .own i :: r, vs => ∃ v ws, vs = v :: ws ∧ σ[i]? = some (some v) ∧ AVOk K B σ r ws
theorem AVOk.mono {K : PySem.W.Frag} {B B' : Hp} {σ : L2.St} (e : Same B B') : ∀ {avs : List AV} {vs : List V}, AVOk K B σ avs vs → AVOk K B' σ avs vs
  | [], _, h => h
  | .dat d :: r, vs, h => by
    obtain ⟨v, ws, h1, h2, h3⟩ := h
    exact ⟨v, ws, h1, h2.mono e, h3.mono e⟩
  | .own i :: r, vs, h => by
    obtain ⟨v, ws, h1, h2, h3⟩ := h
    exact ⟨v, ws, h1, h2, h3.mono e⟩
theorem AVOk.length {K : PySem.W.Frag} {B : Hp} {σ : L2.St} : ∀ {avs : List AV} {vs : List V}, AVOk K B σ avs vs → vs.length = avs.length
  | [], _, h => by
    have e : _ = [] := h
    rw [e]
    rfl
  | .dat d :: r, vs, h => by
    obtain ⟨v, ws, h1, h2, h3⟩ := h
    rw [h1, List.length_cons, List.length_cons, h3.length]
  | .own i :: r, vs, h => by
    obtain ⟨v, ws, h1, h2, h3⟩ := h
    rw [h1, List.length_cons, List.length_cons, h3.length]
theorem AVOk.get {K : PySem.W.Frag} {B : Hp} {σ : L2.St} : ∀ {avs : List AV} {vs : List V} {k : Nat} {a : AV}, AVOk K B σ avs vs → avs[k]? = some a → ∃ v, vs[k]? = some v ∧ match a with
    | .dat d => Rep K B d v
    | .own i => σ[i]? = some (some v)
  | [], _, k, a, _, e => by simp at e
  | .dat d :: r, vs, 0, a, h, e => by
    obtain ⟨v, ws, h1, h2, h3⟩ := h
    have e' : AV.dat d = a := by simpa using e
    subst e'
    exact ⟨v, by rw [h1]; rfl, h2⟩
  | .own i :: r, vs, 0, a, h, e => by
    obtain ⟨v, ws, h1, h2, h3⟩ := h
    have e' : AV.own i = a := by simpa using e
    subst e'
    exact ⟨v, by rw [h1]; rfl, h2⟩
  | .dat d :: r, vs, k + 1, a, h, e => by
    obtain ⟨v, ws, h1, h2, h3⟩ := h
    obtain ⟨u, q1, q2⟩ := h3.get (k := k) (by simpa using e)
    exact ⟨u, by rw [h1]; simpa using q1, q2⟩
  | .own i :: r, vs, k + 1, a, h, e => by
    obtain ⟨v, ws, h1, h2, h3⟩ := h
    obtain ⟨u, q1, q2⟩ := h3.get (k := k) (by simpa using e)
    exact ⟨u, by rw [h1]; simpa using q1, q2⟩
def lV (K : PySem.W.Frag) (PL : PoolP) (dv : DV) : TA := fun σ H Q => ∃ G B c Qd, Conc K PL G B c σ H ∧ dv c Qd ∧ ∀ avs c' B' H' vs, Qd avs c' → Same B B' → Conc K PL G B' c' σ H' → AVOk K B' σ avs vs → Q vs H'
structure QV (X : Cx) (PL : PoolP) (es : List Expr) (dv : DV) : Prop where
  pa : PA X es (lV X.K PL dv)
theorem qv_of {es : List Expr} {t : TA} {da : DV} (h : PA X es t) (hw : ∀ G B c σ H Qd Q, Conc X.K PL G B c σ H → da c Qd → (∀ rs c' B' H' vs, Qd rs c' → Same B B' → Conc X.K PL G B' c' σ H' → AVOk X.K B' σ rs vs → Q vs H') → t σ H Q) : QV X PL es da :=
  ⟨PA.weak h fun σ H Q ⟨G, B, c, Qd, h1, h2, h3⟩ => hw G B c σ H Qd Q h1 h2 h3⟩
def vNil : DV := fun c Q => Q [] c
def vCons (de : DE) (dv : DV) : DV := fun c Q => de c fun r c1 => asD r c1 fun d c2 => dv c2 fun avs c3 => Q (.dat d :: avs) c3
def vOwn (i : Nat) (dv : DV) : DV := fun c Q => (gt c i matches .own _ | .arg _) ∧ dv c fun avs c3 => Q (.own i :: avs) c3
theorem qv_nil : QV X PL [] vNil := by
  refine qv_of pa_nil fun G B c σ H Qd Q hc hd2 hq => ?_
  exact hq [] c B H [] hd2 (Same.refl B) hc rfl
theorem qv_cons {e : Expr} {es : List Expr} {de : DE} {da : DV} (h : QE X PL e de) (h' : QV X PL es da) (hs : starEach (e :: es) X.env = (false, eval e X.env) :: starEach es X.env := by rfl) : QV X PL (e :: es) (vCons de da) := by
  refine qv_of (pa_cons h.pe h'.pa hs) fun G B c σ H Qd Q hc hd2 hq => ?_
  refine ⟨G, B, c, _, hc, hd2, fun r c1 B1 H1 v h1 e1 cr => ?_⟩
  obtain ⟨B2, c2, d, e2, hc2, rd, h2⟩ := asD_ok cr h1
  refine ⟨G, B2, c2, _, hc2, h2, fun rs c3 B3 H2 vs h3 e3 hc3 hl => ?_⟩
  exact hq _ c3 B3 H2 _ h3 ((e1.trans e2).trans e3) hc3 ⟨v, vs, rfl, rd.mono e3, hl⟩
theorem qv_own {i : Nat} {x : Str} {pos : Pos} {es : List Expr} {da : DV} (h : PE X (.Name x pos) (tVar i)) (h' : QV X PL es da) (hs : starEach (.Name x pos :: es) X.env = (false, eval (.Name x pos) X.env) :: starEach es X.env := by rfl) : QV X PL (.Name x pos :: es) (vOwn i da) := by
  refine qv_of (pa_cons h h'.pa hs) fun G B c σ H Qd Q hc hd2 hq => ?_
  obtain ⟨h0, h1⟩ := hd2
  have : ∃ a, σ[i]? = some (some (.ref a)) := by
    cases g : gt c i with
    | own o =>
      obtain ⟨a, fp, q, _⟩ := hc.getOb (.inl (gt_get g (by simp)))
      exact ⟨a, q⟩
    | arg o =>
      obtain ⟨a, fp, q, _⟩ := hc.getOb (.inr (gt_get g (by simp)))
      exact ⟨a, q⟩
    | no => rw [g] at h0; cases h0
    | dat d => rw [g] at h0; cases h0
  obtain ⟨a, ha⟩ := this
  refine ⟨.ref a, ha, G, B, c, _, hc, h1, fun rs c3 B3 H2 vs h3 e3 hc3 hl => ?_⟩
  exact hq _ c3 B3 H2 _ h3 e3 hc3 ⟨.ref a, vs, rfl, ha, hl⟩

/-! ### the call -/
theorem looks_get {c : CEnv} : ∀ {avs : List AV} {as : List AArg}, looks c avs = some as → as.length = avs.length ∧ ∀ (k : Nat) (a : AV), avs[k]? = some a → ∃ x, as[k]? = some x ∧ lookA c a = some x
  | [], as, h => by
    have e : [] = as := by simpa [looks] using h
    subst e
    exact ⟨rfl, fun k a e => by simp at e⟩
  | a :: r, as, h => by
    unfold looks at h
    cases g : lookA c a with
    | none => rw [g] at h; cases h
    | some x =>
      simp only [g] at h
      cases g2 : looks c r with
      | none => rw [g2] at h; cases h
      | some xs =>
        simp only [g2] at h
        have e : x :: xs = as := by simpa using h
        subst e
        obtain ⟨h1, h2⟩ := looks_get g2
        refine ⟨by simp [h1], fun k b e => ?_⟩
        cases k with
        | zero =>
          have e' : a = b := by simpa using e
          subst e'
          exact ⟨x, rfl, g⟩
        | succ k =>
          obtain ⟨y, q1, q2⟩ := h2 k b (by simpa using e)
          exact ⟨y, by simpa using q1, q2⟩
theorem lookA_own {c : CEnv} {i : Nat} {x : AArg} (h : lookA c (.own i) = some x) : ∃ o, x = .ob o ∧ (c[i]? = some (.own o) ∨ c[i]? = some (.arg o)) := by
  unfold lookA at h
  cases g : gt c i with
  | own o =>
    simp only [g] at h
    exact ⟨o, (Option.some.inj h).symm, .inl (gt_get g (by simp))⟩
  | arg o =>
    simp only [g] at h
    exact ⟨o, (Option.some.inj h).symm, .inr (gt_get g (by simp))⟩
  | no => simp only [g] at h; cases h
  | dat d => simp only [g] at h; cases h
/-- the position at which slot j is handed in -/
def posO : List AV → Nat → Option Nat
  | [], _ => none
  | .own i :: r, j => if i = j then some 0 else (posO r j).map (· + 1)
  | .dat _ :: r, j => (posO r j).map (· + 1)
theorem posO_some : ∀ {avs : List AV} {j k : Nat}, posO avs j = some k → avs[k]? = some (.own j)
  | [], j, k, h => by cases h
  | .own i :: r, j, k, h => by
    unfold posO at h
    by_cases e : i = j
    · rw [if_pos e] at h
      cases h
      rw [e]
      rfl
    · rw [if_neg e] at h
      cases g : posO r j with
      | none => rw [g] at h; cases h
      | some m =>
        rw [g] at h
        have e2 : m + 1 = k := by simpa using h
        subst e2
        simpa using posO_some g
  | .dat d :: r, j, k, h => by
    unfold posO at h
    cases g : posO r j with
    | none => rw [g] at h; cases h
    | some m =>
      rw [g] at h
      have e2 : m + 1 = k := by simpa using h
      subst e2
      simpa using posO_some g
theorem posO_none : ∀ {avs : List AV} {j : Nat}, posO avs j = none → ∀ k : Nat, avs[k]? ≠ some (.own j)
  | [], j, h, k => by simp
  | .own i :: r, j, h, k => by
    unfold posO at h
    by_cases e : i = j
    · rw [if_pos e] at h
      cases h
    · rw [if_neg e] at h
      cases g : posO r j with
      | some m => rw [g] at h; cases h
      | none =>
        cases k with
        | zero => simpa using e
        | succ k => simpa using posO_none g k
  | .dat d :: r, j, h, k => by
    unfold posO at h
    cases g : posO r j with
    | some m => rw [g] at h; cases h
    | none =>
      cases k with
      | zero => simp
      | succ k => simpa using posO_none g k
def retC (r : Res) (c : CEnv) (Q : Res → CEnv → Prop) : Prop := match r with
  | .dat d => Q (.dat d) c
  | .new o => Q (.new o) c
  | .sl _ => False
def callQ (F : FS) (avs : List AV) (c : CEnv) (Q : Res → CEnv → Prop) : Prop := nodupO avs = true ∧ match looks c avs with
  | none => False
  | some as => F as fun r as' => retC r (putA avs as' 0 c) Q
theorem call_ok {K : PySem.W.Frag} {n : Nat} {F : FS} {G : Ent} {B : Hp} {c : CEnv} {σ : L2.St} {H : Hp} {avs : List AV} {vs : List V} {Qd : Res → CEnv → Prop} {Q : VK} {E : XK} (hc : Conc K PL G B c σ H) (hv : AVOk K B σ avs vs) (hn : avs.length = n) (h : callQ F avs c Qd)
    (hq : ∀ r c' B' H' v, Qd r c' → Same B B' → CR K PL G B' c' σ H' r v → Q v H') : spC K PL n F vs H Q E := by
  obtain ⟨nd, h⟩ := h
  cases g : looks c avs with
  | none => simp only [g] at h
  | some as =>
  simp only [g] at h
  obtain ⟨Fc, C⟩ := hc
  obtain ⟨hl, hg⟩ := looks_get g
  have own_pos : ∀ (k i : Nat), avs[k]? = some (.own i) → i < c.length := fun k i e => by
    obtain ⟨x, _, q⟩ := hg k _ e
    obtain ⟨o, _, q | q⟩ := lookA_own q <;> exact (List.getElem?_eq_some_iff.mp q).1
  let fs : Nat → List Addr := fun k => match avs[k]? with
    | some (.own i) => Fc i
    | _ => []
  have fs_own : ∀ (k i : Nat), avs[k]? = some (.own i) → fs k = Fc i := fun k i e => by
    show (match avs[k]? with
      | some (.own i) => Fc i
      | _ => []) = _
    rw [e]
  have fs_mem : ∀ (k : Nat) (b : Addr), b ∈ fs k → ∃ i, avs[k]? = some (.own i) ∧ b ∈ Fc i := fun k b hb => by
    have hb' : b ∈ (match avs[k]? with
      | some (.own i) => Fc i
      | _ => []) := hb
    cases q : avs[k]? with
    | none => rw [q] at hb'; simp at hb'
    | some a =>
      rw [q] at hb'
      cases a with
      | own i => exact ⟨i, rfl, hb'⟩
      | dat d => simp at hb'
  refine ⟨B, as, fs, _, hl.trans hn, C.ex, ⟨hl.trans hv.length.symm, fun k a e => ?_⟩, ⟨fun k hk => ?_, fun k l hkl b hb hb' => ?_, fun k b hb => ?_⟩, h, ?_⟩
  · have hk : k < avs.length := by
      rw [← hl]
      exact (List.getElem?_eq_some_iff.mp e).1
    have ea := List.getElem?_eq_getElem hk
    obtain ⟨x, q1, q2⟩ := hg k _ ea
    rw [e] at q1
    cases q1
    obtain ⟨v, p1, p2⟩ := hv.get ea
    refine ⟨v, p1, ?_⟩
    generalize hav : avs[k] = av at *
    cases av with
    | dat d =>
      have e2 : AArg.dat d = a := Option.some.inj q2
      subst e2
      refine ⟨?_, p2⟩
      show (match avs[k]? with
        | some (.own i) => Fc i
        | _ => []) = _
      rw [ea]
    | own i =>
      obtain ⟨o, rfl, q3⟩ := lookA_own q2
      rw [show fs k = Fc i from fs_own k i ea]
      rcases q3 with q3 | q3
      · obtain ⟨y, s1, p, s2, s3, _⟩ := C.slots i _ q3
        have p2' : σ[i]? = some (some v) := p2
        rw [p2'] at s1
        cases s1
        cases s2
        exact ⟨p, rfl, s3⟩
      · obtain ⟨y, s1, p, s2, _, s3, _⟩ := C.slots i _ q3
        have p2' : σ[i]? = some (some v) := p2
        rw [p2'] at s1
        cases s1
        cases s2
        exact ⟨p, rfl, s3⟩
  · show (match avs[k]? with
      | some (.own i) => Fc i
      | _ => []) = _
    rw [List.getElem?_eq_none (by omega)]
  · obtain ⟨i, e1, m1⟩ := fs_mem k b hb
    obtain ⟨j, e2, m2⟩ := fs_mem l b hb'
    by_cases e : i = j
    · subst e
      exact hkl (nodupO_inj nd k l i e1 e2)
    · exact C.disj i j e b m1 m2
  · obtain ⟨i, e1, m1⟩ := fs_mem k b hb
    exact C.off i b m1
  · intro r as' B' H' v fs' hr sB nB sH fr kp ao ap mig kinds ro
    -- the own objects behind the call
    let F2 : Nat → List Addr := fun j => match posO avs j with
      | some k => fs' k
      | none => Fc j
    have F2s : ∀ {j k : Nat}, posO avs j = some k → F2 j = fs' k := fun {j k} e => by
      show (match posO avs j with
        | some k => fs' k
        | none => Fc j) = _
      rw [e]
    have F2n : ∀ {j : Nat}, posO avs j = none → F2 j = Fc j := fun {j} e => by
      show (match posO avs j with
        | some k => fs' k
        | none => Fc j) = _
      rw [e]
    have stays : ∀ {j : Nat}, posO avs j = none → ∀ b ∈ Fc j, H' b = H b := fun {j} e b hb => by
      cases q : H b with
      | none => exact absurd q (C.alive j b hb)
      | some o =>
        refine fr b o q fun k hk => ?_
        obtain ⟨i, e1, m1⟩ := fs_mem k b hk
        by_cases hij : i = j
        · subst hij
          exact posO_none e k e1
        · exact C.disj i j hij b m1 hb
    have mig2 : ∀ {j k : Nat}, posO avs j = some k → ∀ b ∈ fs' k, H b = none ∨ b ∈ Fc j := fun {j k} e b hb => by
      rcases mig k b hb with q | q
      · exact .inl q
      · rw [fs_own k j (posO_some e)] at q
        exact .inr q
    have C2 : ConcF K PL G B' (putA avs as' 0 c) σ H' F2 := by
      refine ⟨sH, C.bb.trans sB, fun a o q => ?_, fun a o q nf => ?_, fun a q => kp a (C.keep a q), by rw [putA_length]; exact C.len, fun j s hs => ?_, fun j hj => ?_, fun i j hij b hbi hbj => ?_, fun j b hb => ?_, fun a o q => ?_⟩
      · rcases nB a o q with z | z
        · exact C.new a o z
        · refine .inr ?_
          cases w : G.H a with
          | none => rfl
          | some u => exact absurd z (C.keep a (by rw [w]; simp))
      · refine fr a o (C.frame a o q nf) fun k hk => ?_
        obtain ⟨i, e1, m1⟩ := fs_mem k a hk
        obtain ⟨x, _, q2⟩ := hg k _ e1
        obtain ⟨u, _, q3 | q3⟩ := lookA_own q2
        · obtain ⟨y, s1, p, s2, s3, s4⟩ := C.slots i _ q3
          have := s4 a m1
          rw [q] at this
          cases this
        · obtain ⟨y, s1, p, s2, _, s3, s4⟩ := C.slots i _ q3
          rcases s4 a m1 with w | w
          · rw [q] at w
            cases w
          · exact nf i w
      · obtain ⟨t, h1, h2⟩ := putA_get avs as' 0 c j s hs
        rw [Nat.zero_add] at h2
        obtain ⟨o, h3, h4⟩ := C.slots j t h1
        refine ⟨o, h3, ?_⟩
        cases w : posO avs j with
        | none =>
          have on : ownAt avs as' j = none := by
            cases z : ownAt avs as' j with
            | none => rfl
            | some u =>
              obtain ⟨k, z1, _⟩ := ownAt_some z
              exact absurd z1 (posO_none w k)
          rw [on] at h2
          rw [F2n w, show s = t from h2]
          exact h4.mono sB (stays w)
        | some k =>
          have e1 := posO_some w
          obtain ⟨x, q1, q2⟩ := hg k _ e1
          obtain ⟨u, rfl, q3⟩ := lookA_own q2
          obtain ⟨u', q4⟩ := kinds k u q1
          obtain ⟨v', p1, p2⟩ := ao.2 k _ q4
          obtain ⟨p, rfl, p3⟩ := p2
          obtain ⟨v2, p4, p5⟩ := hv.get e1
          rw [p1] at p4
          cases p4
          have p5' : σ[j]? = some (some (.ref p)) := p5
          rw [h3] at p5'
          cases p5'
          have on : ownAt avs as' j = some u' := by
            cases z : ownAt avs as' j with
            | none => exact absurd q4 (ownAt_none z k u' e1)
            | some u2 =>
              obtain ⟨k2, z1, z2⟩ := ownAt_some z
              rw [nodupO_inj nd k2 k j z1 e1, q4] at z2
              cases z2
              rfl
          rw [on] at h2
          rw [F2s w]
          rcases q3 with q3 | q3
          · rw [h1] at q3
            cases q3
            have hs2 : s = .own u' := h2
            subst hs2
            obtain ⟨a2, s1, s2, s3⟩ := h4
            refine ⟨p, rfl, p3, fun b hb => ?_⟩
            rcases mig2 w b hb with z | z
            · cases y : G.H b with
              | none => rfl
              | some o' => exact absurd z (C.keep b (by rw [y]; simp))
            · exact s3 b z
          · rw [h1] at q3
            cases q3
            have hs2 : s = .arg u' := h2
            subst hs2
            obtain ⟨a2, s1, s1', s2, s3⟩ := h4
            cases s1
            refine ⟨p, rfl, s1', p3, fun b hb => ?_⟩
            rcases mig2 w b hb with z | z
            · refine .inl ?_
              cases y : G.H b with
              | none => rfl
              | some o' => exact absurd z (C.keep b (by rw [y]; simp))
            · exact s3 b z
      · rw [putA_length] at hj
        cases w : posO avs j with
        | none =>
          rw [F2n w]
          exact C.out j hj
        | some k => exact absurd (own_pos k j (posO_some w)) (by omega)
      · cases w : posO avs i with
        | none =>
          rw [F2n w] at hbi
          cases w2 : posO avs j with
          | none =>
            rw [F2n w2] at hbj
            exact C.disj i j hij b hbi hbj
          | some l =>
            rw [F2s w2] at hbj
            rcases mig2 w2 b hbj with z | z
            · exact C.alive i b hbi z
            · exact C.disj i j hij b hbi z
        | some k =>
          rw [F2s w] at hbi
          cases w2 : posO avs j with
          | none =>
            rw [F2n w2] at hbj
            rcases mig2 w b hbi with z | z
            · exact C.alive j b hbj z
            · exact C.disj i j hij b z hbj
          | some l =>
            rw [F2s w2] at hbj
            have hkl : k ≠ l := fun e => by
              subst e
              have e1 := posO_some w
              rw [posO_some w2] at e1
              cases e1
              exact hij rfl
            exact ap.disj k l hkl b hbi hbj
      · cases w : posO avs j with
        | none =>
          rw [F2n w] at hb
          cases q : B' b with
          | none => rfl
          | some o =>
            rcases nB b o q with z | z
            · rw [C.off j b hb] at z
              cases z
            · exact absurd z (C.alive j b hb)
        | some k =>
          rw [F2s w] at hb
          exact ap.off k b hb
      · obtain ⟨z1, z2, z3⟩ := C.pin a o q
        refine ⟨fr a o z1 fun k hk => ?_, ?_, fun j hj => ?_⟩
        · obtain ⟨i, e1, m1⟩ := fs_mem k a hk
          exact z3 i m1
        · cases w : B' a with
          | none => rfl
          | some u =>
            rcases nB a u w with y | y
            · rw [z2] at y
              cases y
            · rw [z1] at y
              cases y
        · cases w : posO avs j with
          | none =>
            rw [F2n w] at hj
            exact z3 j hj
          | some k =>
            rw [F2s w] at hj
            rcases mig2 w a hj with y | y
            · rw [z1] at y
              cases y
            · exact z3 j y
    cases r with
    | dat d => exact hq _ _ B' H' v hr sB ⟨⟨_, C2⟩, ro⟩
    | sl i => exact ro.elim
    | new o =>
      obtain ⟨p, fp, rfl, p2, p3⟩ := ro
      refine hq _ _ B' H' _ hr sB ⟨_, C2.push rfl p2 (fun b hb => ?_) (fun b hb => (p3 b hb).1) (fun j b hj hb => ?_) (fun b hb => ?_)⟩
      · cases y : G.H b with
        | none => rfl
        | some o' => exact absurd (p3 b hb).2.1 (C.keep b (by rw [y]; simp))
      · cases w : posO avs j with
        | none =>
          rw [F2n w] at hj
          exact C.alive j b hj (p3 b hb).2.1
        | some k =>
          rw [F2s w] at hj
          exact (p3 b hb).2.2 k hj
      · cases y : G.pin b with
        | none => rfl
        | some o' =>
          have := (C.pin b o' y).1
          rw [(p3 b hb).2.1] at this
          cases this
end
end Cl

namespace Cl
open PySem PySem.Spec PyProof.Rows L2

section
variable {X : Cx} {PL : PoolP}
/-! ### a call as an expression -/
def dCall (n : Nat) (F : FS) (dvs : List Dt) (dv : DV) : DE := fun c Q => dv c fun avs c1 => (avs ++ dvs.map AV.dat).length = n ∧ callQ F (avs ++ dvs.map AV.dat) c1 Q
theorem AVOk.app {K : PySem.W.Frag} {B : Hp} {σ : L2.St} : ∀ {avs bvs : List AV} {vs ws : List V}, AVOk K B σ avs vs → AVOk K B σ bvs ws → AVOk K B σ (avs ++ bvs) (vs ++ ws)
  | [], _, vs, ws, h, h' => by
    have e : vs = [] := h
    rw [e]
    exact h'
  | .dat d :: r, _, vs, ws, h, h' => by
    obtain ⟨v, us, h1, h2, h3⟩ := h
    exact ⟨v, us ++ ws, by rw [h1]; rfl, h2, h3.app h'⟩
  | .own i :: r, _, vs, ws, h, h' => by
    obtain ⟨v, us, h1, h2, h3⟩ := h
    exact ⟨v, us ++ ws, by rw [h1]; rfl, h2, h3.app h'⟩
theorem AVOk.dats {K : PySem.W.Frag} {B : Hp} {σ : L2.St} : ∀ {ds : List Dt} {vs : List V}, RepL K B ds vs → AVOk K B σ (ds.map AV.dat) vs
  | [], vs, h => by unfold RepL at h; exact h
  | d :: r, vs, h => by
    unfold RepL at h
    obtain ⟨x, q, h1, h2, h3⟩ := h
    exact ⟨x, q, h1, h2, AVOk.dats h3⟩
/-- what a caller knows of a def -/
structure Def (P : Program) (w : World) (K : PySem.W.Frag) (mg : Str → Option Value) (base : Heap) (PL : PoolP) (CX : CXT) (k : Nat) (x : Str) (st : Stmt) (dvs : List V) (kws : List (Str × V)) (ps : List Str) (F : FS) : Prop where
  ex : ∃ f fd, FnOk P w K mg base CX k f fd ps (spC K PL ps.length F) ∧ mg x = some (.ref f) ∧ PySem.W.keepIn K (.ref f) = true ∧ FunD K x x (defArgs st) (defBody st) (defScope st) dvs kws f fd
theorem Def.imp {P : Program} {w : World} {K : PySem.W.Frag} {mg : Str → Option Value} {base : Heap} {PL : PoolP} {CX : CXT} {k : Nat} {x : Str} {st : Stmt} {dvs : List V} {kws : List (Str × V)} {ps : List Str} {F F' : FS} (D : Def P w K mg base PL CX k x st dvs kws ps F) (h : ∀ as R, F' as R → F as R) : Def P w K mg base PL CX k x st dvs kws ps F' := by
  obtain ⟨f, fd, h1, h2, h3, h4⟩ := D.ex
  refine ⟨f, fd, h1.imp fun vs H Q E ⟨B, as, fs, R, g1, g2, g3, g4, g5, g6⟩ => ⟨B, as, fs, R, g1, g2, g3, g4, h _ _ g5, g6⟩, h2, h3, h4⟩
theorem Def.mono {P : Program} {w : World} {K : PySem.W.Frag} {mg : Str → Option Value} {base : Heap} {PL : PoolP} {CX : CXT} {j k : Nat} {x : Str} {st : Stmt} {dvs : List V} {kws : List (Str × V)} {ps : List Str} {F : FS} (D : Def P w K mg base PL CX j x st dvs kws ps F) (h : j ≤ k) : Def P w K mg base PL CX k x st dvs kws ps F := by
  obtain ⟨f, fd, h1, h2, h3, h4⟩ := D.ex
  exact ⟨f, fd, h1.mono h, h2, h3, h4⟩
/-- the last arguments by their defaults: dds what they are -/
theorem qe_call {P : Program} {w : World} {K : PySem.W.Frag} {mg : Str → Option Value} {base : Heap} {CX : CXT} {k : Nat} {x : Str} {st : Stmt} {dvs : List V} {kws : List (Str × V)} {ps : List Str} {F : FS} {p pos : Pos} {e : Expr} {es : List Expr} {dv : DV} {dds : List Dt} {E : XK} (D : Def P w K mg base PL CX k x st dvs kws ps F) (hP : X.prog = P) (hw : X.w = w) (hK : X.K = K) (hmg : X.mg = mg) (hb : X.base = base)
    (hbi : ∀ {f : Addr} {fd : FuncData}, FunD K x x (defArgs st) (defBody st) (defScope st) dvs kws f fd → ∃ ws ds, Vals ws ds ∧ (∀ B, RepL K B dds ws) ∧ Binds K fd ps ds)
    (ha : QV X PL (e :: es) dv) (hr : Room k X.A) (hg : Gl X x) (hx : Passes CX X E) (hdb : (x == ("__debug__" : Str)) = false := by decide) (he : starEach (e :: es) X.env = (false, eval e X.env) :: starEach es X.env := by rfl) (hpl : (backTo pos (starEach es X.env)).any (·.1) = false := by rfl) :
    QE X PL (.Call (.Name x p) (e :: es) [] pos) (dCall ps.length F dds dv) := by
  subst hP hw hK hmg hb
  obtain ⟨f, fd, hf, hm, hk, hfd⟩ := D.ex
  obtain ⟨ws, ds, hv, hrep, hbd⟩ := hbi hfd
  refine q_of (pe_call hf hr hg hm hk hbd hv hx ha.pa hdb he hpl) fun G B c σ H Qd Q hc hd2 hq => ?_
  refine ⟨G, B, c, _, hc, hd2, fun avs c1 B1 H1 vs ⟨hn, h1⟩ e1 hc1 hv => ?_⟩
  exact call_ok hc1 (hv.app (AVOk.dats (hrep B1))) hn h1 fun r c' B' H' v q e2 cr => hq r c' B' H' v q (e1.trans e2) cr
theorem qe_call0 {P : Program} {w : World} {K : PySem.W.Frag} {mg : Str → Option Value} {base : Heap} {CX : CXT} {k : Nat} {x : Str} {st : Stmt} {dvs : List V} {kws : List (Str × V)} {ps : List Str} {F : FS} {p pos : Pos} {dds : List Dt} {E : XK} (D : Def P w K mg base PL CX k x st dvs kws ps F) (hP : X.prog = P) (hw : X.w = w) (hK : X.K = K) (hmg : X.mg = mg) (hb : X.base = base)
    (hbi : ∀ {f : Addr} {fd : FuncData}, FunD K x x (defArgs st) (defBody st) (defScope st) dvs kws f fd → ∃ ws ds, Vals ws ds ∧ (∀ B, RepL K B dds ws) ∧ Binds K fd ps ds)
    (hr : Room k X.A) (hg : Gl X x) (hx : Passes CX X E) (hdb : (x == ("__debug__" : Str)) = false := by decide) : QE X PL (.Call (.Name x p) [] [] pos) (dCall ps.length F dds vNil) := by
  subst hP hw hK hmg hb
  obtain ⟨f, fd, hf, hm, hk, hfd⟩ := D.ex
  obtain ⟨ws, ds, hv, hrep, hbd⟩ := hbi hfd
  refine q_of (pe_call0 hf hr hg hm hk hbd hv hx hdb) fun G B c σ H Qd Q hc hd2 hq => ?_
  obtain ⟨hn, h1⟩ := hd2
  exact call_ok (E := E) hc (show AVOk X.K B σ (dds.map AV.dat) ws from AVOk.dats (hrep B)) hn h1 hq
/-! ### keywords -/
structure QK (X : Cx) (PL : PoolP) (kws : List Keyword) (dv : DV) : Prop where
  pk : PK X kws (lV X.K PL dv)
theorem PK.weak {kws : List Keyword} {t t' : TA} (h : PK X kws t) (hw : ∀ σ H Q, t' σ H Q → t σ H Q) : PK X kws t' := ⟨fun pos pins s σ H Q I q => h.run pos pins s σ H Q I (hw _ _ _ q)⟩
theorem qk_nil : QK X PL [] vNil := ⟨PK.weak pk_nil fun σ H Q ⟨G, B, c, Qd, h1, h2, h3⟩ => h3 [] c B H [] h2 (Same.refl B) h1 rfl⟩
theorem qk_cons {nm : Option Str} {e : Expr} {kpos : Pos} {kws : List Keyword} {de : DE} {dv : DV} (h : QE X PL e de) (h' : QK X PL kws dv) : QK X PL (⟨nm, e, kpos⟩ :: kws) (vCons de dv) :=
  ⟨PK.weak (pk_cons h.pe h'.pk) fun σ H Q ⟨G, B, c, Qd, hc, hd2, hq⟩ => by
    refine ⟨G, B, c, _, hc, hd2, fun r c1 B1 H1 v h1 e1 cr => ?_⟩
    obtain ⟨B2, c2, d, e2, hc2, rd, h2⟩ := asD_ok cr h1
    refine ⟨G, B2, c2, _, hc2, h2, fun rs c3 B3 H2 vs h3 e3 hc3 hl => ?_⟩
    exact hq _ c3 B3 H2 _ h3 ((e1.trans e2).trans e3) hc3 ⟨v, vs, rfl, rd.mono e3, hl⟩⟩
/-- gA: the positional arguments and the keywords' in the parameters' order, defaults among them -/
def dCallK (n np nk : Nat) (F : FS) (gA : List AV → List AV → List AV) (dv dk : DV) : DE := fun c Q => dv c fun avs c1 => dk c1 fun kvs c2 => (avs.length = np ∧ kvs.length = nk ∧ (gA avs kvs).length = n) ∧ callQ F (gA avs kvs) c2 Q
theorem qe_callN {P : Program} {w : World} {K : PySem.W.Frag} {mg : Str → Option Value} {base : Heap} {CX : CXT} {k n : Nat} {x : Str} {st : Stmt} {dvs : List V} {kws : List (Str × V)} {ps ks : List Str} {F : FS} {p pos : Pos} {e : Expr} {es : List Expr} {kwl : List Keyword} {dv dk : DV} {gA : List AV → List AV → List AV} {E : XK}
    (D : Def P w K mg base PL CX k x st dvs kws ps F) (hP : X.prog = P) (hw : X.w = w) (hK : X.K = K) (hmg : X.mg = mg) (hb : X.base = base)
    (hbi : ∀ {f : Addr} {fd : FuncData}, FunD K x x (defArgs st) (defBody st) (defScope st) dvs kws f fd → ∃ g gV, KBn K fd ps n ks g gV ∧ ∀ B σ avs kvs vs zs, avs.length = n → kvs.length = ks.length → AVOk K B σ avs vs → AVOk K B σ kvs zs → AVOk K B σ (gA avs kvs) (gV vs zs))
    (ha : QV X PL (e :: es) dv) (hkw : QK X PL kwl dk) (hr : Room k X.A) (hg : Gl X x) (hx : Passes CX X E) (hall : (backToKw pos (keywordEach kwl X.env)).all (·.1.isSome) = true := by rfl) (hks : (backToKw pos (keywordEach kwl X.env)).filterMap (·.1) = ks := by rfl)
    (hdb : (x == ("__debug__" : Str)) = false := by decide) (he : starEach (e :: es) X.env = (false, eval e X.env) :: starEach es X.env := by rfl)
    (hpl : ((backTo pos (starEach (e :: es) X.env)).any (·.1) || (backToKw pos (keywordEach kwl X.env)).any (·.1.isNone)) = false := by rfl) :
    QE X PL (.Call (.Name x p) (e :: es) kwl pos) (dCallK ps.length n ks.length F gA dv dk) := by
  subst hP hw hK hmg hb
  obtain ⟨f, fd, hf, hm, hk, hfd⟩ := D.ex
  obtain ⟨g, gV, hkb, hrel⟩ := hbi hfd
  refine q_of (pe_callN hf hr hg hm hk hkb hx ha.pa hkw.pk hall hks hdb he hpl) fun G B c σ H Qd Q hc hd2 hq => ?_
  refine ⟨G, B, c, _, hc, hd2, fun avs c1 B1 H1 vs q1 e1 hc1 hv => ?_⟩
  refine ⟨G, B1, c1, _, hc1, q1, fun kvs c2 B2 H2 zs q2 e2 hc2 hz => ?_⟩
  obtain ⟨⟨l1, l2, l3⟩, q3⟩ := q2
  have hv2 := hv.mono e2
  exact ⟨hv2.length.trans l1, hz.length.trans l2, call_ok (E := E) hc2 (hrel B2 σ avs kvs vs zs l1 l2 hv2 hz) l3 q3 fun r c' B' H' v q e3 cr => hq r c' B' H' v q ((e1.trans e2).trans e3) cr⟩
/-- keywords alone -/
theorem qe_callN0 {P : Program} {w : World} {K : PySem.W.Frag} {mg : Str → Option Value} {base : Heap} {CX : CXT} {k : Nat} {x : Str} {st : Stmt} {dvs : List V} {kws : List (Str × V)} {ps ks : List Str} {F : FS} {p pos : Pos} {kwl : List Keyword} {dk : DV} {gA : List AV → List AV → List AV} {E : XK}
    (D : Def P w K mg base PL CX k x st dvs kws ps F) (hP : X.prog = P) (hw : X.w = w) (hK : X.K = K) (hmg : X.mg = mg) (hb : X.base = base)
    (hbi : ∀ {f : Addr} {fd : FuncData}, FunD K x x (defArgs st) (defBody st) (defScope st) dvs kws f fd → ∃ g gV, KBn K fd ps 0 ks g gV ∧ ∀ B σ avs kvs vs zs, avs.length = 0 → kvs.length = ks.length → AVOk K B σ avs vs → AVOk K B σ kvs zs → AVOk K B σ (gA avs kvs) (gV vs zs))
    (hkw : QK X PL kwl dk) (hr : Room k X.A) (hg : Gl X x) (hx : Passes CX X E) (hall : (backToKw pos (keywordEach kwl X.env)).all (·.1.isSome) = true := by rfl) (hks : (backToKw pos (keywordEach kwl X.env)).filterMap (·.1) = ks := by rfl)
    (hdb : (x == ("__debug__" : Str)) = false := by decide) (hpl : ((backTo pos (starEach [] X.env)).any (·.1) || (backToKw pos (keywordEach kwl X.env)).any (·.1.isNone)) = false := by rfl) :
    QE X PL (.Call (.Name x p) [] kwl pos) (dCallK ps.length 0 ks.length F gA vNil dk) := by
  subst hP hw hK hmg hb
  obtain ⟨f, fd, hf, hm, hk, hfd⟩ := D.ex
  obtain ⟨g, gV, hkb, hrel⟩ := hbi hfd
  have key : PE X (.Call (.Name x p) [] kwl pos) (fun σ H Q => lV X.K PL dk σ H fun zs H2 => zs.length = ks.length ∧ spC X.K PL ps.length F (gV [] zs) H2 Q E) := by
    refine ⟨fun pins s σ H Q I hw => wpAny_Call_Name_kw (ld_glob I hg hm ?_ hdb)⟩
    refine PySem.W.callWith_KW0 (h₀ := X.base) I.ok.mod.kin hk hall (thn (hkw.pk.run pos pins s σ H _ I hw) fun ws s2 ⟨zs, H2, I2, rz, l2, q2⟩ => ⟨I2.kIn, ?_⟩) hpl
    rw [hks]
    exact run_fnN (us := []) (vs := []) hf hr hkb hx I2 .nil rz rfl l2 q2
  refine q_of key fun G B c σ H Qd Q hc hd2 hq => ?_
  refine ⟨G, B, c, _, hc, hd2, fun kvs c2 B2 H2 zs q2 e2 hc2 hz => ?_⟩
  obtain ⟨⟨l1, l2, l3⟩, q3⟩ := q2
  exact ⟨hz.length.trans l2, call_ok (E := E) hc2 (hrel B2 σ [] kvs [] zs rfl l2 rfl hz) l3 q3 fun r c' B' H' v q e3 cr => hq r c' B' H' v q (e2.trans e3) cr⟩

/-! ### a def, by its body -/
def toSlot : AArg → Slot
  | .dat d => .dat d
  | .ob o => .arg o
def c0 (as : List AArg) (m : Nat) : CEnv := as.map toSlot ++ List.replicate (m - as.length) .no
def backA : List AArg → CEnv → Option (List AArg)
  | [], _ => some []
  | .dat d :: as, _ :: c => (backA as c).map (.dat d :: ·)
  | .ob _ :: as, .arg o :: c => (backA as c).map (.ob o :: ·)
  | _, _ => none
def bk (as : List AArg) (c : CEnv) (k : List AArg → Prop) : Prop := match backA as c with
  | some as' => k as'
  | none => False
def retB (as : List AArg) (R : Res → List AArg → Prop) (r : Res) (c : CEnv) : Prop := match r with
  | .dat d => bk as c (R (.dat d))
  | .new o => bk as c (R (.new o))
  | .sl i => match gt c i with
    | .own o => bk as c (R (.new o))
    | _ => False
def fnEnds (as : List AArg) (R : Res → List AArg → Prop) : CEnds := { nx := fun c => bk as c (R (.dat .non)), rt := retB as R }
theorem backA_ok : ∀ {as : List AArg} {c : CEnv} {as' : List AArg}, backA as c = some as' → as'.length = as.length ∧ ∀ (k : Nat) (a : AArg), as'[k]? = some a → (∃ d, a = .dat d ∧ as[k]? = some (.dat d)) ∨ (∃ o o', a = .ob o ∧ as[k]? = some (.ob o') ∧ c[k]? = some (.arg o))
  | [], c, as', h => by
    have e : [] = as' := by simpa [backA] using h
    subst e
    exact ⟨rfl, fun k a e => by simp at e⟩
  | .dat d :: as, [], as', h => by cases h
  | .ob o :: as, [], as', h => by cases h
  | .dat d :: as, s :: c, as', h => by
    unfold backA at h
    cases g : backA as c with
    | none => rw [g] at h; cases h
    | some r =>
      rw [g] at h
      have e : .dat d :: r = as' := by simpa using h
      subst e
      obtain ⟨h1, h2⟩ := backA_ok g
      refine ⟨by simp [h1], fun k a e => ?_⟩
      cases k with
      | zero =>
        have e' : AArg.dat d = a := by simpa using e
        subst e'
        exact .inl ⟨d, rfl, rfl⟩
      | succ k =>
        rcases h2 k a (by simpa using e) with ⟨d', q1, q2⟩ | ⟨o, o', q1, q2, q3⟩
        · exact .inl ⟨d', q1, by simpa using q2⟩
        · exact .inr ⟨o, o', q1, by simpa using q2, by simpa using q3⟩
  | .ob u :: as, .arg o :: c, as', h => by
    unfold backA at h
    cases g : backA as c with
    | none => rw [g] at h; cases h
    | some r =>
      rw [g] at h
      have e : .ob o :: r = as' := by simpa using h
      subst e
      obtain ⟨h1, h2⟩ := backA_ok g
      refine ⟨by simp [h1], fun k a e => ?_⟩
      cases k with
      | zero =>
        have e' : AArg.ob o = a := by simpa using e
        subst e'
        exact .inr ⟨o, u, rfl, rfl, rfl⟩
      | succ k =>
        rcases h2 k a (by simpa using e) with ⟨d', q1, q2⟩ | ⟨o, o', q1, q2, q3⟩
        · exact .inl ⟨d', q1, by simpa using q2⟩
        · exact .inr ⟨o, o', q1, by simpa using q2, by simpa using q3⟩
  | .ob u :: as, .no :: c, as', h => by cases h
  | .ob u :: as, .dat _ :: c, as', h => by cases h
  | .ob u :: as, .own _ :: c, as', h => by cases h
theorem backA_kinds : ∀ {as : List AArg} {c : CEnv} {as' : List AArg}, backA as c = some as' → ∀ (k : Nat) (o : Ob), as[k]? = some (.ob o) → ∃ o', as'[k]? = some (.ob o')
  | as, c, as', h, k, o, e => by
    obtain ⟨h1, h2⟩ := backA_ok h
    have hk : k < as'.length := by
      rw [h1]
      exact (List.getElem?_eq_some_iff.mp e).1
    rcases h2 k _ (List.getElem?_eq_getElem hk) with ⟨d, _, q⟩ | ⟨o', _, q1, _, _⟩
    · rw [e] at q
      cases q
    · exact ⟨o', by rw [List.getElem?_eq_getElem hk, q1]⟩
theorem start_get {N : List Str} {vs : List V} {i : Nat} {v : V} (h : vs[i]? = some v) : (L2.start N vs)[i]? = some (some v) := by
  unfold L2.start
  have hi := (List.getElem?_eq_some_iff.mp h).1
  rw [List.getElem?_append_left (by simpa using hi), List.getElem?_map, h]
  rfl
/-- the state at a def's entry -/
theorem conc_start {K : PySem.W.Frag} {B H : Hp} {n : Nat} {as : List AArg} {vs : List V} {fs : Nat → List Addr} {N : List Str} (hn : as.length = n) (hN : n ≤ N.length) (sB : Same B H) (ao : ArgsOk K PL B H as vs fs) (ap : Apart B H n fs) :
    ConcF K PL ⟨B, H, fun i => match as[i]?, vs[i]? with
      | some (.ob _), some (.ref p) => some p
      | _, _ => none, fs, fun _ => none⟩ B (c0 as N.length) (L2.start N vs) H fs := by
  obtain ⟨al, ag⟩ := ao
  refine ⟨sB, Same.refl B, fun a o q => .inl q, fun a o q _ => q, fun a q => q, ?_, fun i s hs => ?_, fun i hi => ?_, ap.disj, ap.off, fun a o q => by cases q⟩
  · unfold c0 L2.start
    rw [List.length_append, List.length_map, List.length_replicate, List.length_append, List.length_map, List.length_replicate, al]
  · unfold c0 at hs
    by_cases hi : i < as.length
    · rw [List.getElem?_append_left (by simpa using hi), List.getElem?_map, List.getElem?_eq_getElem hi] at hs
      have es : toSlot as[i] = s := by simpa using hs
      subst es
      obtain ⟨v, h1, h2⟩ := ag i _ (List.getElem?_eq_getElem hi)
      refine ⟨some v, start_get h1, ?_⟩
      generalize hav : as[i] = a at *
      have ea : as[i]? = some a := by rw [List.getElem?_eq_getElem hi, hav]
      cases a with
      | dat d => exact ⟨h2.1, v, rfl, h2.2⟩
      | ob o =>
        obtain ⟨p, rfl, h3⟩ := h2
        refine ⟨p, rfl, ?_, h3, fun b hb => .inr hb⟩
        show (match as[i]?, vs[i]? with
          | some (.ob _), some (.ref p) => some p
          | _, _ => none) = _
        rw [ea, h1]
    · rw [List.getElem?_append_right (by simpa using hi)] at hs
      rw [List.getElem?_replicate] at hs
      split at hs
      · rename_i hlt
        cases hs
        have hi2 : i < (L2.start N vs).length := by
          unfold L2.start
          rw [List.length_append, List.length_map, List.length_replicate, ← al]
          rw [List.length_map] at hlt
          omega
        exact ⟨_, List.getElem?_eq_getElem hi2, ap.out i (by omega)⟩
      · cases hs
  · unfold c0 at hi
    rw [List.length_append, List.length_map, List.length_replicate] at hi
    exact ap.out i (by omega)
/-- handing back -/
theorem conc_back {K : PySem.W.Frag} {B H : Hp} {n : Nat} {as as' : List AArg} {vs : List V} {fs : Nat → List Addr} {G : Ent} {B' : Hp} {c' : CEnv} {σ' : L2.St} {H' : Hp} {F' : Nat → List Addr} (hn : as.length = n) (hGB : G.B = B) (hGH : G.H = H) (hGf : G.fp = fs)
    (hGo : ∀ i o, as[i]? = some (.ob o) → ∀ p, G.ow i = some p → vs[i]? = some (.ref p)) (ao : ArgsOk K PL B H as vs fs) (C : ConcF K PL G B' c' σ' H' F') (hb : backA as c' = some as') :
    ∃ fs' : Nat → List Addr, (∀ k b, b ∈ fs' k → b ∈ F' k ∧ ∃ o, c'[k]? = some (.arg o)) ∧ Same B B' ∧ (∀ a o, B' a = some o → B a = some o ∨ H a = none) ∧ Same B' H' ∧ (∀ a o, H a = some o → (∀ k, a ∉ fs k) → H' a = some o) ∧ (∀ a, H a ≠ none → H' a ≠ none) ∧
      ArgsOk K PL B' H' as' vs fs' ∧ Apart B' H' n fs' ∧ (∀ k, ∀ b ∈ fs' k, H b = none ∨ b ∈ fs k) ∧ (∀ (k : Nat) (o : Ob), as[k]? = some (AArg.ob o) → ∃ o' : Ob, as'[k]? = some (AArg.ob o')) := by
  subst hGB hGH hGf
  obtain ⟨h1, h2⟩ := backA_ok hb
  let fs' : Nat → List Addr := fun k => match as'[k]? with
    | some (.ob _) => F' k
    | _ => []
  have mem : ∀ k b, b ∈ fs' k → b ∈ F' k ∧ ∃ o, as'[k]? = some (.ob o) := fun k b hb' => by
    have hb2 : b ∈ (match as'[k]? with
      | some (.ob _) => F' k
      | _ => []) := hb'
    cases q : as'[k]? with
    | none => rw [q] at hb2; simp at hb2
    | some a =>
      rw [q] at hb2
      cases a with
      | dat d => simp at hb2
      | ob o => exact ⟨hb2, o, rfl⟩
  have argK : ∀ (k : Nat) (o : Ob), as'[k]? = some (AArg.ob o) → c'[k]? = some (Slot.arg o) ∧ ∃ o' : Ob, as[k]? = some (AArg.ob o') := fun k o e => by
    rcases h2 k _ e with ⟨d, q, _⟩ | ⟨u, u', q1, q2, q3⟩
    · cases q
    · cases q1
      exact ⟨q3, u', q2⟩
  refine ⟨fs', fun k b hb' => ?_, C.bb, C.new, C.ex, C.frame, C.keep, ⟨by rw [h1, ao.1], fun k a e => ?_⟩, ⟨fun k hk => ?_, fun k l hkl b hk hl => ?_, fun k b hb' => C.off k b (mem k b hb').1⟩, fun k b hb' => ?_, backA_kinds hb⟩
  · obtain ⟨m1, o, m2⟩ := mem k b hb'
    exact ⟨m1, o, (argK k o m2).1⟩
  · rcases h2 k a e with ⟨d, rfl, q⟩ | ⟨o, o', rfl, q2, q3⟩
    · obtain ⟨v, p1, p2, p3⟩ := ao.2 k _ q
      refine ⟨v, p1, ?_, p3.mono C.bb⟩
      show (match as'[k]? with
        | some (.ob _) => F' k
        | _ => []) = _
      rw [e]
    · obtain ⟨x, s1, p, s2, s3, s4, _⟩ := C.slots k _ q3
      refine ⟨.ref p, hGo k o' q2 p s3, p, rfl, ?_⟩
      have : fs' k = F' k := by
        show (match as'[k]? with
          | some (.ob _) => F' k
          | _ => []) = _
        rw [e]
      rw [this]
      exact s4
  · show (match as'[k]? with
      | some (.ob _) => F' k
      | _ => []) = _
    rw [List.getElem?_eq_none (by omega)]
  · exact C.disj k l hkl b (mem k b hk).1 (mem l b hl).1
  · obtain ⟨m1, o, m2⟩ := mem k b hb'
    obtain ⟨x, s1, p, s2, s3, s4, s5⟩ := C.slots k _ (argK k o m2).1
    exact s5 b m1
theorem bk_ok {as : List AArg} {c : CEnv} {k : List AArg → Prop} (h : bk as c k) : ∃ as', backA as c = some as' ∧ k as' := by
  unfold bk at h
  cases g : backA as c with
  | none => simp only [g] at h
  | some as' =>
    simp only [g] at h
    exact ⟨as', rfl, h⟩
theorem fnC {P : Program} {w : World} {K : PySem.W.Frag} {mg : Str → Option Value} {base : Heap} {x qual : Str} {st : Stmt} {dvs : List V} {kws : List (Str × V)} {f : Addr} {fd : FuncData} {N ps : List Str} {k : Nat} {F : FS} {ds : DS} (Fn : FunD K x qual (defArgs st) (defBody st) (defScope st) dvs kws f fd) (Sc : FnScope N ps (defScope st))
    (body : ∀ (cdv : Value) (A : Around) (outer : List Env) (s : Shared) (H : Hp) (E : XK), Room k (A.deeper (envOfC qual (defScope st) s.heap.objs.size f cdv)) → QSs (cxOf CX0 P w K mg base N qual (defScope st) f cdv A outer s H E).nox PL (defBody st) ds)
    (red : ∀ as R, as.length = ps.length → F as R → ds (fnEnds as R) (c0 as N.length)) : FnOk P w K mg base CX0 (k + 1) f fd ps (spC K PL ps.length F) := by
  have hN : ps.length ≤ N.length := by
    have := congrArg List.length Sc.pre
    rw [List.length_take] at this
    omega
  refine Fn.ok Sc (fun vs H Q E h => ?_) fun cdv A outer s H vs Q E hr h => ?_
  · obtain ⟨B, as, fs, R, h1, _, h3, _⟩ := h
    rw [← h3.1, h1]
  · obtain ⟨B, as, fs, R, hn, sB, ao, ap, hF, q⟩ := h
    have fin : ∀ (G : Ent), G.B = B → G.H = H → G.fp = fs → (∀ i o, as[i]? = some (.ob o) → ∀ p, G.ow i = some p → vs[i]? = some (.ref p)) → ∀ (r : Res) (c' : CEnv) (B' : Hp) (σ' : L2.St) (H' : Hp) (v : V), retB as R r c' → CR K PL G B' c' σ' H' r v → Q v H' := by
      intro G g1 g2 g3 g4 r c' B' σ' H' v hr' cr
      cases r with
      | dat d =>
        obtain ⟨as', b1, b2⟩ := bk_ok (show bk as c' (R (.dat d)) from hr')
        obtain ⟨⟨F', C⟩, rd⟩ := cr
        obtain ⟨fs', m0, m1, m2, m3, m4, m5, m6, m7, m8, m9⟩ := conc_back hn g1 g2 g3 g4 ao C b1
        exact q _ as' B' H' v fs' b2 m1 m2 m3 m4 m5 m6 m7 m8 m9 rd
      | new o =>
        obtain ⟨as', b1, b2⟩ := bk_ok (show bk as c' (R (.new o)) from hr')
        obtain ⟨F2, C2⟩ := (show Conc K PL G B' (c' ++ [.own o]) (σ' ++ [some v]) H' from cr)
        have C := C2.pop
        obtain ⟨fs', m0, m1, m2, m3, m4, m5, m6, m7, m8, m9⟩ := conc_back hn g1 g2 g3 g4 ao C b1
        have hl : c'.length = σ'.length := by simpa using C2.len
        obtain ⟨y, s1, p, s2, s3, s4⟩ := C2.slots c'.length (.own o) (by rw [List.getElem?_append_right (Nat.le_refl _)]; simp)
        rw [hl, List.getElem?_append_right (Nat.le_refl _)] at s1
        have ey : y = some v := by simpa using s1.symm
        subst ey
        have ev : v = .ref p := Option.some.inj s2
        refine q _ as' B' H' v fs' b2 m1 m2 m3 m4 m5 m6 m7 m8 m9 ⟨p, F2 c'.length, ev, s3, fun b hb => ⟨C2.off _ b hb, by rw [← g2]; exact s4 b hb, fun k hk => ?_⟩⟩
        obtain ⟨z1, o2, z2⟩ := m0 k b hk
        have hk2 : k < c'.length := (List.getElem?_eq_some_iff.mp z2).1
        simp only [hk2, if_true] at z1
        exact C2.disj k c'.length (by omega) b z1 hb
      | sl i =>
        have hr2 : (match gt c' i with
          | .own o => bk as c' (R (.new o))
          | _ => False) := hr'
        cases g : gt c' i with
        | no => simp only [g] at hr2
        | dat d => simp only [g] at hr2
        | arg o => simp only [g] at hr2
        | own o =>
          simp only [g] at hr2
          obtain ⟨as', b1, b2⟩ := bk_ok hr2
          obtain ⟨⟨F', C⟩, rv⟩ := cr
          obtain ⟨fs', m0, m1, m2, m3, m4, m5, m6, m7, m8, m9⟩ := conc_back hn g1 g2 g3 g4 ao C b1
          have gi := gt_get g (by simp)
          obtain ⟨y, s1, p, s2, s3, s4⟩ := C.slots i _ gi
          rw [rv] at s1
          cases s1
          cases s2
          refine q _ as' B' H' _ fs' b2 m1 m2 m3 m4 m5 m6 m7 m8 m9 ⟨p, F' i, rfl, s3, fun b hb => ⟨C.off _ b hb, by rw [← g2]; exact s4 b hb, fun k hk => ?_⟩⟩
          obtain ⟨z1, o2, z2⟩ := m0 k b hk
          have hki : k ≠ i := fun e => by
            rw [e, gi] at z2
            cases z2
          exact C.disj k i hki b z1 hb
    refine ⟨_, (body cdv A outer s H E hr).pss.nox, _, B, _, _, ⟨_, conc_start hn (by omega) sB ao ap⟩, red as R hn hF, ?_, ?_, ?_, ?_⟩
    · intro c' B' σ' H' hx e hc
      exact fin _ rfl rfl rfl (fun i o e1 p e2 => by
        have e3 : (match as[i]?, vs[i]? with
          | some (.ob _), some (.ref p) => some p
          | _, _ => none) = some p := e2
        rw [e1] at e3
        cases g : vs[i]? with
        | none => rw [g] at e3; cases e3
        | some u =>
          rw [g] at e3
          cases u with
          | ref a => rw [show a = p from Option.some.inj e3]
          | _ => cases e3) (.dat .non) c' B' σ' H' .non hx ⟨hc, by unfold Rep; rfl⟩
    · intro r c' B' σ' H' v hx cr
      exact fin _ rfl rfl rfl (fun i o e1 p e2 => by
        have e3 : (match as[i]?, vs[i]? with
          | some (.ob _), some (.ref p) => some p
          | _, _ => none) = some p := e2
        rw [e1] at e3
        cases g : vs[i]? with
        | none => rw [g] at e3; cases e3
        | some u =>
          rw [g] at e3
          cases u with
          | ref a => rw [show a = p from Option.some.inj e3]
          | _ => cases e3) r c' B' σ' H' v hx cr
    · intro c' B' σ' H' hx e hc
      exact hx.elim
    · intro c' B' σ' H' hx e hc
      exact hx.elim
end
end Cl

namespace Cl
open PySem PySem.Spec PyProof.Rows L2

/-! ### list comprehensions -/
section
variable {K : PySem.W.Frag} {PL : PoolP} {G : Ent} {B : Hp} {c c' : CEnv} {σ σ' : L2.St} {H : Hp}
open Classical in
/-- other slots, of which each is as before, forgotten, or plain data -/
theorem Conc.swap (h : Conc K PL G B c σ H) (hl : c'.length = σ'.length) (hl2 : c'.length = c.length) (hs : ∀ i, i < c'.length → (c'[i]? = c[i]? ∧ σ'[i]? = σ[i]?) ∨ c'[i]? = some .no ∨ ∃ d v, c'[i]? = some (.dat d) ∧ σ'[i]? = some (some v) ∧ Rep K B d v) : Conc K PL G B c' σ' H := by
  obtain ⟨F, C⟩ := h
  refine ⟨fun i => if c'[i]? = c[i]? ∧ σ'[i]? = σ[i]? then F i else [], C.ex, C.bb, C.new, C.frame, C.keep, hl, fun i s e => ?_, fun i hi => ?_, fun i j hij b hi hj => ?_, fun i b hb => ?_, fun a o q => ⟨(C.pin a o q).1, (C.pin a o q).2.1, fun i hi => ?_⟩⟩
  · by_cases w : c'[i]? = c[i]? ∧ σ'[i]? = σ[i]?
    · rw [if_pos w]
      obtain ⟨o, h1, h2⟩ := C.slots i s (w.1.symm.trans e)
      exact ⟨o, w.2.trans h1, h2⟩
    · rw [if_neg w]
      have hi := (List.getElem?_eq_some_iff.mp e).1
      rcases hs i hi with z | z | ⟨d, v, z1, z2, z3⟩
      · exact absurd z w
      · rw [e] at z
        cases z
        exact ⟨_, List.getElem?_eq_getElem (by omega), rfl⟩
      · rw [e] at z1
        cases z1
        exact ⟨_, z2, rfl, v, rfl, z3⟩
  · show (if c'[i]? = c[i]? ∧ σ'[i]? = σ[i]? then F i else []) = []
    split
    · exact C.out i (by omega)
    · rfl
  · split at hi
    · split at hj
      · exact C.disj i j hij b hi hj
      · simp at hj
    · simp at hi
  · split at hb
    · exact C.off i b hb
    · simp at hb
  · split at hi
    · exact (C.pin a o q).2.2 i hi
    · simp at hi
end
def wipeC : List Nat → CEnv → CEnv
  | [], c => c
  | v :: vs, c => (wipeC vs c).set v .no
def unw : List Nat → CEnv → CEnv → CEnv
  | [], _, c => c
  | v :: vs, c1, c => (unw vs c1 c).set v (match gt c1 v with
    | .dat d => .dat d
    | _ => .no)
theorem wipeC_length (c : CEnv) : ∀ vs, (wipeC vs c).length = c.length
  | [] => rfl
  | v :: vs => by
    unfold wipeC
    rw [List.length_set, wipeC_length c vs]
theorem wipeC_in {c : CEnv} {i : Nat} (hi : i < c.length) : ∀ {vs : List Nat}, i ∈ vs → (wipeC vs c)[i]? = some .no
  | [], h => by simp at h
  | v :: vs, h => by
    unfold wipeC
    by_cases e : v = i
    · subst e
      exact List.getElem?_set_self (by rw [wipeC_length]; exact hi)
    · rw [List.getElem?_set_ne e]
      exact wipeC_in hi (by simpa [Ne.symm e] using h)
theorem wipeC_out {c : CEnv} {i : Nat} : ∀ {vs : List Nat}, i ∉ vs → (wipeC vs c)[i]? = c[i]?
  | [], h => rfl
  | v :: vs, h => by
    unfold wipeC
    simp only [List.mem_cons, not_or] at h
    rw [List.getElem?_set_ne (Ne.symm h.1)]
    exact wipeC_out h.2
theorem unw_length (c1 c : CEnv) : ∀ vs, (unw vs c1 c).length = c.length
  | [] => rfl
  | v :: vs => by
    unfold unw
    rw [List.length_set, unw_length c1 c vs]
theorem unw_in {c1 c : CEnv} {i : Nat} (hi : i < c.length) : ∀ {vs : List Nat}, i ∈ vs → (unw vs c1 c)[i]? = some (match gt c1 i with
    | .dat d => .dat d
    | _ => .no)
  | [], h => by simp at h
  | v :: vs, h => by
    unfold unw
    by_cases e : v = i
    · subst e
      exact List.getElem?_set_self (by rw [unw_length]; exact hi)
    · rw [List.getElem?_set_ne e]
      exact unw_in hi (by simpa [Ne.symm e] using h)
theorem unw_out {c1 c : CEnv} {i : Nat} : ∀ {vs : List Nat}, i ∉ vs → (unw vs c1 c)[i]? = c[i]?
  | [], h => rfl
  | v :: vs, h => by
    unfold unw
    simp only [List.mem_cons, not_or] at h
    rw [List.getElem?_set_ne (Ne.symm h.1)]
    exact unw_out h.2
section
variable {K : PySem.W.Frag} {PL : PoolP} {G : Ent} {B : Hp} {c c1 : CEnv} {σ : L2.St} {H : Hp} {vs : List Nat}
theorem Conc.wipe (h : Conc K PL G B c σ H) : Conc K PL G B (wipeC vs c) (L2.wipe σ vs) H := by
  refine h.swap (by rw [wipeC_length, L2.wipe_length]; exact h.len) (wipeC_length _ _) fun i hi => ?_
  rw [wipeC_length] at hi
  by_cases e : i ∈ vs
  · exact .inr (.inl (wipeC_in hi e))
  · exact .inl ⟨wipeC_out e, L2.wipe_out e⟩
theorem Conc.unwipe {B1 : Hp} {H1 : Hp} {G1 : Ent} (h : Conc K PL G B c (L2.wipe σ vs) H) (h1 : Conc K PL G1 B1 c1 σ H1) (e : Same B1 B) : Conc K PL G B (unw vs c1 c) σ H := by
  have hl : c.length = σ.length := by rw [h.len, L2.wipe_length]
  refine h.swap (by rw [unw_length]; exact hl) (unw_length _ _ _) fun i hi => ?_
  rw [unw_length] at hi
  by_cases m : i ∈ vs
  · have q := unw_in (c1 := c1) hi m
    cases g : gt c1 i with
    | dat d =>
      rw [g] at q
      obtain ⟨v, z1, z2⟩ := h1.getDat g
      exact .inr (.inr ⟨d, v, q, z1, z2.mono e⟩)
    | no => rw [g] at q; exact .inr (.inl q)
    | own o => rw [g] at q; exact .inr (.inl q)
    | arg o => rw [g] at q; exact .inr (.inl q)
  · exact .inl ⟨unw_out m, (L2.wipe_out m).symm⟩
def pinned (G : Ent) (D : Addr) (xs : List V) : Ent := { G with pin := fun a => if a = D then some (.lst xs) else G.pin a }
theorem Conc.pinNew {D : Addr} (h : Conc K PL G B c σ H) (hD : H D = none) : Conc K PL (pinned G D []) B c σ (upd H D (.lst [])) := by
  obtain ⟨F, C⟩ := h
  have C2 := C.grow (Same.new (o := .lst []) hD)
  refine ⟨F, C2.ex, C2.bb, C2.new, C2.frame, C2.keep, C2.len, C2.slots, C2.out, C2.disj, C2.off, fun a o q => ?_⟩
  have q' : (if a = D then some (HO.lst []) else G.pin a) = some o := q
  by_cases e : a = D
  · rw [if_pos e] at q'
    cases q'
    subst e
    exact ⟨upd_same, C.ex.free hD, fun i hi => C.alive i a hi hD⟩
  · rw [if_neg e] at q'
    exact C2.pin a o q'
theorem Conc.pinAt {D : Addr} {xs : List V} (h : Conc K PL (pinned G D xs) B c σ H) : H D = some (.lst xs) ∧ B D = none := by
  obtain ⟨F, C⟩ := h
  obtain ⟨h1, h2, _⟩ := C.pin D (.lst xs) (by show (if D = D then _ else _) = _; rw [if_pos rfl])
  exact ⟨h1, h2⟩
theorem Conc.pinSet {D : Addr} {xs ys : List V} (h : Conc K PL (pinned G D xs) B c σ H) (hG : G.H D = none) : Conc K PL (pinned G D ys) B c σ (upd H D (.lst ys)) := by
  obtain ⟨F, C⟩ := h
  obtain ⟨p1, p2, p3⟩ := C.pin D (.lst xs) (by show (if D = D then _ else _) = _; rw [if_pos rfl])
  refine ⟨F, fun a o q => ?_, C.bb, C.new, fun a o q nf => ?_, fun a q => ?_, C.len, fun i s hs => ?_, C.out, C.disj, C.off, fun a o q => ?_⟩
  · have : a ≠ D := fun z => by rw [z, p2] at q; cases q
    rw [upd_ne this]
    exact C.ex a o q
  · have : a ≠ D := fun z => by
      rw [z] at q
      rw [show (pinned G D ys).H D = none from hG] at q
      cases q
    rw [upd_ne this]
    exact C.frame a o q nf
  · by_cases e : a = D
    · rw [e, upd_same]
      simp
    · rw [upd_ne e]
      exact C.keep a q
  · obtain ⟨o, h1, h2⟩ := C.slots i s hs
    refine ⟨o, h1, SlotOk.mono (Same.refl B) (fun b hb => ?_) h2⟩
    have : b ≠ D := fun z => p3 i (by rw [← z]; exact hb)
    rw [upd_ne this]
  · have q' : (if a = D then some (HO.lst ys) else G.pin a) = some o := q
    by_cases e : a = D
    · rw [if_pos e] at q'
      cases q'
      subst e
      exact ⟨upd_same, p2, p3⟩
    · rw [if_neg e] at q'
      have q2 := C.pin a o (by show (if a = D then _ else _) = _; rw [if_neg e]; exact q')
      rw [upd_ne e]
      exact q2
theorem Conc.pinOut {D : Addr} {xs : List V} {acc : List Dt} (h : Conc K PL (pinned G D xs) B c σ H) (hG : G.H D = none) (hp : G.pin D = none) (r : RepL K B acc xs) : Conc K PL G B (c ++ [.own (.lst acc)]) (σ ++ [some (.ref D)]) H := by
  obtain ⟨F, C⟩ := h
  obtain ⟨p1, p2, p3⟩ := C.pin D (.lst xs) (by show (if D = D then _ else _) = _; rw [if_pos rfl])
  have C2 : ConcF K PL G B c σ H F := ⟨C.ex, C.bb, C.new, C.frame, C.keep, C.len, C.slots, C.out, C.disj, C.off, fun a o q => C.pin a o (by
    show (if a = D then _ else _) = _
    have : a ≠ D := fun z => by rw [z, hp] at q; cases q
    rw [if_neg this]
    exact q)⟩
  refine ⟨_, C2.push (a := D) (fp := [D]) rfl ⟨rfl, xs, p1, r⟩ (fun b hb => ?_) (fun b hb => ?_) (fun i b hb hb' => ?_) (fun b hb => ?_)⟩
  · have e : b = D := by simpa using hb
    rw [e]
    exact hG
  · have e : b = D := by simpa using hb
    rw [e]
    exact p2
  · have e : b = D := by simpa using hb'
    rw [e] at hb
    exact p3 i hb
  · have e : b = D := by simpa using hb
    rw [e]
    exact hp
end
/-- a target of names alone, all of them the block's own -/
def NG (K : PySem.W.Frag) (PL : PoolP) (vs : List Nat) (g : TG) (dg : DG) : Prop := ∀ G B c d v σ H (Qd : CEnv → Prop) (Q : L2.St → Hp → Prop), Conc K PL G B c σ H → Rep K B d v → dg d c Qd →
  (∀ c' σ', Qd c' → Conc K PL G B c' σ' H → L2.wipe σ' vs = L2.wipe σ vs → Q σ' H) → g v σ H Q
theorem wipe_set {σ : L2.St} {i : Nat} {x : Option V} {vs : List Nat} (h : i ∈ vs) : L2.wipe (σ.set i x) vs = L2.wipe σ vs := by
  apply List.ext_getElem?
  intro j
  by_cases hj : j ∈ vs
  · by_cases hlt : j < σ.length
    · have key : ∀ (τ : L2.St), j < τ.length → (L2.wipe τ vs)[j]? = some none := fun τ hτ => by
        have hl : j < (L2.wipe τ vs).length := by rw [L2.wipe_length]; exact hτ
        cases q : (L2.wipe τ vs)[j]? with
        | none => rw [List.getElem?_eq_none_iff] at q; omega
        | some o =>
          cases o with
          | none => rfl
          | some y => exact absurd hj (L2.wipe_some q).2
      rw [key _ (by rw [List.length_set]; exact hlt), key _ hlt]
    · rw [List.getElem?_eq_none (by rw [L2.wipe_length, List.length_set]; omega), List.getElem?_eq_none (by rw [L2.wipe_length]; omega)]
  · have hij : i ≠ j := fun e => hj (e ▸ h)
    rw [L2.wipe_out hj, L2.wipe_out hj, List.getElem?_set_ne hij]
theorem wipe_wipe {σ : L2.St} {vs : List Nat} : L2.wipe (L2.wipe σ vs) vs = L2.wipe σ vs := by
  apply List.ext_getElem?
  intro j
  by_cases hj : j ∈ vs
  · by_cases hlt : j < σ.length
    · have key : ∀ (τ : L2.St), j < τ.length → (L2.wipe τ vs)[j]? = some none := fun τ hτ => by
        have hl : j < (L2.wipe τ vs).length := by rw [L2.wipe_length]; exact hτ
        cases q : (L2.wipe τ vs)[j]? with
        | none => rw [List.getElem?_eq_none_iff] at q; omega
        | some o =>
          cases o with
          | none => rfl
          | some y => exact absurd hj (L2.wipe_some q).2
      rw [key _ (by rw [L2.wipe_length]; exact hlt), key _ hlt]
    · rw [List.getElem?_eq_none (by rw [L2.wipe_length, L2.wipe_length]; omega), List.getElem?_eq_none (by rw [L2.wipe_length]; omega)]
  · rw [L2.wipe_out hj]
theorem ng_name {K : PySem.W.Frag} {PL : PoolP} {vs : List Nat} {i : Nat} (h : i ∈ vs) : NG K PL vs (L2.gName i) (gN i) := by
  intro G B c d v σ H Qd Q hc rd hd hq
  exact hq _ _ hd (hc.setDat rd) (wipe_set h)
def NGs (K : PySem.W.Frag) (PL : PoolP) (vs : List Nat) (g : TGs) (dg : DGs) : Prop := ∀ G B c ds ws σ H (Qd : CEnv → Prop) (Q : L2.St → Hp → Prop), Conc K PL G B c σ H → RepL K B ds ws → dg ds c Qd →
  (∀ c' σ', Qd c' → Conc K PL G B c' σ' H → L2.wipe σ' vs = L2.wipe σ vs → Q σ' H) → g ws σ H Q
theorem ngs_nil {K : PySem.W.Frag} {PL : PoolP} {vs : List Nat} : NGs K PL vs L2.gNil gsNil := by
  intro G B c ds ws σ H Qd Q hc rd hd hq
  obtain ⟨rfl, h⟩ := hd
  unfold RepL at rd
  exact ⟨rd, hq _ _ h hc rfl⟩
theorem ngs_cons {K : PySem.W.Frag} {PL : PoolP} {vs : List Nat} {g : TG} {dg : DG} {gs : TGs} {dgs : DGs} (h : NG K PL vs g dg) (h' : NGs K PL vs gs dgs) : NGs K PL vs (L2.gCons g gs) (gsCons dg dgs) := by
  intro G B c ds ws σ H Qd Q hc rd hd hq
  cases ds with
  | nil => exact hd.elim
  | cons d r =>
    unfold RepL at rd
    obtain ⟨x, xs, e1, r1, r2⟩ := rd
    refine ⟨x, xs, e1, h G B c d x σ H _ _ hc r1 hd fun c' σ' q hc' w => ?_⟩
    exact h' G B c' r xs σ' H _ _ hc' r2 q fun c2 σ2 q2 hc2 w2 => hq c2 σ2 q2 hc2 (w2.trans w)
theorem ng_tup {K : PySem.W.Frag} {PL : PoolP} {vs : List Nat} {n : Nat} {gs : TGs} {dgs : DGs} (h : NGs K PL vs gs dgs) : NG K PL vs (L2.gTup K n gs) (gT n dgs) := by
  intro G B c d v σ H Qd Q hc rd hd hq
  cases d with
  | tup l =>
    unfold Rep at rd
    obtain ⟨a, xs, e1, r1, r2⟩ := rd
    obtain ⟨h1, h2⟩ := hd
    exact ⟨a, xs, e1, sameT hc.same r1, by rw [r2.length]; exact h1, h G B c l xs σ H _ _ hc r2 h2 hq⟩
  | _ => exact hd.elim
section
variable {X : Cx} {PL : PoolP}
structure QTs (X : Cx) (PL : PoolP) (ifs : List Expr) (dt : DT) : Prop where
  pts : PTs X ifs (lT X.K PL dt)
def dYes : DT := fun c Q => Q true c
theorem qts_nil : QTs X PL [] dYes := ⟨⟨fun pins s σ H Q I ⟨G, B, c, Qd, h1, h2, h3⟩ => pts_nil.run pins s σ H Q I (h3 _ _ _ _ h2 (Same.refl B) h1)⟩⟩
theorem qts_one {e : Expr} {dt : DT} (h : QT X PL e dt) : QTs X PL [e] dt := ⟨pts_one h.pt⟩
def dLc (di : DI) (g : DG) (dt : DT) (de : DE) (vs : List Nat) : DE := fun c Q => di c fun ds c1 => ds.length ≤ 9000000 ∧ ∃ I : Nat → List Dt → CEnv → Prop, I 0 [] (wipeC vs c1) ∧
  (∀ k acc d c', ds[k]? = some d → acc.length ≤ k → I k acc c' → g d c' fun c2 => dt c2 fun b c3 => br b (de c3 fun r c4 => asD r c4 fun e c5 => I (k + 1) (acc ++ [e]) (wipeC vs c5)) (I (k + 1) acc (wipeC vs c3))) ∧ ∀ acc c', acc.length ≤ ds.length → I ds.length acc c' → Q (.new (.lst acc)) (unw vs c1 c')
theorem lc_ok {K : PySem.W.Frag} {di : DI} {g : TG} {dg : DG} {dt : DT} {de : DE} {vs : List Nat} (hn : NG K PL vs g dg) {G : Ent} {B : Hp} {c : CEnv} {σ : L2.St} {H : Hp} {Qd : Res → CEnv → Prop} {Q : VK} (hc : Conc K PL G B c σ H) (hd' : dLc di dg dt de vs c Qd)
    (hq : ∀ r c' B' H' v, Qd r c' → Same B B' → CR K PL G B' c' σ H' r v → Q v H') : tLc (lI K PL di) g (lT K PL dt) (lE K PL de) vs σ H Q := by
  refine ⟨G, B, c, _, hc, hd', fun ds c1 B1 H1 J ⟨hz, I, i0, it, ie⟩ e1 hc1 HJ D hD => ?_⟩
  have hGD : G.H D = none := by
    obtain ⟨F, C⟩ := hc1
    cases q : G.H D with
    | none => rfl
    | some o => exact absurd hD (C.keep D (by rw [q]; simp))
  have hpD : G.pin D = none := by
    obtain ⟨F, C⟩ := hc1
    cases q : G.pin D with
    | none => rfl
    | some o =>
      have := (C.pin D o q).1
      rw [hD] at this
      cases this
  refine ⟨fun i m H' => m = ds.length - i ∧ i ≤ ds.length ∧ ∃ acc xs B2 c2, Same B1 B2 ∧ RepL K B2 acc xs ∧ acc.length ≤ i ∧ Conc K PL (pinned G D xs) B2 c2 (L2.wipe σ vs) H' ∧ I i acc c2, ⟨_, rfl, Nat.zero_le _, [], [], B1, _, Same.refl _, .nil, Nat.le_refl _, hc1.wipe.pinNew hD, i0⟩, ?_⟩
  rintro i m H' ⟨rfl, hil, acc, xs, B2, c2, e2, ra, hal, hc2, hI⟩
  by_cases hlt : i < ds.length
  · refine .inr ⟨HJ.go i H' (e2.trans hc2.same) hlt, fun H2 => ∃ acc xs B3 c3, Same B1 B3 ∧ RepL K B3 acc xs ∧ acc.length ≤ i + 1 ∧ Conc K PL (pinned G D xs) B3 c3 (L2.wipe σ vs) H2 ∧ I (i + 1) acc c3, fun H2 h2 => ⟨ds.length - (i + 1), by omega, rfl, hlt, h2⟩, fun x H3 hy => ?_⟩
    obtain ⟨B3, d, hd3, e3, hc3, rd⟩ := HJ.yld i H' x H3 hlt hy _ B2 c2 _ e2 hc2
    refine hn _ B3 c2 d x _ H3 _ _ hc3 rd (it i acc d c2 hd3 hal hI) fun c4 σ4 q4 hc4 w4 => ?_
    rw [wipe_wipe] at w4
    refine ⟨w4, _, B3, c4, _, hc4, q4, fun b c5 B5 H5 q5 e5 hc5 => ?_⟩
    cases b with
    | false =>
      rw [if_neg Bool.false_ne_true]
      have hc6 := hc5.wipe (vs := vs)
      rw [w4] at hc6
      exact ⟨acc, xs, B5, _, (e2.trans e3).trans e5, ra.mono (e3.trans e5), by omega, hc6, q5⟩
    | true =>
      rw [if_pos rfl]
      refine ⟨_, B5, c5, _, hc5, q5, fun r c6 B6 H6 y q6 e6 cr6 => ?_⟩
      obtain ⟨B7, c7, d7, e7, hc7, rd7, q7⟩ := asD_ok cr6 q6
      have ee : Same B2 B7 := ((e3.trans e5).trans e6).trans e7
      have hl : xs.length = acc.length := ra.length
      refine ⟨xs, hc7.pinAt.1, sz7l (by omega), acc ++ [d7], xs ++ [y], B7, wipeC vs c7, e2.trans ee, (ra.mono ee).app (.one rd7), by simp; omega, ?_, q7⟩
      have hc8 := (hc7.pinSet (ys := xs ++ [y]) hGD).wipe (vs := vs)
      rw [w4] at hc8
      exact hc8
  · have hie : i = ds.length := by omega
    subst hie
    refine .inl ⟨HJ.stop H' (e2.trans hc2.same), ?_⟩
    have hpin := hc2.unwipe hc1 e2
    exact hq _ _ B2 H' _ (ie acc c2 hal hI) (e1.trans e2) (hpin.pinOut hGD hpD ra)
theorem qe_lc {elt tg iter : Expr} {ifs : List Expr} {scope : Scope} {own : List (Str × Nat)} {pos : Pos} {di : DI} {g : TG} {dg : DG} {dt : DT} {de : DE} (hi : QI X PL tg iter di) (hn : NG X.K PL (own.map (·.2)) g dg) (hc : X.calm = true) (hN : X.N.Nodup) (ok : BlkOk X.N X.env.scope scope own)
    (hg : ∀ (s : Shared) (H : Hp) (C : Addr) (cl : List (Str × Addr)) (fp : List Addr), PG (X.blk s H scope (compEnvC scope cl C X.env) fp) tg g) (ht : ∀ (s : Shared) (H : Hp) (C : Addr) (cl : List (Str × Addr)) (fp : List Addr), QTs (X.blk s H scope (compEnvC scope cl C X.env) fp) PL ifs dt)
    (he : ∀ (s : Shared) (H : Hp) (C : Addr) (cl : List (Str × Addr)) (fp : List Addr), QE (X.blk s H scope (compEnvC scope cl C X.env) fp) PL elt de) (hs : ∀ x, foldedSetIterable iter X.env x = pure x := by intro _; rfl) :
    QE X PL (.ListComp elt [⟨tg, iter, ifs, 0⟩] scope pos) (dLc di dg dt de (own.map (·.2))) :=
  q_of (pe_lc (te := lE X.K PL de) (tt := lT X.K PL dt) hc hN hi.pi ok hg (fun s H C cl fp => (ht s H C cl fp).pts) (fun s H C cl fp => (he s H C cl fp).pe) hs) fun _ _ _ _ _ _ _ h1 h2 h3 => lc_ok hn h1 h2 h3
theorem qs_setLc {i : Nat} {y : Str} {py : Pos} {elt tg iter : Expr} {ifs : List Expr} {scope : Scope} {own : List (Str × Nat)} {pos spos : Pos} {di : DI} {g : TG} {dg : DG} {dt : DT} {de : DE} (hi : QI X PL tg iter di) (hn : NG X.K PL (own.map (·.2)) g dg) (hc : X.calm = true) (hN : X.N.Nodup) (hy : X.N[i]? = some y) (hyl : X.env.scope.names.lookup y = some .local)
    (hsw : swapsWith (.ListComp elt [⟨tg, iter, ifs, 0⟩] scope pos) (some (.Name y py)) spos.line X.env = pure true) (ok : BlkOk X.N X.env.scope scope own)
    (hg : ∀ (s : Shared) (H : Hp) (C : Addr) (cl : List (Str × Addr)) (fp : List Addr), PG (X.blk s H scope (compEnvC scope cl C X.env) fp) tg g) (ht : ∀ (s : Shared) (H : Hp) (C : Addr) (cl : List (Str × Addr)) (fp : List Addr), QTs (X.blk s H scope (compEnvC scope cl C X.env) fp) PL ifs dt)
    (he : ∀ (s : Shared) (H : Hp) (C : Addr) (cl : List (Str × Addr)) (fp : List Addr), QE (X.blk s H scope (compEnvC scope cl C X.env) fp) PL elt de) (hs : ∀ x, foldedSetIterable iter X.env x = pure x := by intro _; rfl) :
    QS X PL (.Assign [.Name y py] (.ListComp elt [⟨tg, iter, ifs, 0⟩] scope pos) spos) (dAsg i (dLc di dg dt de (own.map (·.2)))) := by
  refine qs_of (ps_setLc (te := lE X.K PL de) (tt := lT X.K PL dt) hc hN hy hyl hsw hi.pi ok hg (fun s H C cl fp => (ht s H C cl fp).pts) (fun s H C cl fp => (he s H C cl fp).pe) hs) fun G B c σ H E D h1 h2 h3 h4 h5 h6 => ?_
  refine lc_ok hn h1 h2 fun r c1 B1 H1 v q e1 cr => ?_
  obtain ⟨B', c', q1, q0, q2⟩ := put_ok cr q
  exact h3 _ _ _ _ q1 (e1.trans q0) q2
end
end Cl

namespace Cl
open PySem PySem.Spec PyProof.Rows L2

/-! ### how arguments come to parameters -/
def pick {α : Type} (d : α) (p : List (Sum Nat Nat)) (us ws : List α) : List α := p.map fun q => match q with
  | .inl i => us.getD i d
  | .inr j => ws.getD j d
theorem vals_getD {vs : List V} {us : List Value} (r : Vals vs us) (i : Nat) : RelV (vs.getD i .non) (us.getD i .none) := by
  rw [List.getD_eq_getElem?_getD, List.getD_eq_getElem?_getD]
  cases q : vs[i]? with
  | none =>
    rw [r.none_of q]
    rfl
  | some x =>
    obtain ⟨u, h1, h2⟩ := r.get q
    rw [h1]
    exact h2
theorem vals_pick {vs zs : List V} {us ws : List Value} (r : Vals vs us) (r' : Vals zs ws) : ∀ p : List (Sum Nat Nat), Vals (pick .non p vs zs) (pick .none p us ws)
  | [] => .nil
  | .inl i :: p => .cons (vals_getD r i) (vals_pick r r' p)
  | .inr i :: p => .cons (vals_getD r' i) (vals_pick r r' p)
theorem av_getD {K : PySem.W.Frag} {B : Hp} {σ : L2.St} {avs : List AV} {vs : List V} (r : AVOk K B σ avs vs) (i : Nat) {as : List AV} {ws : List V} (h : AVOk K B σ as ws) : AVOk K B σ (avs.getD i (.dat .non) :: as) (vs.getD i .non :: ws) := by
  rw [List.getD_eq_getElem?_getD, List.getD_eq_getElem?_getD]
  cases q : avs[i]? with
  | none =>
    rw [List.getElem?_eq_none (by rw [r.length]; exact List.getElem?_eq_none_iff.mp q)]
    exact ⟨.non, ws, rfl, by unfold Rep; rfl, h⟩
  | some a =>
    obtain ⟨v, h1, h2⟩ := r.get q
    rw [h1]
    cases a with
    | dat d => exact ⟨v, ws, rfl, h2, h⟩
    | own j => exact ⟨v, ws, rfl, h2, h⟩
theorem av_pick {K : PySem.W.Frag} {B : Hp} {σ : L2.St} {avs bvs : List AV} {vs zs : List V} (r : AVOk K B σ avs vs) (r' : AVOk K B σ bvs zs) {as : List AV} {ws : List V} (h : AVOk K B σ as ws) : ∀ p : List (Sum Nat Nat), AVOk K B σ (pick (.dat .non) p avs bvs ++ as) (pick .non p vs zs ++ ws)
  | [] => h
  | .inl i :: p => av_getD r i (av_pick r r' h p)
  | .inr i :: p => av_getD r' i (av_pick r r' h p)
section
variable {K : PySem.W.Frag} {x qual : Str} {params : Arguments} {body : List Stmt} {scope : Scope} {kws : List (Str × V)} {f : Addr} {fd : FuncData} {ps : List Str}
theorem bi_N (F : FunD K x qual params body scope [] kws f fd) (h : ∀ (kV doc pm : Value) (an : Option Addr) (cdv ct : Value) (us : List Value), us.length = ps.length → bindArgs (PySem.W.fnOf x qual params body scope .none kV doc pm an cdv ct) ⟨us, []⟩ = pure (ps.zip us)) :
    ∃ ws ds, Vals ws ds ∧ (∀ B, RepL K B [] ws) ∧ Binds K fd ps ds := ⟨[], [], .nil, fun _ => .nil, F.bindsN h⟩
/-- keyword-only defaults fill up -/
theorem bi_K (F : FunD K x qual params body scope [] kws f fd) (n : Nat) (dds : List Dt) (hr : ∀ B, RepL K B dds (kws.map (·.2))) (hk : kws ≠ []) (hn : n + kws.length = ps.length)
    (h : ∀ (D : Addr) (doc pm : Value) (an : Option Addr) (cdv ct : Value) (us ks : List Value), us.length = n → ks.length = kws.length →
      KwChain D ((kws.map (·.1)).zip ks) (bindArgs (PySem.W.fnOf x qual params body scope .none (.ref D) doc pm an cdv ct) ⟨us, []⟩) (ps.zip (us ++ ks))) : ∃ ws ds, Vals ws ds ∧ (∀ B, RepL K B dds ws) ∧ Binds K fd ps ds := by
  obtain ⟨ds, h1, h2⟩ := F.binds0 n hk hn h
  exact ⟨_, ds, h1, hr, h2⟩
theorem fund_of (F : FunD K x qual params body scope [] kws f fd) : ∃ (oc kV doc pm : Value) (od an : Option Addr) (cdv ct : Value) (osl : Array (Option Value)), fd = PySem.W.fnOf x qual params body scope .none kV doc pm an cdv ct ∧ K.lookup f = some ⟨oc, od, .func fd, osl⟩ ∧ KwdV K kV kws := by
  obtain ⟨oc, od, dV, kV, doc, pm, an, cdv, ct, osl, h1, lk, hcd, hD, hK⟩ := F.ex
  rcases hD with ⟨_, rfl⟩ | ⟨e, _⟩
  · exact ⟨oc, kV, doc, pm, od, an, cdv, ct, osl, h1, lk, hK⟩
  · exact absurd rfl e
/-- all parameters are given, some by their names -/
theorem kb_all (F : FunD K x qual params body scope [] kws f fd) (n : Nat) (ks : List Str) (p : List (Sum Nat Nat))
    (h : ∀ (kV doc pm : Value) (an : Option Addr) (cdv ct : Value) (us ws : List Value), us.length = n → ws.length = ks.length → bindArgs (PySem.W.fnOf x qual params body scope .none kV doc pm an cdv ct) ⟨us, ks.zip ws⟩ = pure (ps.zip (pick .none p us ws))) :
    ∃ g gV, KBn K fd ps n ks g gV ∧ ∀ B σ avs kvs vs zs, avs.length = n → kvs.length = ks.length → AVOk K B σ avs vs → AVOk K B σ kvs zs → AVOk K B σ (pick (.dat .non) p avs kvs ++ []) (gV vs zs) := by
  obtain ⟨oc, kV, doc, pm, od, an, cdv, ct, osl, rfl, lk, hK⟩ := fund_of F
  refine ⟨fun us ws => pick .none p us ws, fun vs zs => pick .non p vs zs ++ [], ⟨fun s us ws X l1 l2 => .of_eq (h kV doc pm an cdv ct us ws l1 l2), fun {vs us zs ws} r1 r2 => ?_⟩, fun B σ avs kvs vs zs _ _ r1 r2 => av_pick r1 r2 (show AVOk K B σ [] [] from rfl) p⟩
  rw [List.append_nil]
  exact vals_pick r1 r2 p
/-- .. and the keyword-only ones that lack by their defaults -/
theorem kb_dfl (F : FunD K x qual params body scope [] kws f fd) (n : Nat) (ks : List Str) (p : List (Sum Nat Nat)) (dds : List Dt) (hr : ∀ B, RepL K B dds (kws.map (·.2))) (hk : kws ≠ [])
    (h : ∀ (D : Addr) (doc pm : Value) (an : Option Addr) (cdv ct : Value) (us ws ms : List Value), us.length = n → ws.length = ks.length → ms.length = kws.length →
      KwChain D ((kws.map (·.1)).zip ms) (bindArgs (PySem.W.fnOf x qual params body scope .none (.ref D) doc pm an cdv ct) ⟨us, ks.zip ws⟩) (ps.zip (pick .none p us ws ++ ms))) :
    ∃ g gV, KBn K fd ps n ks g gV ∧ ∀ B σ avs kvs vs zs, avs.length = n → kvs.length = ks.length → AVOk K B σ avs vs → AVOk K B σ kvs zs → AVOk K B σ (pick (.dat .non) p avs kvs ++ dds.map AV.dat) (gV vs zs) := by
  obtain ⟨oc, kV, doc, pm, od, an, cdv, ct, osl, rfl, lk, hK⟩ := fund_of F
  rcases hK with e | ⟨D, rfl, hq⟩
  · exact absurd e hk
  · obtain ⟨ms, hl, rk, hks⟩ := kwd_vals hq
    refine ⟨fun us ws => pick .none p us ws ++ ms, fun vs zs => pick .non p vs zs ++ kws.map (·.2), ⟨fun s us ws X l1 l2 => BindsTo.of_looks fun M => KwChain.looks X hks (h D doc pm an cdv ct us ws ms l1 l2 hl), fun {vs us zs ws} r1 r2 => (vals_pick r1 r2 p).append rk⟩, fun B σ avs kvs vs zs _ _ r1 r2 => av_pick r1 r2 (AVOk.dats (hr B)) p⟩
end

/-! ### methods of texts -/
section
variable {PL : PoolP}
def strsD : List Dt → Option (List (List Nat))
  | [] => some []
  | .str s :: r => match strsD r with
    | some l => some (s :: l)
    | none => none
  | _ :: _ => none
theorem strsD_ok {K : PySem.W.Frag} {B : Hp} : ∀ {ds : List Dt} {l : List (List Nat)} {vs : List V}, strsD ds = some l → RepL K B ds vs → vs = (l.map S).map V.str ∧ ds = l.map Dt.str
  | [], l, vs, h, r => by
    have e : [] = l := by simpa [strsD] using h
    subst e
    unfold RepL at r
    exact ⟨r, rfl⟩
  | .str s :: q, l, vs, h, r => by
    unfold strsD at h
    cases g : strsD q with
    | none => rw [g] at h; cases h
    | some m =>
      rw [g] at h
      have e : s :: m = l := by simpa using h
      subst e
      unfold RepL at r
      obtain ⟨x, t, h1, h2, h3⟩ := r
      obtain ⟨h4, h5⟩ := strsD_ok g h3
      unfold Rep at h2
      exact ⟨by rw [h1, h2, h4]; rfl, by rw [h5]; rfl⟩
  | .non :: q, l, vs, h, r => by cases h
  | .bl _ :: q, l, vs, h, r => by cases h
  | .int _ :: q, l, vs, h, r => by cases h
  | .tup _ :: q, l, vs, h, r => by cases h
  | .lst _ :: q, l, vs, h, r => by cases h
  | .frz _ :: q, l, vs, h, r => by cases h
theorem strsD_map : ∀ l : List (List Nat), strsD (l.map Dt.str) = some l
  | [] => rfl
  | s :: l => by
    show (match strsD (l.map Dt.str) with
      | some m => some (s :: m)
      | none => none) = _
    rw [strsD_map l]
abbrev joinN := TL.joinL
def strM (g : List Nat → CallF) : MtF := fun x xs k => match x with
  | .str s => g s xs k
  | _ => False
def joinK (s : List Nat) (l : List Dt) (k : Res → Prop) : Prop := match strsD l with
  | some ys => ((ys.map List.length).sum + ys.length * s.length ≤ 10000000) ∧ k (.dat (.str (joinN s ys)))
  | none => False
def joinD (s : List Nat) (x : Dt) (k : Res → Prop) : Prop := match x with
  | .lst l => joinK s l k
  | .tup l => joinK s l k
  | _ => False
def fJoin : MtF := strM fun s => arg1 (joinD s)
theorem sum_len (ys : List (List Nat)) : ((ys.map S).map (·.length)).sum = (ys.map List.length).sum := by
  induction ys with
  | nil => rfl
  | cons y r ih =>
    simp only [List.map_cons, List.sum_cons, S_len]
    simp only [List.map_map] at ih ⊢
    rw [ih]
theorem join_S (s : List Nat) (ys : List (List Nat)) : Txt.join (S s) (ys.map S) = S (joinN s ys) := by
  rw [TL.join_eq]
  apply TL.ext_tl
  rw [TL.tl_join]
  show TL.joinL s ((ys.map S).map TL.tl) = joinN s ys
  have : (ys.map S).map TL.tl = ys := by
    rw [List.map_map]
    exact List.map_id _
  rw [this]
theorem mtd_join {K : PySem.W.Frag} : MtD K PL (fun x xs H Q => ∃ a p, ∃ ys : List Str, x = .str a ∧ xs = [.ref p] ∧ (SqL K H p (ys.map V.str) ∨ SqT K H p (ys.map V.str)) ∧
    (ys.map (·.length)).sum + ys.length * a.length ≤ 16777216 ∧ Q (.str (Txt.join a ys)) H) fJoin := by
  intro G B c σ H s xs vs k Q hc rx hf hq
  obtain ⟨x, rfl, hf⟩ := arg1_ok hf
  have fin : ∀ {l : List Dt} {us : List V}, RepL K B l us → joinK s l k → ∃ ys : List Str, us = ys.map V.str ∧ (ys.map (·.length)).sum + ys.length * (S s).length ≤ 16777216 ∧ Q (.str (Txt.join (S s) ys)) H := fun {l us} r h => by
    unfold joinK at h
    cases g : strsD l with
    | none => simp only [g] at h
    | some ys =>
      simp only [g] at h
      obtain ⟨h1, h2⟩ := h
      obtain ⟨h3, _⟩ := strsD_ok g r
      refine ⟨ys.map S, h3, ?_, hq _ _ B H h2 (Same.refl B) ⟨hc, by unfold Rep; rw [join_S]⟩⟩
      rw [sum_len, List.length_map, S_len]
      omega
  cases x with
  | lst l =>
    obtain ⟨v, rfl, a, us, rfl, h1, h2⟩ := repHs1 rx
    obtain ⟨ys, rfl, h3, h4⟩ := fin h2 hf
    exact ⟨S s, a, ys, rfl, rfl, .inl (.of h1), h3, h4⟩
  | tup l =>
    obtain ⟨v, rfl, a, us, rfl, h1, h2⟩ := repHs1 rx
    obtain ⟨ys, rfl, h3, h4⟩ := fin h2 hf
    exact ⟨S s, a, ys, rfl, rfl, .inr (sameT hc.same h1), h3, h4⟩
  | _ => exact hf.elim
/-- the last place from lo to hi - 1 at which the sign stands, or -1 -/
def IsLast (s : List Nat) (ch lo hi : Nat) (r : Int) : Prop := (r = -1 ∧ ∀ i : Nat, lo ≤ i → i < hi → s[i]? ≠ some ch) ∨ ∃ n : Nat, r = (n : Int) ∧ lo ≤ n ∧ n < hi ∧ s[n]? = some ch ∧ ∀ m : Nat, n < m → m < hi → s[m]? ≠ some ch
theorem at_one {s : List Nat} {ch hi i : Nat} (hh : hi ≤ s.length) : StrLaws.At (S s) (S [ch]) hi i ↔ i < hi ∧ s[i]? = some ch := by
  unfold StrLaws.At Builtin.Str.subAt
  rw [S_len]
  show i + 1 ≤ hi ∧ ((S s).cps.extract i (i + (S [ch]).length) == (S [ch]).cps) = true ↔ _
  rw [S_len]
  show i + 1 ≤ hi ∧ (s.toArray.extract i (i + 1) == #[ch]) = true ↔ _
  constructor
  · rintro ⟨h1, h2⟩
    refine ⟨by omega, ?_⟩
    have h3 : s.toArray.extract i (i + 1) = #[ch] := by simpa using h2
    have h4 := congrArg (fun a => a[0]?) h3
    rw [Array.getElem?_extract] at h4
    simp at h4
    have hi2 : i < s.length := by omega
    exact h4.2
  · rintro ⟨h1, h2⟩
    refine ⟨by omega, ?_⟩
    have hi2 : i < s.length := by omega
    have h3 : s.toArray.extract i (i + 1) = #[ch] := by
      apply Array.ext'
      have e : s[i] = ch := by
        rw [List.getElem?_eq_getElem hi2] at h2
        exact Option.some.inj h2
      simp [List.drop_eq_getElem_cons hi2, e]
    simp [h3]
theorem last_mem {x y : Str} {hi a : Nat} : ∀ (l : List Nat) (st : Option Nat), (forIn l st (StrLaws.lastBody x y hi)).run = some a → st = some a ∨ a ∈ l
  | [], st, h => .inl (by simpa using h)
  | b :: l, st, h => by
    rw [List.forIn_cons] at h
    unfold StrLaws.lastBody at h
    by_cases q : b + y.length ≤ hi ∧ Builtin.Str.subAt x y b = true
    · rw [if_pos q] at h
      rcases last_mem l (some b) h with z | z
      · exact .inr (by simp [Option.some.inj z])
      · exact .inr (List.mem_cons_of_mem _ z)
    · rw [if_neg q] at h
      rcases last_mem l st h with z | z
      · exact .inl z
      · exact .inr (List.mem_cons_of_mem _ z)
theorem last_is {s : List Nat} {ch lo hi : Nat} (hh : hi ≤ s.length) : IsLast s ch lo hi (match Builtin.Str.lastOccurrence (S s) (S [ch]) lo hi with
    | some k => (k : Int)
    | none => -1) := by
  rw [StrLaws.last_eq]
  have key := StrLaws.last_run (S s) (S [ch]) hi (List.range' lo (hi + 1 - lo)) [] none (fun _ h => nomatch h) (fun _ h => nomatch h) (by simpa using List.pairwise_lt_range' (s := lo) (n := hi + 1 - lo))
  have mem : ∀ i, lo ≤ i → i < hi → i ∈ [] ++ List.range' lo (hi + 1 - lo) := fun i h1 h2 => by simp [List.mem_range'] ; exact ⟨i - lo, by omega, by omega⟩
  cases hr : (forIn (List.range' lo (hi + 1 - lo)) none (StrLaws.lastBody (S s) (S [ch]) hi)).run with
  | none =>
    rw [hr] at key
    exact .inl ⟨rfl, fun i h1 h2 h3 => key i (mem i h1 h2) ((at_one hh).mpr ⟨h2, h3⟩)⟩
  | some a =>
    rw [hr] at key
    obtain ⟨k1, k2⟩ := key
    obtain ⟨a1, a2⟩ := (at_one hh).mp k1
    by_cases hl : lo ≤ a
    · exact .inr ⟨a, rfl, hl, a1, a2, fun m h1 h2 h3 => k2 m (mem m (by omega) h2) h1 ((at_one hh).mpr ⟨h2, h3⟩)⟩
    · rcases last_mem _ _ hr with z | z
      · cases z
      · rw [List.mem_range'] at z
        obtain ⟨i, _, z⟩ := z
        omega
/-- s.rfind(c, lo, hi) and s.rfind(c), c one sign -/
def rfind4D (s : List Nat) (xs : List Dt) (k : Res → Prop) : Prop := match xs with
  | .str t :: r => one1 t fun ch => cints2 r fun lo hi => (s.length ≤ 10000000 ∧ 0 ≤ lo ∧ 0 ≤ hi) ∧ ∀ v, IsLast s ch lo.toNat (min hi.toNat s.length) v → k (.dat (.int v))
  | _ => False
def fRfind4 : MtF := strM rfind4D
theorem repHs3 {K : PySem.W.Frag} {B H : Hp} {t : List Nat} {i j : Int} {vs : List V} (h : RepHs K B H [.str t, .int i, .int j] vs) : vs = [.str (S t), .int i, .int j] := by
  obtain ⟨v, ws, rfl, h2, h3⟩ := h
  obtain ⟨u, w, rfl, h4, h5⟩ := repHs2 h3
  have e1 : v = .str (S t) := h2
  have e2 : u = .int i := h4
  have e3 : w = .int j := h5
  rw [e1, e2, e3]
theorem mtd_rfind4 {K : PySem.W.Frag} : MtD K PL (fun x xs H Q => ∃ (a b : Str) (i j : Int), x = .str a ∧ xs = [.str b, .int i, .int j] ∧ Q (.int (Txt.rfindIn a b i j)) H) fRfind4 := by
  intro G B c σ H s xs vs k Q hc rx hf hq
  have hf2 : rfind4D s xs k := hf
  cases xs with
  | nil => exact hf2.elim
  | cons x r =>
    cases x with
    | str t =>
      obtain ⟨ch, rfl, h1⟩ := one1_ok (show one1 t _ from hf2)
      obtain ⟨lo, hi, rfl, ⟨z0, z1, z2⟩, h2⟩ := cints2_ok h1
      have e := repHs3 rx
      refine ⟨S s, S [ch], lo, hi, rfl, e, hq _ _ B H (h2 _ ?_) (Same.refl B) ⟨hc, by unfold Rep; rfl⟩⟩
      unfold Txt.rfindIn
      have e1 : fromIndex (S s).length lo = lo.toNat := by
        unfold fromIndex
        have : ¬ lo < 0 := by omega
        simp only [this, if_false]
        omega
      have e2 : toIndexW (S s).length hi = min hi.toNat s.length := by
        rw [S_len]
        simp only [toIndexW]
        omega
      rw [e1, e2]
      exact last_is (Nat.min_le_right _ _)
    | _ => exact hf2.elim
def rfindD (s : List Nat) (x : Dt) (k : Res → Prop) : Prop := match x with
  | .str t => one1 t fun ch => s.length ≤ 10000000 ∧ ∀ v, IsLast s ch 0 s.length v → k (.dat (.int v))
  | _ => False
def fRfind : MtF := strM fun s => arg1 (rfindD s)
theorem mtd_rfind {K : PySem.W.Frag} : MtD K PL (fun x xs H Q => ∃ a b, x = .str a ∧ xs = [.str b] ∧ Q (.int (Txt.rfind a b)) H) fRfind := by
  intro G B c σ H s xs vs k Q hc rx hf hq
  obtain ⟨x, rfl, hf⟩ := arg1_ok hf
  cases x with
  | str t =>
    obtain ⟨ch, rfl, h1, h2⟩ := one1_ok (show one1 t _ from hf)
    obtain ⟨v, rfl, h3⟩ := repHs1 rx
    have e : v = .str (S [ch]) := h3
    subst e
    refine ⟨S s, S [ch], rfl, rfl, hq _ _ B H (h2 _ ?_) (Same.refl B) ⟨hc, by unfold Rep; rfl⟩⟩
    unfold Txt.rfind
    rw [S_len]
    exact last_is (Nat.le_refl _)
  | _ => exact hf.elim
end
end Cl

namespace Cl
open PySem PySem.Spec PyProof.Rows L2

section
variable {X : Cx} {K : PySem.W.Frag} {PL : PoolP}
theorem opd_lt : OpD K PL (rI0 fun i j => .bl (decide (i < j))) fLt := opd_B0
theorem opd_le : OpD K PL (rI0 fun i j => .bl (decide (i ≤ j))) fLe := opd_B0
theorem opd_gt : OpD K PL (rI0 fun i j => .bl (decide (j < i))) fGt := opd_B0
theorem opd_ge : OpD K PL (rI0 fun i j => .bl (decide (j ≤ i))) fGe := opd_B0
def fAddI : OpF := fI (fun _ _ => True) fun i j => .int (i + j)
/-- is True, is False -/
def isB (v : Bool) : Dt → Bool
  | .bl b => b == v
  | _ => false
def fIsB (v : Bool) : OpF := fun x y k => y = .bl v ∧ k (.dat (.bl (isB v x)))
theorem op_isB {v : Bool} : OpR X (compareOp .Is) (fun x y H Q => y = .bl v ∧ Q (.bl (decide (x = .bl v))) H) := by
  intro pins s σ H x y a u Q I rx ry h
  obtain ⟨rfl, q⟩ := h
  cases (show u = Value.bool v from ry)
  have fin : ∀ k : Bool, decide (x = .bl v) = k → EP X pins σ Q (.bool k) s := fun k e => ⟨.bl k, H, I, rfl, by rw [← e]; exact q⟩
  cases x with
  | bl b =>
    cases (show a = Value.bool b from rx)
    by_cases e : b = v
    · subst e
      exact wpAny_is_self rfl (fin true (by simp))
    · exact wpAny_is_other rfl (fun z => e (Value.bool.inj z)) (fin false (by simp [e]))
  | non =>
    cases (show a = Value.none from rx)
    exact wpAny_is_other rfl (fun z => by cases z) (fin false (by simp))
  | int i =>
    obtain ⟨t, rfl⟩ := rx
    exact wpAny_is_other rfl (fun z => by cases z) (fin false (by simp))
  | str i =>
    obtain ⟨t, rfl⟩ := rx
    exact wpAny_is_other rfl (fun z => by cases z) (fin false (by simp))
  | byt i =>
    obtain ⟨t, rfl⟩ := rx
    exact wpAny_is_other rfl (fun z => by cases z) (fin false (by simp))
  | flt i =>
    obtain ⟨t, rfl⟩ := rx
    exact wpAny_is_other rfl (fun z => by cases z) (fin false (by simp))
  | ref i =>
    cases (show a = Value.ref i from rx)
    exact wpAny_is_other rfl (fun z => by cases z) (fin false (by simp))
  | ty i =>
    cases (show a = Value.type i from rx)
    exact wpAny_is_other rfl (fun z => by cases z) (fin false (by simp))
theorem isB_iff {B H : Hp} {x : Dt} {v : V} {b : Bool} (r : RepH K B H x v) : decide (v = .bl b) = isB b x := by
  cases x with
  | non =>
    have e : v = .non := r
    subst e
    rfl
  | bl k =>
    have e : v = .bl k := r
    subst e
    show decide (V.bl k = V.bl b) = (k == b)
    cases k <;> cases b <;> rfl
  | int i =>
    have e : v = .int i := r
    subst e
    rfl
  | str i =>
    have e : v = .str (S i) := r
    subst e
    rfl
  | tup l => obtain ⟨a, xs, rfl, _⟩ := r; rfl
  | lst l => obtain ⟨a, xs, rfl, _⟩ := r; rfl
  | frz l => obtain ⟨a, xs, rfl, _⟩ := r; rfl
  | emp => obtain ⟨a, rfl, _⟩ := r; rfl
  | exc a C dd ns l => obtain ⟨rfl, _⟩ := r; rfl
theorem opd_isB {v : Bool} : OpD K PL (fun x y H Q => y = .bl v ∧ Q (.bl (decide (x = .bl v))) H) (fIsB v) := by
  intro G B c σ H x y a u k Q hc rx ry hf hq
  obtain ⟨rfl, hf⟩ := hf
  exact ⟨ry, hq _ _ B H hf (Same.refl B) ⟨hc, by unfold Rep; rw [isB_iff rx]⟩⟩

/-! ### isinstance(x, T), T a built-in class -/
def tyD : Dt → String
  | .non => "NoneType"
  | .bl _ => "bool"
  | .int _ => "int"
  | .str _ => "str"
  | .tup _ => "tuple"
  | .lst _ => "list"
  | .frz _ => "list"
  | .emp => "dict"
  | .exc _ _ _ _ _ => ""
/-- a caught exception is no datum of a built-in class -/
def isiD (x : Dt) (k : String → Prop) : Prop := match x with
  | .exc _ _ _ _ _ => False
  | x => k (tyD x)
/-- whether a value of the class a is one of T -/
def isiB (a T : String) : Bool := a == T || (a == "bool" && T == "int")
def isiOk (T : String) : Bool := ["NoneType", "bool", "int", "str", "tuple", "list", "dict"].all fun a => decide (kitB a T = some (isiB a T))
theorem sqT_ty {H : Hp} {a : Addr} {xs : List V} (h : SqT K H a xs) : TyX K H (.ref a) (.type "tuple") := by
  rcases h with (h | ⟨o, h⟩) | ⟨o, its, n, h1, h2, _⟩
  · exact .base (.tup h)
  · exact .fTuple h
  · exact .kTuple h1 h2
theorem sqL_ty {H : Hp} {a : Addr} {xs : List V} (h : SqL K H a xs) : TyX K H (.ref a) (.type "list") := by
  rcases h with (h | ⟨o, h⟩) | ⟨o, its, n, h1, h2, _⟩
  · exact .base (.lst h)
  · exact .base (.frz h)
  · exact .kList h1 h2
theorem tyX_of {B H : Hp} {x : Dt} {v : V} {k : String → Prop} (e : Same B H) (r : RepH K B H x v) (hi : isiD x k) : TyX K H v (.type (tyD x)) := by
  cases x with
  | emp =>
    obtain ⟨a, rfl, h⟩ := r
    exact .base (.dK (e _ _ h))
  | exc a C dd ns l => exact hi.elim
  | non =>
    have e : v = .non := r
    subst e
    exact .base .non
  | bl k =>
    have e : v = .bl k := r
    subst e
    exact .base (.bl k)
  | int i =>
    have e : v = .int i := r
    subst e
    exact .base (.int i)
  | str i =>
    have e : v = .str (S i) := r
    subst e
    exact .base (.str _)
  | tup l =>
    obtain ⟨a, xs, rfl, h, _⟩ := r
    exact sqT_ty (sameT e h)
  | lst l =>
    obtain ⟨a, xs, rfl, h, _⟩ := r
    exact .base (.lst h)
  | frz l =>
    obtain ⟨a, xs, rfl, h, _⟩ := r
    exact sqL_ty (e.seq h)
theorem tyD_in {x : Dt} {k : String → Prop} (hi : isiD x k) : tyD x ∈ ["NoneType", "bool", "int", "str", "tuple", "list", "dict"] := by
  cases x with
  | exc a C dd ns l => exact hi.elim
  | _ => simp [tyD]
theorem isiD_k {x : Dt} {k : String → Prop} (hi : isiD x k) : k (tyD x) := by
  cases x with
  | exc a C dd ns l => exact hi.elim
  | _ => exact hi
def dIsi (T : String) (da : DE) : DE := fun c Q => da c fun r c1 => on1 (hd r) c1 fun x => isiD x fun t => Q (.dat (.bl (isiB t T))) c1
theorem qe_isi {T : String} {a : Expr} {Tn : Str} {p p2 pos : Pos} {da : DE} (hT : isiOk T = true) (hg : Gl X "isinstance") (hm : X.mg "isinstance" = none) (hg2 : Gl X Tn) (hm2 : X.mg Tn = none) (hv2 : bootBuiltins Tn = some (.type T)) (ha : QE X PL a da)
    (hn : Tn ≠ "__name__" := by decide) (hdb : (Tn == ("__debug__" : Str)) = false := by decide) (he : starEach [a, .Name Tn p2] X.env = (false, eval a X.env) :: starEach [.Name Tn p2] X.env := by rfl) (he2 : starEach [.Name Tn p2] X.env = (false, eval (.Name Tn p2) X.env) :: starEach [] X.env := by rfl)
    (hpl : (backTo pos (starEach [.Name Tn p2] X.env)).any (·.1) = false := by rfl) : QE X PL (.Call (.Name "isinstance" p) [a, .Name Tn p2] [] pos) (dIsi T da) := by
  have hb : bootBuiltins "isinstance" = some (.builtin "isinstance") := by decide +kernel
  have pT : PE X (.Name Tn p2) (tC (.ty T)) := pe_bltn hg2 hm2 hv2 rfl hn hdb
  refine q_of (pe_callB (call_isi) hg hm hb (pa_cons ha.pe (pa_cons pT pa_nil he2) he) (by decide) (by decide) he hpl) fun G B c σ H Qd Q hc hd2 hq => ?_
  refine ⟨G, B, c, _, hc, hd2, fun r c1 B1 H1 v q e1 cr => ?_⟩
  obtain ⟨B2, e2, hc2, hh⟩ := cr.hold
  obtain ⟨x, rx, hf⟩ := on1_ok hc2 hh q
  have hk : kitB (tyD x) T = some (isiB (tyD x) T) := by
    unfold isiOk at hT
    exact of_decide_eq_true (List.all_eq_true.mp hT _ (tyD_in hf))
  exact ⟨v, .ty T, .type (tyD x), .type T, _, rfl, .ty T, tyX_of hc2.same rx hf, kit_ty hk, hq _ c1 B2 H1 _ (isiD_k hf) (e1.trans e2) ⟨hc2, by unfold Rep; rfl⟩⟩
/-! ### what readings use -/
theorem one_eq {a b : Nat} : ([a] = [b]) = (a = b) := by simp
theorem fIn_str {neg : Bool} {s t : List Nat} {k : Res → Prop} : fIn neg (.str s) (.str t) k = one1 s fun ch => k (.dat (.bl (decide (ch ∈ t) != neg))) := rfl
theorem fIn_lst {neg : Bool} {x : Dt} {l : List Dt} {k : Res → Prop} : fIn neg x (.lst l) k = ((flatD x = true ∧ l.all flatD = true) ∧ k (.dat (.bl ((l.any fun y => eqD y x) != neg)))) := by cases x <;> rfl
theorem fIn_tup {neg : Bool} {x : Dt} {l : List Dt} {k : Res → Prop} : fIn neg x (.tup l) k = ((flatD x = true ∧ l.all flatD = true) ∧ k (.dat (.bl ((l.any fun y => eqD y x) != neg)))) := by cases x <;> rfl
theorem cut_nat {α : Type} {l : List α} {a b : Nat} (hb : b ≤ l.length) (hab : a ≤ b) : cut l (some (a : Int)) (some (b : Int)) = (l.drop a).take (b - a) := by
  unfold cut
  rw [HT.sIx_nat, HT.sIx_nat, Nat.min_eq_left hb, Nat.min_eq_left (by omega)]
theorem cut_from {α : Type} {l : List α} {a : Nat} (ha : a ≤ l.length) : cut l (some (a : Int)) none = l.drop a := by
  unfold cut
  rw [HT.sIx_nat, HT.sIx_none, Nat.min_eq_left ha, List.take_of_length_le (by simp)]
theorem cut_to {α : Type} {l : List α} {b : Nat} (hb : b ≤ l.length) : cut l none (some (b : Int)) = l.take b := by
  unfold cut
  rw [HT.sIx_nat, HT.sIx_none, Nat.min_eq_left hb]
  simp
theorem atI_ok {α : Type} {l : List α} {i : Int} {n : Nat} {x : α} (hi : i = (n : Int)) (h : l[n]? = some x) : atI l i = some x := by
  rw [hi]
  exact atI_nat h
theorem atI_neg1 {α : Type} {l : List α} {x : α} (h : l.getLast? = some x) : atI l (-1) = some x := by
  obtain ⟨r, rfl⟩ : ∃ r, l = r ++ [x] := by
    cases e : l.reverse with
    | nil =>
      have : l = [] := by simpa using e
      rw [this] at h
      cases h
    | cons y q =>
      refine ⟨q.reverse, ?_⟩
      have e2 : l = q.reverse ++ [y] := by
        have := congrArg List.reverse e
        simpa using this
      rw [e2] at h
      simp at h
      rw [e2, h]
  exact atI_last r x
theorem ixN_ok {n : Nat} {i : Int} {m : Nat} (hi : i = (m : Int)) (h : m < n) : ixN n i = some m := by
  unfold ixN
  rw [hi, if_pos (by omega), if_pos (by omega)]
  simp
theorem rngD_length (lo : Int) (n : Nat) : (rngD lo n).length = n := by simp [rngD]
theorem rngD_get {lo : Int} {n k : Nat} {d : Dt} (h : (rngD lo n)[k]? = some d) : k < n ∧ d = .int (lo + (k : Int)) := by
  have hk : k < n := by
    have := (List.getElem?_eq_some_iff.mp h).1
    rwa [rngD_length] at this
  refine ⟨hk, ?_⟩
  unfold rngD at h
  rw [List.getElem?_map, List.getElem?_range hk] at h
  exact (Option.some.inj h).symm
theorem rngC_length (lo st : Int) (n : Nat) : (rngC lo st n).length = n := by simp [rngC]
theorem rngC_get {lo st : Int} {n k : Nat} {d : Dt} (h : (rngC lo st n)[k]? = some d) : k < n ∧ d = .int (lo + (k : Int) * st) := by
  have hk : k < n := by
    have := (List.getElem?_eq_some_iff.mp h).1
    rwa [rngC_length] at this
  refine ⟨hk, ?_⟩
  unfold rngC at h
  rw [List.getElem?_map, List.getElem?_range hk] at h
  exact (Option.some.inj h).symm
end
end Cl

namespace Cl
open PySem PySem.Spec PyProof.Rows L2
/-! ### the equations by which a reading is simplified: each opens only what is known -/
def onS (s : Slot) (f : Dt → Prop) : Prop := match s with
  | .dat d => f d
  | .own (.lst l) => f (.lst l)
  | .arg (.lst l) => f (.lst l)
  | _ => False
theorem onS_ok {c : CEnv} {f : Dt → Prop} {i : Nat} : on1 (.sl i) c f = onS (gt c i) f := by
  cases q : gt c i with
  | no => simp only [on1, onS, vw, q]
  | dat d => simp only [on1, onS, vw, q]
  | own o => cases o <;> simp only [on1, onS, vw, q]
  | arg o => cases o <;> simp only [on1, onS, vw, q]
def asS (s : Slot) (i : Nat) (c : CEnv) (k : Dt → CEnv → Prop) : Prop := match s with
  | .dat d => k d c
  | .own (.lst l) => k (.lst l) (c.set i (.dat (.lst l)))
  | _ => False
theorem asS_ok {k : Dt → CEnv → Prop} {c : CEnv} {i : Nat} : asD (.sl i) c k = asS (gt c i) i c k := by
  cases q : gt c i with
  | no => simp only [asD, asS, q]
  | dat d => simp only [asD, asS, q]
  | own o => cases o <;> simp only [asD, asS, q]
  | arg o => cases o <;> simp only [asD, asS, q]
def varS (s : Slot) (i : Nat) (c : CEnv) (Q : Res → CEnv → Prop) : Prop := match s with
  | .dat d => Q (.dat d) c
  | .own _ => Q (.sl i) c
  | .arg _ => Q (.sl i) c
  | .no => False
theorem varS_ok {Q : Res → CEnv → Prop} {c : CEnv} {i : Nat} : dVar i c Q = varS (gt c i) i c Q := rfl
def putS (s : Slot) (i j : Nat) (c : CEnv) (k : CEnv → Prop) : Prop := match s with
  | .dat d => k (c.set i (.dat d))
  | .own (.lst l) => k ((c.set j (.dat (.lst l))).set i (.dat (.lst l)))
  | _ => False
theorem putS_ok {k : CEnv → Prop} {c : CEnv} {i j : Nat} : put i (.sl j) c k = putS (gt c j) i j c k := by
  cases q : gt c j with
  | no => simp only [put, putS, q]
  | dat d => simp only [put, putS, q]
  | own o => cases o <;> simp only [put, putS, q]
  | arg o => cases o <;> simp only [put, putS, q]
def toRetS (s : Slot) (i : Nat) (c : CEnv) (Q : Res → CEnv → Prop) : Prop := match s with
  | .dat d => Q (.dat d) c
  | .own _ => Q (.sl i) c
  | _ => False
theorem toRetS_ok {Q : Res → CEnv → Prop} {c : CEnv} {i : Nat} : toRet (.sl i) c Q = toRetS (gt c i) i c Q := by
  cases q : gt c i <;> simp only [toRet, toRetS, q]
def retBS (s : Slot) (as : List AArg) (R : Res → List AArg → Prop) (c : CEnv) : Prop := match s with
  | .own o => bk as c (R (.new o))
  | _ => False
theorem retBS_ok {R : Res → List AArg → Prop} {as : List AArg} {c : CEnv} {i : Nat} : retB as R (.sl i) c = retBS (gt c i) as R c := by
  cases q : gt c i <;> simp only [retB, retBS, q]
theorem bk_dat_ok {k : List AArg → Prop} {as : List AArg} {c : CEnv} {d : Dt} {s : Slot} : bk (.dat d :: as) (s :: c) k = bk as c fun r => k (.dat d :: r) := by
  unfold bk
  show (match (backA as c).map (AArg.dat d :: ·) with
    | some as' => k as'
    | none => False) = _
  cases backA as c <;> rfl
theorem bk_ob_ok {k : List AArg → Prop} {as : List AArg} {c : CEnv} {o o' : Ob} : bk (.ob o :: as) (.arg o' :: c) k = bk as c fun r => k (.ob o' :: r) := by
  unfold bk
  show (match (backA as c).map (AArg.ob o' :: ·) with
    | some as' => k as'
    | none => False) = _
  cases backA as c <;> rfl
def ixS (s : List Nat) (i : Int) (k : Res → Prop) : Prop := match atI s i with
  | some ch => k (.dat (.str [ch]))
  | none => False
theorem ixL_n {l : List Dt} {n : Nat} {d : Dt} {k : Res → Prop} (h : l[n]? = some d) : ixL l (n : Int) k = k (.dat d) := by
  unfold ixL
  rw [atI_nat h]
theorem ixL_i {l : List Dt} {i : Int} {n : Nat} {d : Dt} {k : Res → Prop} (hi : i = (n : Int)) (h : l[n]? = some d) (hk : k (.dat d)) : ixL l i k := by
  rw [hi, ixL_n h]
  exact hk
theorem ixS_i {s : List Nat} {i : Int} {n ch : Nat} {k : Res → Prop} (hi : i = (n : Int)) (h : s[n]? = some ch) (hk : k (.dat (.str [ch]))) : ixS s i k := by
  unfold ixS
  rw [atI_ok hi h]
  exact hk
theorem ixL_last {l : List Dt} {d : Dt} {k : Res → Prop} (h : l.getLast? = some d) (hk : k (.dat d)) : ixL l (-1) k := by
  unfold ixL
  rw [atI_neg1 h]
  exact hk
def partQ (r : Res) (c : CEnv) (Q : Option Int → CEnv → Prop) : Prop := match r with
  | .dat (.int i) => Q (some i) c
  | _ => False
theorem dPart_ok {de : DE} {c : CEnv} {Q : Option Int → CEnv → Prop} : dPart de c Q = de c fun r c1 => partQ r c1 Q := rfl
def popL (l : List Dt) (k : Dt → List Dt → Prop) : Prop := match l.getLast? with
  | some d => k d l.dropLast
  | none => False
theorem popL_ok {k : Dt → List Dt → Prop} {l : List Dt} : mPop l [] k = popL l k := rfl
def obS (s : Slot) (k : List Dt → Prop) : Prop := match s with
  | .own (.lst l) => k l
  | .arg (.lst l) => k l
  | _ => False
theorem obS_ok {k : List Dt → Prop} {c : CEnv} {i : Nat} : obL c i k = obS (gt c i) k := rfl
def setS (s : Slot) (c : CEnv) (i : Nat) (m : List Dt) : CEnv := match s with
  | .arg _ => c.set i (.arg (.lst m))
  | _ => c.set i (.own (.lst m))
theorem setS_ok {c : CEnv} {i : Nat} {m : List Dt} : setL c i m = setS (gt c i) c i m := by
  unfold setL setS
  cases gt c i <;> rfl
def setN (n : Option Nat) (c : CEnv) (i : Nat) (l : List Dt) (d : Dt) (k : CEnv → Prop) : Prop := match n with
  | some n => k (setL c i (l.set n d))
  | none => False
def ixQ (r : Res) (c : CEnv) (i : Nat) (d : Dt) (k : CEnv → Prop) : Prop := match r with
  | .dat (.int j) => obL c i fun l => setN (ixN l.length j) c i l d k
  | _ => False
theorem dSetIx_ok {i : Nat} {dx de : DE} {E : CEnds} {c : CEnv} : dSetIx i dx de E c = de c fun r c1 => asD r c1 fun d c2 => obL c2 i fun _ => dx c2 fun rx c3 => ixQ rx c3 i d E.nx := rfl
def mtQ (r : Res) (f : MtF) (da : DA) (c : CEnv) (Q : Res → CEnv → Prop) : Prop := match r with
  | .dat (.str s) => da c fun rs c2 => vws rs c2 fun xs => f (.str s) xs fun z => Q z c2
  | _ => False
theorem dMt_ok {f : MtF} {de : DE} {da : DA} {c : CEnv} {Q : Res → CEnv → Prop} : dMt f de da c Q = de c fun r c1 => mtQ r f da c1 Q := rfl
def isOb (s : Slot) : Prop := match s with
  | .own _ => True
  | .arg _ => True
  | _ => False
theorem vOwn_ok {i : Nat} {dv : DV} {c : CEnv} {Q : List AV → CEnv → Prop} : vOwn i dv c Q = (isOb (gt c i) ∧ dv c fun avs c3 => Q (.own i :: avs) c3) := by
  unfold vOwn isOb
  cases gt c i <;> simp
def lookQ (avs : List AV) (c : CEnv) (k : List AArg → Prop) : Prop := match looks c avs with
  | none => False
  | some as => k as
def lookS (s : Slot) (k : Ob → Prop) : Prop := match s with
  | .own o => k o
  | .arg o => k o
  | _ => False
theorem callQ_ok {F : FS} {avs : List AV} {c : CEnv} {Q : Res → CEnv → Prop} : callQ F avs c Q = (nodupO avs = true ∧ lookQ avs c fun as => F as fun r as' => retC r (putA avs as' 0 c) Q) := rfl
theorem lookQ_dat {c : CEnv} {k : List AArg → Prop} {d : Dt} {r : List AV} : lookQ (.dat d :: r) c k = lookQ r c fun as => k (.dat d :: as) := by
  unfold lookQ
  show (match (match looks c r with
    | none => none
    | some xs => some (AArg.dat d :: xs)) with
    | none => False
    | some as => k as) = _
  cases looks c r <;> rfl
theorem lookQ_own {c : CEnv} {k : List AArg → Prop} {i : Nat} {r : List AV} : lookQ (.own i :: r) c k = lookS (gt c i) fun o => lookQ r c fun as => k (.ob o :: as) := by
  cases q : gt c i with
  | no => simp only [lookQ, lookS, looks, lookA, q]
  | dat d => simp only [lookQ, lookS, looks, lookA, q]
  | own o => cases p : looks c r <;> simp only [lookQ, lookS, looks, lookA, q, p]
  | arg o => cases p : looks c r <;> simp only [lookQ, lookS, looks, lookA, q, p]
def notIn (i : Nat) (r : List AV) : Bool := r.all fun a => match a with
  | .own j => i != j
  | _ => true
theorem nd_own_ok {i : Nat} {r : List AV} : nodupO (.own i :: r) = (notIn i r && nodupO r) := rfl
def rngQ (ds : List Dt) (k : Int → Prop) : Prop := match ds with
  | [.int n] => k n
  | _ => False
theorem dRng1_ok {da : DL} {c : CEnv} {Q : List Dt → CEnv → Prop} : dRng1 da c Q = da c fun ds c1 => rngQ ds fun n => (n ≤ 1000000000 ∧ -1000000000 ≤ n) ∧ Q (rngD 0 n.toNat) c1 := rfl
def two (ds : List Dt) (k : Dt → Dt → Prop) : Prop := match ds with
  | [d, e] => k d e
  | _ => False
theorem dPar_ok {i j : Nat} {da : DL} {E : CEnds} {c : CEnv} : dPar i j da E c = da c fun ds c1 => two ds fun d e => E.nx ((c1.set i (.dat d)).set j (.dat e)) := rfl
def augS (s : Slot) (i : Nat) (f : OpF) (de : DE) (E : CEnds) (c : CEnv) : Prop := match s with
  | .dat x => de c fun r c1 => on1 (hd r) c1 fun y => f x y fun z => put i z c1 E.nx
  | _ => False
theorem dAug_ok {i : Nat} {f : OpF} {de : DE} {E : CEnds} {c : CEnv} : dAug i f de E c = augS (gt c i) i f de E c := rfl
/-- the slots of a comprehension's own names, behind it -/
def unwS (s : Slot) : Slot := match s with
  | .dat d => .dat d
  | _ => .no
theorem c_unw_nil {c1 c : CEnv} : unw [] c1 c = c := rfl
theorem c_unw {v : Nat} {vs : List Nat} {c1 c : CEnv} : unw (v :: vs) c1 c = (unw vs c1 c).set v (unwS (gt c1 v)) := rfl
theorem c_unwS_no : unwS .no = .no := rfl
theorem c_unwS_dat {d : Dt} : unwS (.dat d) = .dat d := rfl

/-! ### loops and comprehensions, opened -/
def FI (ds : List Dt) (g : DG) (body : DS) (E : CEnds) (c1 : CEnv) : Prop := ∃ I : Nat → CEnv → Prop, I 0 c1 ∧
  (∀ k d c', ds[k]? = some d → I k c' → g d c' fun c2 => body { nx := I (k + 1), rt := E.rt, bk := E.nx, ct := I (k + 1), ra := E.ra } c2) ∧ ∀ c', I ds.length c' → E.nx c'
theorem dFor_ok {di : DI} {g : DG} {body : DS} {E : CEnds} {c : CEnv} : dFor di g body E c = di c fun ds c1 => FI ds g body E c1 := rfl
def LCI (ds : List Dt) (g : DG) (dt : DT) (de : DE) (vs : List Nat) (c1 : CEnv) (Q : Res → CEnv → Prop) : Prop := ds.length ≤ 9000000 ∧ ∃ I : Nat → List Dt → CEnv → Prop, I 0 [] (wipeC vs c1) ∧
  (∀ k acc d c', ds[k]? = some d → acc.length ≤ k → I k acc c' → g d c' fun c2 => dt c2 fun b c3 => br b (de c3 fun r c4 => asD r c4 fun e c5 => I (k + 1) (acc ++ [e]) (wipeC vs c5)) (I (k + 1) acc (wipeC vs c3))) ∧ ∀ acc c', acc.length ≤ ds.length → I ds.length acc c' → Q (.new (.lst acc)) (unw vs c1 c')
theorem dLc_ok {di : DI} {g : DG} {dt : DT} {de : DE} {vs : List Nat} {c : CEnv} {Q : Res → CEnv → Prop} : dLc di g dt de vs c Q = di c fun ds c1 => LCI ds g dt de vs c1 Q := rfl
theorem rng_at {lo : Int} {n k : Nat} {d : Dt} (h : (rngD lo n)[k]? = some d) : k < n ∧ d = .int (lo + (k : Int)) := by
  have hl := (List.getElem?_eq_some_iff.mp h).1
  rw [rngD_length] at hl
  refine ⟨hl, ?_⟩
  unfold rngD at h
  rw [List.getElem?_map, List.getElem?_range hl] at h
  exact (Option.some.inj h).symm
theorem rngc_at {lo st : Int} {n k : Nat} {d : Dt} (h : (rngC lo st n)[k]? = some d) : k < n ∧ d = .int (lo + (k : Int) * st) := by
  have hl := (List.getElem?_eq_some_iff.mp h).1
  rw [rngC_length] at hl
  refine ⟨hl, ?_⟩
  unfold rngC at h
  rw [List.getElem?_map, List.getElem?_range hl] at h
  exact (Option.some.inj h).symm
theorem for_rng {lo : Int} {n : Nat} {g : DG} {body : DS} {E : CEnds} {c : CEnv} (I : Nat → CEnv → Prop) (h0 : I 0 c) (hs : ∀ k c', k < n → I k c' → g (.int (lo + (k : Int))) c' fun c2 => body { nx := I (k + 1), rt := E.rt, bk := E.nx, ct := I (k + 1), ra := E.ra } c2) (he : ∀ c', I n c' → E.nx c') : FI (rngD lo n) g body E c := by
  refine ⟨I, h0, fun k d c' hd hI => ?_, fun c' h => he c' (by rwa [rngD_length] at h)⟩
  obtain ⟨h1, rfl⟩ := rng_at hd
  exact hs k c' h1 hI
theorem for_map {α : Type} {xs : List α} {f : α → Dt} {g : DG} {body : DS} {E : CEnds} {c : CEnv} (I : Nat → CEnv → Prop) (h0 : I 0 c) (hs : ∀ k x c', xs[k]? = some x → I k c' → g (f x) c' fun c2 => body { nx := I (k + 1), rt := E.rt, bk := E.nx, ct := I (k + 1), ra := E.ra } c2) (he : ∀ c', I xs.length c' → E.nx c') : FI (xs.map f) g body E c := by
  refine ⟨I, h0, fun k d c' hd hI => ?_, fun c' h => he c' (by rwa [List.length_map] at h)⟩
  rw [List.getElem?_map] at hd
  cases q : xs[k]? with
  | none =>
    rw [q] at hd
    cases hd
  | some x =>
    rw [q] at hd
    cases hd
    exact hs k x c' q hI
theorem lc_pure {ds : List Dt} {g : DG} {dt : DT} {de : DE} {vs : List Nat} {c1 : CEnv} {Q : Res → CEnv → Prop} (f : Dt → Option Dt) (hl : ds.length ≤ 9000000)
    (hs : ∀ d ∈ ds, ∀ Y : Option Dt → CEnv → Prop, Y (f d) (wipeC vs c1) → g d (wipeC vs c1) fun c2 => dt c2 fun b c3 => br b (de c3 fun r c4 => asD r c4 fun e c5 => Y (some e) (wipeC vs c5)) (Y none (wipeC vs c3)))
    (hQ : Q (.new (.lst (ds.filterMap f))) (unw vs c1 (wipeC vs c1))) : LCI ds g dt de vs c1 Q := by
  refine ⟨hl, fun k acc c' => acc = (ds.take k).filterMap f ∧ c' = wipeC vs c1, ⟨by simp, rfl⟩, ?_, ?_⟩
  · rintro k acc d c' hd _ ⟨rfl, rfl⟩
    have h1 := hs d (List.mem_of_getElem? hd) (fun o c' => (match o with
      | some e => (ds.take k).filterMap f ++ [e] = (ds.take (k + 1)).filterMap f
      | none => (ds.take k).filterMap f = (ds.take (k + 1)).filterMap f) ∧ c' = wipeC vs c1) ⟨?_, rfl⟩
    · exact h1
    · rw [List.take_add_one, hd]
      cases q : f d <;> simp [q]
  · rintro acc c' _ ⟨rfl, rfl⟩
    rw [List.take_length]
    exact hQ
/-- one new item for each -/
theorem lc_map {ds : List Dt} {g : DG} {de : DE} {vs : List Nat} {c1 : CEnv} {Q : Res → CEnv → Prop} (f : Dt → Dt) (hl : ds.length ≤ 9000000)
    (hs : ∀ d ∈ ds, ∀ Y : Dt → CEnv → Prop, Y (f d) (wipeC vs c1) → g d (wipeC vs c1) fun c2 => (de c2 fun r c4 => asD r c4 fun e c5 => Y e (wipeC vs c5)))
    (hQ : Q (.new (.lst (ds.map f))) (unw vs c1 (wipeC vs c1))) : LCI ds g dYes de vs c1 Q := by
  refine lc_pure (fun d => some (f d)) hl (fun d hd Y hY => ?_) ?_
  · exact hs d hd (fun e c' => Y (some e) c') hY
  · rw [show ds.filterMap (fun d => some (f d)) = ds.map f from by
      induction ds with
      | nil => rfl
      | cons a r ih => simp]
    exact hQ
theorem setN_i {n m j : Nat} {i : Int} {c : CEnv} {l : List Dt} {d : Dt} {k : CEnv → Prop} (hi : i = (m : Int)) (h : m < n) (hk : k (setL c j (l.set m d))) : setN (ixN n i) c j l d k := by
  rw [ixN_ok hi h]
  exact hk
theorem getSet {α : Type} {l : List α} {i j : Nat} {a : α} (h : i < l.length) : (l.set i a)[j]? = if i = j then some a else l[j]? := by
  rw [List.getElem?_set]
  by_cases e : i = j
  · rw [if_pos e, if_pos e, if_pos h]
  · rw [if_neg e, if_neg e]
theorem rep_flat {α : Type} (n : Nat) (a : α) : (List.replicate n [a]).flatten = List.replicate n a := by
  induction n with
  | zero => rfl
  | succ n ih => rw [List.replicate_succ, List.flatten_cons, ih]; rfl
theorem ixL_mem {l : List Dt} {i : Int} {k : Res → Prop} (h0 : 0 ≤ i) (h1 : i < l.length) (hk : ∀ d ∈ l, k (.dat d)) : ixL l i k := by
  have hl : i.toNat < l.length := by omega
  exact ixL_i (n := i.toNat) (by omega) (List.getElem?_eq_getElem hl) (hk _ (List.getElem_mem hl))
/-- how many a range with a step gives -/
def stepN (a b c : Int) : Nat := if a < b then ((b - a - 1) / c + 1).toNat else 0
theorem rgC_pos {a b c : Int} (ha : -1000000000 ≤ a) (ha' : a ≤ 1000000000) (hb : -1000000000 ≤ b) (hb' : b ≤ 1000000000) (hc : 0 < c) (hc' : c ≤ 1000000000) : RgC a b c (stepN a b c) := by
  have h1 : 0 ≤ (b - a - 1) / c ∨ ¬ a < b := by
    by_cases h : a < b
    · exact .inl (Int.ediv_nonneg (by omega) (by omega))
    · exact .inr h
  have h2 : a < b → (b - a - 1) / c ≤ b - a - 1 := fun h => Int.ediv_le_self _ (by omega)
  have e : Builtin.Range.rangeSize a b c = (stepN a b c : Int) := by
    unfold Builtin.Range.rangeSize stepN
    rw [if_pos hc]
    split
    · omega
    · rfl
  refine ⟨by omega, by omega, ?_, e⟩
  unfold Builtin.Range.small
  rw [e]
  have h3 : (stepN a b c : Int) ≤ 2000000002 := by
    unfold stepN
    split
    · have := h2 (by assumption)
      omega
    · omega
  simp only [Builtin.Range.rangeFitsLong, Bool.and_eq_true, Bool.or_eq_true, decide_eq_true_eq, beq_iff_eq, hc, if_true]
  omega
theorem strs_chars (t : List Nat) : strsD (t.map fun ch => Dt.str [ch]) = some (t.map fun ch => [ch]) := by
  induction t with
  | nil => rfl
  | cons a r ih =>
    rw [List.map_cons]
    show (match strsD (r.map fun ch => Dt.str [ch]) with
      | some ys => some ([a] :: ys)
      | none => none) = _
    rw [ih]
    rfl
theorem joinN_nil : ∀ ys : List (List Nat), joinN [] ys = ys.flatten
  | [] => rfl
  | [p] => by simp [joinN, TL.joinL]
  | p :: q :: r => by
    have := joinN_nil (q :: r)
    show p ++ ([] ++ joinN [] (q :: r)) = _
    rw [this]
    rfl
theorem flat_chars (t : List Nat) : (t.map fun ch => [ch]).flatten = t := by
  induction t with
  | nil => rfl
  | cons a r ih => rw [List.map_cons, List.flatten_cons, ih]; rfl
theorem sum_chars (t : List Nat) : ((t.map fun ch => [ch]).map List.length).sum = t.length := by
  induction t with
  | nil => rfl
  | cons a r ih =>
    rw [List.map_cons, List.map_cons, List.sum_cons, ih, List.length_cons, List.length_cons, List.length_nil]
    omega
/-- the text of signs put together -/
theorem join_chars {t : List Nat} {k : Res → Prop} : joinK [] (t.map fun ch => Dt.str [ch]) k = (t.length ≤ 10000000 ∧ k (.dat (.str t))) := by
  unfold joinK
  rw [strs_chars]
  show (((t.map fun ch => [ch]).map List.length).sum + (t.map fun ch => [ch]).length * ([] : List Nat).length ≤ 10000000 ∧ k (.dat (.str (joinN [] (t.map fun ch => [ch]))))) = _
  rw [sum_chars, joinN_nil, flat_chars, List.length_nil, Nat.mul_zero, Nat.add_zero]

/-! ### putting together -/
theorem bot_ok {P : Program} {w : World} {K : PySem.W.Frag} {mg : Str → Option Value} {base : Heap} {PL : PoolP} {CX : CXT} {k n : Nat} {f : Addr} {fd : FuncData} {ps : List Str} : FnOk P w K mg base CX k f fd ps (spC K PL n fun _ _ => False) :=
  ⟨fun vs H Q E ⟨_, _, _, _, _, _, _, _, h, _⟩ => h.elim, fun A outer s H args us vs Q E _ _ _ _ ⟨_, _, _, _, _, _, _, _, h, _⟩ => h.elim⟩
theorem rep_ints {K : PySem.W.Frag} {B : Hp} : ∀ ns : List Int, RepL K B (ns.map Dt.int) (ns.map V.int)
  | [] => by unfold RepL; rfl
  | n :: r => by
    rw [List.map_cons, List.map_cons]
    unfold RepL
    exact ⟨_, _, rfl, by unfold Rep; rfl, rep_ints r⟩
/-- the law's promise to its caller -/
theorem law_sp {K : PySem.W.Frag} {PL : PoolP} {F : FS} {n : Nat} (hF : ∀ ns : List Int, ns.length ≤ n → ∀ R : Res → List AArg → Prop, (∀ as, R (.dat (.bl true)) as) → F [.dat (.frz (ns.map .int))] R) {H : Hp} {a : Addr} {ns : List Int} {E : XK} (hl : ns.length ≤ n) (hS : SqL K H a (ns.map V.int)) : spC K PL 1 F [.ref a] H (fun v _ => v = .bl true) E := by
  refine ⟨H, [.dat (.frz (ns.map .int))], fun _ => [], fun r _ => r = .dat (.bl true), rfl, fun _ _ h => h, ⟨rfl, fun k x hk => ?_⟩, ⟨fun _ _ => rfl, fun _ _ _ _ h => absurd h (by simp), fun _ _ h => absurd h (by simp)⟩, hF ns hl _ fun _ => rfl, ?_⟩
  · cases k with
    | zero =>
      cases hk
      exact ⟨_, rfl, rfl, by unfold Rep; exact ⟨a, _, rfl, hS, rep_ints ns⟩⟩
    | succ k => cases hk
  · rintro r as' B' H' v fs' rfl _ _ _ _ _ _ _ _ _ h
    have h : Rep K B' (.bl true) v := h
    unfold Rep at h
    exact h
def noPool : PoolP := ⟨fun _ _ _ => False, fun _ _ _ h => h.elim, fun _ _ _ h => h.elim, fun _ _ _ _ h => h.elim⟩

theorem c_on1_dat {c : CEnv} {f : Dt → Prop} {d : Dt} : on1 (.dat d) c f = f d := by first | exact propext Iff.rfl | rfl
theorem c_on1_sl {c : CEnv} {f : Dt → Prop} {i : Nat} : on1 (.sl i) c f = onS (gt c i) f := onS_ok
theorem c_onS_dat {f : Dt → Prop} {d : Dt} : onS (.dat d) f = f d := by first | exact propext Iff.rfl | rfl
theorem c_onS_own {f : Dt → Prop} {l : List Dt} : onS (.own (.lst l)) f = f (.lst l) := by first | exact propext Iff.rfl | rfl
theorem c_onS_arg {f : Dt → Prop} {l : List Dt} : onS (.arg (.lst l)) f = f (.lst l) := by first | exact propext Iff.rfl | rfl
theorem c_on2 {r s : Res} {c : CEnv} {f : Dt → Dt → Prop} : on2 r s c f = on1 r c fun x => on1 s c fun y => f x y := by first | exact propext Iff.rfl | rfl
theorem c_hd_dat {d : Dt} : hd (.dat d) = .dat d := by first | exact propext Iff.rfl | rfl
theorem c_hd_sl {i : Nat} : hd (.sl i) = .sl i := by first | exact propext Iff.rfl | rfl
theorem c_hd_new {l : List Dt} : hd (.new (.lst l)) = .dat (.lst l) := by first | exact propext Iff.rfl | rfl
theorem c_asD_dat {k : Dt → CEnv → Prop} {c : CEnv} {d : Dt} : asD (.dat d) c k = k d c := by first | exact propext Iff.rfl | rfl
theorem c_asD_new {k : Dt → CEnv → Prop} {c : CEnv} {l : List Dt} : asD (.new (.lst l)) c k = k (.lst l) c := by first | exact propext Iff.rfl | rfl
theorem c_asD_sl {k : Dt → CEnv → Prop} {c : CEnv} {i : Nat} : asD (.sl i) c k = asS (gt c i) i c k := asS_ok
theorem c_asS_dat {k : Dt → CEnv → Prop} {c : CEnv} {i : Nat} {d : Dt} : asS (.dat d) i c k = k d c := by first | exact propext Iff.rfl | rfl
theorem c_asS_own {k : Dt → CEnv → Prop} {c : CEnv} {i : Nat} {l : List Dt} : asS (.own (.lst l)) i c k = k (.lst l) (c.set i (.dat (.lst l))) := by first | exact propext Iff.rfl | rfl
theorem c_var {Q : Res → CEnv → Prop} {c : CEnv} {i : Nat} : dVar i c Q = varS (gt c i) i c Q := varS_ok
theorem c_varS_dat {Q : Res → CEnv → Prop} {c : CEnv} {i : Nat} {d : Dt} : varS (.dat d) i c Q = Q (.dat d) c := by first | exact propext Iff.rfl | rfl
theorem c_varS_own {Q : Res → CEnv → Prop} {c : CEnv} {i : Nat} {o : Ob} : varS (.own o) i c Q = Q (.sl i) c := by first | exact propext Iff.rfl | rfl
theorem c_varS_arg {Q : Res → CEnv → Prop} {c : CEnv} {i : Nat} {o : Ob} : varS (.arg o) i c Q = Q (.sl i) c := by first | exact propext Iff.rfl | rfl
theorem c_blR {b : Bool} {k : Bool → Prop} : blR (.dat (.bl b)) k = k b := by first | exact propext Iff.rfl | rfl
theorem c_blD {b : Bool} {k : Bool → Prop} : blD (.dat (.bl b)) k = k b := by first | exact propext Iff.rfl | rfl
theorem c_tru_non {k : Bool → Prop} : tru .non k = k false := by first | exact propext Iff.rfl | rfl
theorem c_tru_bl {k : Bool → Prop} {b : Bool} : tru (.bl b) k = k b := by first | exact propext Iff.rfl | rfl
theorem c_tru_int {k : Bool → Prop} {i : Int} : tru (.int i) k = k (i != 0) := by first | exact propext Iff.rfl | rfl
theorem c_tru_lst {k : Bool → Prop} {l : List Dt} : tru (.lst l) k = k (!l.isEmpty) := by first | exact propext Iff.rfl | rfl
theorem c_tru_tup {k : Bool → Prop} {l : List Dt} : tru (.tup l) k = k (!l.isEmpty) := by first | exact propext Iff.rfl | rfl
theorem c_put_dat {k : CEnv → Prop} {c : CEnv} {i : Nat} {d : Dt} : put i (.dat d) c k = k (c.set i (.dat d)) := by first | exact propext Iff.rfl | rfl
theorem c_put_new {k : CEnv → Prop} {c : CEnv} {i : Nat} {o : Ob} : put i (.new o) c k = (i < c.length ∧ k (c.set i (.own o))) := by first | exact propext Iff.rfl | rfl
theorem c_put_sl {k : CEnv → Prop} {c : CEnv} {i : Nat} {j : Nat} : put i (.sl j) c k = putS (gt c j) i j c k := putS_ok
theorem c_putS_dat {k : CEnv → Prop} {c : CEnv} {i : Nat} {j : Nat} {d : Dt} : putS (.dat d) i j c k = k (c.set i (.dat d)) := by first | exact propext Iff.rfl | rfl
theorem c_putS_own {k : CEnv → Prop} {c : CEnv} {i : Nat} {j : Nat} {l : List Dt} : putS (.own (.lst l)) i j c k = k ((c.set j (.dat (.lst l))).set i (.dat (.lst l))) := by first | exact propext Iff.rfl | rfl
theorem c_toRet_dat {Q : Res → CEnv → Prop} {c : CEnv} {d : Dt} : toRet (.dat d) c Q = Q (.dat d) c := by first | exact propext Iff.rfl | rfl
theorem c_toRet_new {Q : Res → CEnv → Prop} {c : CEnv} {o : Ob} : toRet (.new o) c Q = Q (.new o) c := by first | exact propext Iff.rfl | rfl
theorem c_toRet_sl {Q : Res → CEnv → Prop} {c : CEnv} {i : Nat} : toRet (.sl i) c Q = toRetS (gt c i) i c Q := toRetS_ok
theorem c_toRetS_dat {Q : Res → CEnv → Prop} {c : CEnv} {i : Nat} {d : Dt} : toRetS (.dat d) i c Q = Q (.dat d) c := by first | exact propext Iff.rfl | rfl
theorem c_toRetS_own {Q : Res → CEnv → Prop} {c : CEnv} {i : Nat} {o : Ob} : toRetS (.own o) i c Q = Q (.sl i) c := by first | exact propext Iff.rfl | rfl
theorem c_retC_dat {Q : Res → CEnv → Prop} {c : CEnv} {d : Dt} : retC (.dat d) c Q = Q (.dat d) c := by first | exact propext Iff.rfl | rfl
theorem c_retC_new {Q : Res → CEnv → Prop} {c : CEnv} {o : Ob} : retC (.new o) c Q = Q (.new o) c := by first | exact propext Iff.rfl | rfl
theorem c_ends_rt {R : Res → List AArg → Prop} {as : List AArg} {r : Res} {c : CEnv} : (fnEnds as R).rt r c = retB as R r c := by first | exact propext Iff.rfl | rfl
theorem c_ends_nx {R : Res → List AArg → Prop} {as : List AArg} {c : CEnv} : (fnEnds as R).nx c = bk as c (R (.dat .non)) := by first | exact propext Iff.rfl | rfl
theorem c_ends_bk {R : Res → List AArg → Prop} {as : List AArg} {c : CEnv} : (fnEnds as R).bk c = False := by first | exact propext Iff.rfl | rfl
theorem c_ends_ct {R : Res → List AArg → Prop} {as : List AArg} {c : CEnv} : (fnEnds as R).ct c = False := by first | exact propext Iff.rfl | rfl
theorem c_retB_dat {R : Res → List AArg → Prop} {as : List AArg} {c : CEnv} {d : Dt} : retB as R (.dat d) c = bk as c (R (.dat d)) := by first | exact propext Iff.rfl | rfl
theorem c_retB_new {R : Res → List AArg → Prop} {as : List AArg} {c : CEnv} {o : Ob} : retB as R (.new o) c = bk as c (R (.new o)) := by first | exact propext Iff.rfl | rfl
theorem c_retB_sl {R : Res → List AArg → Prop} {as : List AArg} {c : CEnv} {i : Nat} : retB as R (.sl i) c = retBS (gt c i) as R c := retBS_ok
theorem c_retBS_own {R : Res → List AArg → Prop} {as : List AArg} {c : CEnv} {o : Ob} : retBS (.own o) as R c = bk as c (R (.new o)) := by first | exact propext Iff.rfl | rfl
theorem c_bk_nil {k : List AArg → Prop} {c : CEnv} : bk [] c k = k [] := by cases c <;> rfl
theorem c_bk_dat {k : List AArg → Prop} {as : List AArg} {c : CEnv} {d : Dt} {s : Slot} : bk (.dat d :: as) (s :: c) k = bk as c fun r => k (.dat d :: r) := bk_dat_ok
theorem c_bk_ob {k : List AArg → Prop} {as : List AArg} {c : CEnv} {o o' : Ob} : bk (.ob o :: as) (.arg o' :: c) k = bk as c fun r => k (.ob o' :: r) := bk_ob_ok
theorem c_gt0 {c : CEnv} {s : Slot} : gt (s :: c) 0 = s := by first | exact propext Iff.rfl | rfl
theorem c_gtS {c : CEnv} {s : Slot} {n : Nat} : gt (s :: c) (n + 1) = gt c n := by first | exact propext Iff.rfl | rfl
theorem c_fsub {k : Res → Prop} {i j : Int} : fSub (.int i) (.int j) k = (True ∧ k (.dat (.int (i - j)))) := by first | exact propext Iff.rfl | rfl
theorem c_faddI {k : Res → Prop} {i j : Int} : fAddI (.int i) (.int j) k = (True ∧ k (.dat (.int (i + j)))) := by first | exact propext Iff.rfl | rfl
theorem c_fadd_int {k : Res → Prop} {i j : Int} : fAdd (.int i) (.int j) k = k (.dat (.int (i + j))) := by first | exact propext Iff.rfl | rfl
theorem c_fadd_str {k : Res → Prop} {s t : List Nat} : fAdd (.str s) (.str t) k = (s.length + t.length ≤ 10000000 ∧ k (.dat (.str (s ++ t)))) := by first | exact propext Iff.rfl | rfl
theorem c_fadd_lst {k : Res → Prop} {l m : List Dt} : fAdd (.lst l) (.lst m) k = (l.length + m.length ≤ 10000000 ∧ k (.new (.lst (l ++ m)))) := by first | exact propext Iff.rfl | rfl
theorem c_fadd_tup {k : Res → Prop} {l m : List Dt} : fAdd (.tup l) (.tup m) k = (l ≠ [] ∧ l.length + m.length ≤ 10000000 ∧ k (.dat (.tup (l ++ m)))) := by first | exact propext Iff.rfl | rfl
theorem c_fmul_int {k : Res → Prop} {i j : Int} : fMul (.int i) (.int j) k = (((-(2 ^ 64) < i ∧ i < 2 ^ 64) ∨ (-(2 ^ 64) < j ∧ j < 2 ^ 64)) ∧ k (.dat (.int (i * j)))) := by first | exact propext Iff.rfl | rfl
theorem c_fmul_lst {k : Res → Prop} {l : List Dt} {n : Int} : fMul (.lst l) (.int n) k = ((n ≤ 10000000 ∧ -10000000 ≤ n ∧ l.length * n.toNat ≤ 10000000) ∧ k (.new (.lst (List.replicate n.toNat l).flatten))) := by first | exact propext Iff.rfl | rfl
theorem c_fmul_str {k : Res → Prop} {s : List Nat} {n : Int} : fMul (.str s) (.int n) k = ((n ≤ 10000000 ∧ -10000000 ≤ n ∧ s.length * n.toNat ≤ 10000000) ∧ k (.dat (.str (List.replicate n.toNat s).flatten))) := by first | exact propext Iff.rfl | rfl
theorem c_fdiv {k : Res → Prop} {i j : Int} : fDiv (.int i) (.int j) k = ((0 < j ∧ j < 1073741824) ∧ k (.dat (.int (i / j)))) := by first | exact propext Iff.rfl | rfl
theorem c_fmod {k : Res → Prop} {i j : Int} : fMod (.int i) (.int j) k = (0 < j ∧ k (.dat (.int (i % j)))) := by first | exact propext Iff.rfl | rfl
theorem c_fpow {k : Res → Prop} {i j : Int} : fPow (.int i) (.int j) k = (CPow i j ∧ k (.dat (.int (i ^ j.toNat)))) := by first | exact propext Iff.rfl | rfl
theorem c_fshl {k : Res → Prop} {i j : Int} : fShl (.int i) (.int j) k = (CPow i j ∧ k (.dat (.int (i * 2 ^ j.toNat)))) := by first | exact propext Iff.rfl | rfl
theorem c_fshr {k : Res → Prop} {i j : Int} : fShr (.int i) (.int j) k = (0 ≤ j ∧ k (.dat (.int (i / 2 ^ j.toNat)))) := by first | exact propext Iff.rfl | rfl
theorem c_fand {k : Res → Prop} {i j : Int} : fAnd (.int i) (.int j) k = (True ∧ k (.dat (.int (Builtin.bitAnd i j)))) := by first | exact propext Iff.rfl | rfl
theorem c_for {k : Res → Prop} {i j : Int} : fOr (.int i) (.int j) k = (True ∧ k (.dat (.int (Builtin.bitOr i j)))) := by first | exact propext Iff.rfl | rfl
theorem c_fxor {k : Res → Prop} {i j : Int} : fXor (.int i) (.int j) k = (True ∧ k (.dat (.int (Builtin.bitXor i j)))) := by first | exact propext Iff.rfl | rfl
theorem c_flt {k : Res → Prop} {i j : Int} : fLt (.int i) (.int j) k = (True ∧ k (.dat (.bl (decide (i < j))))) := by first | exact propext Iff.rfl | rfl
theorem c_fle {k : Res → Prop} {i j : Int} : fLe (.int i) (.int j) k = (True ∧ k (.dat (.bl (decide (i ≤ j))))) := by first | exact propext Iff.rfl | rfl
theorem c_fgt {k : Res → Prop} {i j : Int} : fGt (.int i) (.int j) k = (True ∧ k (.dat (.bl (decide (j < i))))) := by first | exact propext Iff.rfl | rfl
theorem c_fge {k : Res → Prop} {i j : Int} : fGe (.int i) (.int j) k = (True ∧ k (.dat (.bl (decide (j ≤ i))))) := by first | exact propext Iff.rfl | rfl
theorem c_fneg {k : Res → Prop} {i : Int} : fNeg (.int i) k = k (.dat (.int (-i))) := by first | exact propext Iff.rfl | rfl
theorem c_feq_int {k : Res → Prop} {i j : Int} : fEq (.int i) (.int j) k = k (.dat (.bl (decide (i = j)))) := by unfold fEq; rw [eqD_int]; simp [okEq, scD]
theorem c_fne_int {k : Res → Prop} {i j : Int} : fNe (.int i) (.int j) k = k (.dat (.bl (!decide (i = j)))) := by unfold fNe; rw [eqD_int]; simp [okEq, scD]
theorem c_feq_str {k : Res → Prop} {i j : List Nat} : fEq (.str i) (.str j) k = k (.dat (.bl (decide (i = j)))) := by unfold fEq; rw [eqD_str]; simp [okEq, scD]
theorem c_fne_str {k : Res → Prop} {i j : List Nat} : fNe (.str i) (.str j) k = k (.dat (.bl (!decide (i = j)))) := by unfold fNe; rw [eqD_str]; simp [okEq, scD]
theorem c_feq_bl {k : Res → Prop} {i j : Bool} : fEq (.bl i) (.bl j) k = k (.dat (.bl (i == j))) := by unfold fEq; rw [eqD_bl]; simp [okEq, scD]
theorem c_fne_bl {k : Res → Prop} {i j : Bool} : fNe (.bl i) (.bl j) k = k (.dat (.bl (!(i == j)))) := by unfold fNe; rw [eqD_bl]; simp [okEq, scD]
theorem c_fin_str {k : Res → Prop} {s t : List Nat} {neg : Bool} : fIn neg (.str s) (.str t) k = one1 s fun ch => k (.dat (.bl (decide (ch ∈ t) != neg))) := by first | exact propext Iff.rfl | rfl
theorem c_fin_lst {k : Res → Prop} {x : Dt} {l : List Dt} {neg : Bool} : fIn neg x (.lst l) k = ((flatD x = true ∧ l.all flatD = true) ∧ k (.dat (.bl ((l.any fun y => eqD y x) != neg)))) := fIn_lst
theorem c_fin_tup {k : Res → Prop} {x : Dt} {l : List Dt} {neg : Bool} : fIn neg x (.tup l) k = ((flatD x = true ∧ l.all flatD = true) ∧ k (.dat (.bl ((l.any fun y => eqD y x) != neg)))) := fIn_tup
theorem c_fisn {k : Res → Prop} {x : Dt} {neg : Bool} : fIsN neg x .non k = k (.dat (.bl (isN x != neg))) := by first | exact propext Iff.rfl | rfl
theorem c_fisb {k : Res → Prop} {x : Dt} {v : Bool} : fIsB v x (.bl v) k = (True ∧ k (.dat (.bl (isB v x)))) := by unfold fIsB; simp
theorem c_isn_non  : isN Dt.non = true := by first | exact propext Iff.rfl | rfl
theorem c_isb_non  {v : Bool} : isB v Dt.non = false := by first | exact propext Iff.rfl | rfl
theorem c_tyd_non  {k : String → Prop} : isiD Dt.non k = k "NoneType" := propext Iff.rfl
theorem c_isn_bl {b : Bool} : isN (.bl b) = false := by first | exact propext Iff.rfl | rfl
theorem c_isb_bl {b : Bool} {v : Bool} : isB v (.bl b) = (b == v) := by first | exact propext Iff.rfl | rfl
theorem c_tyd_bl {b : Bool} {k : String → Prop} : isiD (.bl b) k = k "bool" := propext Iff.rfl
theorem c_isn_int {i : Int} : isN (.int i) = false := by first | exact propext Iff.rfl | rfl
theorem c_isb_int {i : Int} {v : Bool} : isB v (.int i) = false := by first | exact propext Iff.rfl | rfl
theorem c_tyd_int {i : Int} {k : String → Prop} : isiD (.int i) k = k "int" := propext Iff.rfl
theorem c_isn_str {s : List Nat} : isN (.str s) = false := by first | exact propext Iff.rfl | rfl
theorem c_isb_str {s : List Nat} {v : Bool} : isB v (.str s) = false := by first | exact propext Iff.rfl | rfl
theorem c_tyd_str {s : List Nat} {k : String → Prop} : isiD (.str s) k = k "str" := propext Iff.rfl
theorem c_isn_tup {l : List Dt} : isN (.tup l) = false := by first | exact propext Iff.rfl | rfl
theorem c_isb_tup {l : List Dt} {v : Bool} : isB v (.tup l) = false := by first | exact propext Iff.rfl | rfl
theorem c_tyd_tup {l : List Dt} {k : String → Prop} : isiD (.tup l) k = k "tuple" := propext Iff.rfl
theorem c_isn_lst {l : List Dt} : isN (.lst l) = false := by first | exact propext Iff.rfl | rfl
theorem c_isb_lst {l : List Dt} {v : Bool} : isB v (.lst l) = false := by first | exact propext Iff.rfl | rfl
theorem c_tyd_lst {l : List Dt} {k : String → Prop} : isiD (.lst l) k = k "list" := propext Iff.rfl
theorem c_isn_frz {l : List Dt} : isN (.frz l) = false := by first | exact propext Iff.rfl | rfl
theorem c_isb_frz {l : List Dt} {v : Bool} : isB v (.frz l) = false := by first | exact propext Iff.rfl | rfl
theorem c_tyd_frz {l : List Dt} {k : String → Prop} : isiD (.frz l) k = k "list" := propext Iff.rfl
theorem c_tyd_emp {k : String → Prop} : isiD .emp k = k "dict" := propext Iff.rfl
theorem c_isi_NoneType_bool  : isiB "NoneType" "bool" = false := by decide
theorem c_isi_NoneType_int  : isiB "NoneType" "int" = false := by decide
theorem c_isi_NoneType_str  : isiB "NoneType" "str" = false := by decide
theorem c_isi_NoneType_tuple  : isiB "NoneType" "tuple" = false := by decide
theorem c_isi_NoneType_list  : isiB "NoneType" "list" = false := by decide
theorem c_isi_bool_bool  : isiB "bool" "bool" = true := by decide
theorem c_isi_bool_int  : isiB "bool" "int" = true := by decide
theorem c_isi_bool_str  : isiB "bool" "str" = false := by decide
theorem c_isi_bool_tuple  : isiB "bool" "tuple" = false := by decide
theorem c_isi_bool_list  : isiB "bool" "list" = false := by decide
theorem c_isi_int_bool  : isiB "int" "bool" = false := by decide
theorem c_isi_int_int  : isiB "int" "int" = true := by decide
theorem c_isi_int_str  : isiB "int" "str" = false := by decide
theorem c_isi_int_tuple  : isiB "int" "tuple" = false := by decide
theorem c_isi_int_list  : isiB "int" "list" = false := by decide
theorem c_isi_str_bool  : isiB "str" "bool" = false := by decide
theorem c_isi_str_int  : isiB "str" "int" = false := by decide
theorem c_isi_str_str  : isiB "str" "str" = true := by decide
theorem c_isi_str_tuple  : isiB "str" "tuple" = false := by decide
theorem c_isi_str_list  : isiB "str" "list" = false := by decide
theorem c_isi_tuple_bool  : isiB "tuple" "bool" = false := by decide
theorem c_isi_tuple_int  : isiB "tuple" "int" = false := by decide
theorem c_isi_tuple_str  : isiB "tuple" "str" = false := by decide
theorem c_isi_tuple_tuple  : isiB "tuple" "tuple" = true := by decide
theorem c_isi_tuple_list  : isiB "tuple" "list" = false := by decide
theorem c_isi_list_bool  : isiB "list" "bool" = false := by decide
theorem c_isi_list_int  : isiB "list" "int" = false := by decide
theorem c_isi_list_str  : isiB "list" "str" = false := by decide
theorem c_isi_list_tuple  : isiB "list" "tuple" = false := by decide
theorem c_isi_list_list  : isiB "list" "list" = true := by decide
theorem c_fix_lst {k : Res → Prop} {l : List Dt} {i : Int} : fIx (.lst l) (.int i) k = ixL l i k := by first | exact propext Iff.rfl | rfl
theorem c_fix_tup {k : Res → Prop} {l : List Dt} {i : Int} : fIx (.tup l) (.int i) k = ixL l i k := by first | exact propext Iff.rfl | rfl
theorem c_fix_frz {k : Res → Prop} {l : List Dt} {i : Int} : fIx (.frz l) (.int i) k = ixL l i k := by first | exact propext Iff.rfl | rfl
theorem c_fix_str {k : Res → Prop} {s : List Nat} {i : Int} : fIx (.str s) (.int i) k = (s.length ≤ 10000000 ∧ ixS s i k) := by first | exact propext Iff.rfl | rfl
theorem c_ixL0 {k : Res → Prop} {d : Dt} {l : List Dt} : ixL (d :: l) 0 k = k (.dat d) := ixL_n (n := 0) rfl
theorem c_ixL1 {k : Res → Prop} {d e : Dt} {l : List Dt} : ixL (d :: e :: l) 1 k = k (.dat e) := ixL_n (n := 1) rfl
theorem c_ixL2 {k : Res → Prop} {d e f : Dt} {l : List Dt} : ixL (d :: e :: f :: l) 2 k = k (.dat f) := ixL_n (n := 2) rfl
theorem c_ixL3 {k : Res → Prop} {d e f g : Dt} {l : List Dt} : ixL (d :: e :: f :: g :: l) 3 k = k (.dat g) := ixL_n (n := 3) rfl
theorem c_len_lst {k : Res → Prop} {l : List Dt} : lenD (.lst l) k = k (.dat (.int l.length)) := by first | exact propext Iff.rfl | rfl
theorem c_len_tup {k : Res → Prop} {l : List Dt} : lenD (.tup l) k = k (.dat (.int l.length)) := by first | exact propext Iff.rfl | rfl
theorem c_len_frz {k : Res → Prop} {l : List Dt} : lenD (.frz l) k = k (.dat (.int l.length)) := by first | exact propext Iff.rfl | rfl
theorem c_len_str {k : Res → Prop} {s : List Nat} : lenD (.str s) k = (s.length ≤ 10000000 ∧ k (.dat (.int s.length))) := by first | exact propext Iff.rfl | rfl
theorem c_int1_int {k : Res → Prop} {i : Int} : int1D (.int i) k = k (.dat (.int i)) := by first | exact propext Iff.rfl | rfl
theorem c_int1_bl {k : Res → Prop} {b : Bool} : int1D (.bl b) k = k (.dat (.int (if b then 1 else 0))) := by first | exact propext Iff.rfl | rfl
theorem c_abs {k : Res → Prop} {i : Int} : absD (.int i) k = k (.dat (.int (if i < 0 then -i else i))) := by first | exact propext Iff.rfl | rfl
theorem c_min2 {k : Res → Prop} {i j : Int} : fMin2 [.int i, .int j] k = (True ∧ k (.dat (.int (min i j)))) := by first | exact propext Iff.rfl | rfl
theorem c_max2 {k : Res → Prop} {i j : Int} : fMax2 [.int i, .int j] k = (True ∧ k (.dat (.int (max i j)))) := by first | exact propext Iff.rfl | rfl
theorem c_len {k : Res → Prop} {x : Dt} : fLen [x] k = lenD x k := by first | exact propext Iff.rfl | rfl
theorem c_int1 {k : Res → Prop} {x : Dt} : fInt1 [x] k = int1D x k := by first | exact propext Iff.rfl | rfl
theorem c_fabs {k : Res → Prop} {x : Dt} : fAbs [x] k = absD x k := by first | exact propext Iff.rfl | rfl
theorem c_ftuple {k : Res → Prop} {x : Dt} : fTuple [x] k = tupleD x k := by first | exact propext Iff.rfl | rfl
theorem c_flist {k : Res → Prop} {x : Dt} : fList [x] k = listD x k := by first | exact propext Iff.rfl | rfl
theorem c_tuple_lst {k : Res → Prop} {l : List Dt} : tupleD (.lst l) k = k (.dat (.tup l)) := by first | exact propext Iff.rfl | rfl
theorem c_tuple_tup {k : Res → Prop} {l : List Dt} : tupleD (.tup l) k = k (.dat (.tup l)) := by first | exact propext Iff.rfl | rfl
theorem c_list_lst {k : Res → Prop} {l : List Dt} : listD (.lst l) k = k (.new (.lst l)) := by first | exact propext Iff.rfl | rfl
theorem c_list_tup {k : Res → Prop} {l : List Dt} : listD (.tup l) k = k (.new (.lst l)) := by first | exact propext Iff.rfl | rfl
theorem c_sl_lst {k : Res → Prop}{lo hi : Option Int} {l : List Dt} : fSl (.lst l) lo hi k = k (.new (.lst (cut l lo hi))) := by first | exact propext Iff.rfl | rfl
theorem c_sl_str {k : Res → Prop}{lo hi : Option Int} {s : List Nat} : fSl (.str s) lo hi k = (s.length ≤ 10000000 ∧ k (.dat (.str (cut s lo hi)))) := by first | exact propext Iff.rfl | rfl
theorem c_sl_tup {k : Res → Prop}{lo hi : Option Int} {l : List Dt} : fSl (.tup l) lo hi k = (¬ (HT.sIx l.length 0 lo = 0 ∧ HT.sIx l.length l.length hi = l.length) ∧ k (.dat (.tup (cut l lo hi)))) := by first | exact propext Iff.rfl | rfl
theorem c_part_int {Q : Option Int → CEnv → Prop} {c : CEnv} {i : Int} : partQ (.dat (.int i)) c Q = Q (some i) c := by first | exact propext Iff.rfl | rfl
theorem c_part {de : DE} {c : CEnv} {Q : Option Int → CEnv → Prop} : dPart de c Q = de c fun r c1 => partQ r c1 Q := dPart_ok
theorem c_mappend {k : Dt → List Dt → Prop} {l : List Dt} {d : Dt} : mAppend l [d] k = (l.length < 10000000 ∧ k .non (l ++ [d])) := by first | exact propext Iff.rfl | rfl
theorem c_mpop {k : Dt → List Dt → Prop} {l : List Dt} : mPop l [] k = popL l k := popL_ok
theorem c_obS_own {k : List Dt → Prop} {l : List Dt} : obS (.own (.lst l)) k = k l := by first | exact propext Iff.rfl | rfl
theorem c_setS_own {c : CEnv} {i : Nat} {o : Ob} {m : List Dt} : setS (.own o) c i m = c.set i (.own (.lst m)) := by first | exact propext Iff.rfl | rfl
theorem c_obS_arg {k : List Dt → Prop} {l : List Dt} : obS (.arg (.lst l)) k = k l := by first | exact propext Iff.rfl | rfl
theorem c_setS_arg {c : CEnv} {i : Nat} {o : Ob} {m : List Dt} : setS (.arg o) c i m = c.set i (.arg (.lst m)) := by first | exact propext Iff.rfl | rfl
theorem c_obL {k : List Dt → Prop} {c : CEnv} {i : Nat} : obL c i k = obS (gt c i) k := obS_ok
theorem c_setL {c : CEnv} {i : Nat} {m : List Dt} : setL c i m = setS (gt c i) c i m := setS_ok
theorem c_setIx {i : Nat} {dx de : DE} {E : CEnds} {c : CEnv} : dSetIx i dx de E c = de c fun r c1 => asD r c1 fun d c2 => obL c2 i fun _ => dx c2 fun rx c3 => ixQ rx c3 i d E.nx := dSetIx_ok
theorem c_ixQ {j : Int} {c : CEnv} {i : Nat} {d : Dt} {k : CEnv → Prop} : ixQ (.dat (.int j)) c i d k = obL c i fun l => setN (ixN l.length j) c i l d k := by first | exact propext Iff.rfl | rfl
theorem c_setN {n : Nat} {c : CEnv} {i : Nat} {l : List Dt} {d : Dt} {k : CEnv → Prop} : setN (some n) c i l d k = k (setL c i (l.set n d)) := by first | exact propext Iff.rfl | rfl
theorem c_ixN10  : ixN 1 0 = some 0 := by decide
theorem c_ixN20  : ixN 2 0 = some 0 := by decide
theorem c_ixN21  : ixN 2 1 = some 1 := by decide
theorem c_ixN30  : ixN 3 0 = some 0 := by decide
theorem c_ixN31  : ixN 3 1 = some 1 := by decide
theorem c_ixN32  : ixN 3 2 = some 2 := by decide
theorem c_mt {f : MtF} {de : DE} {da : DA} {c : CEnv} {Q : Res → CEnv → Prop} : dMt f de da c Q = de c fun r c1 => mtQ r f da c1 Q := dMt_ok
theorem c_mtQ {f : MtF} {da : DA} {c : CEnv} {Q : Res → CEnv → Prop} {s : List Nat} : mtQ (.dat (.str s)) f da c Q = da c fun rs c2 => vws rs c2 fun xs => f (.str s) xs fun z => Q z c2 := by first | exact propext Iff.rfl | rfl
theorem c_vws_nil {c : CEnv} {k : List Dt → Prop} : vws [] c k = k [] := by first | exact propext Iff.rfl | rfl
theorem c_vws_cons {c : CEnv} {k : List Dt → Prop} {r : Res} {rs : List Res} : vws (r :: rs) c k = on1 r c fun x => vws rs c fun xs => k (x :: xs) := by first | exact propext Iff.rfl | rfl
theorem c_rfind4 {k : Res → Prop} {s t : List Nat} {lo hi : Int} : fRfind4 (.str s) [.str t, .int lo, .int hi] k = one1 t fun ch => (s.length ≤ 10000000 ∧ 0 ≤ lo ∧ 0 ≤ hi) ∧ ∀ v, IsLast s ch lo.toNat (min hi.toNat s.length) v → k (.dat (.int v)) := by first | exact propext Iff.rfl | rfl
theorem c_rfind {k : Res → Prop} {s t : List Nat} : fRfind (.str s) [.str t] k = one1 t fun ch => s.length ≤ 10000000 ∧ ∀ v, IsLast s ch 0 s.length v → k (.dat (.int v)) := by first | exact propext Iff.rfl | rfl
theorem c_join_lst {k : Res → Prop} {s : List Nat} {l : List Dt} : fJoin (.str s) [.lst l] k = joinK s l k := by first | exact propext Iff.rfl | rfl
theorem c_join_tup {k : Res → Prop} {s : List Nat} {l : List Dt} : fJoin (.str s) [.tup l] k = joinK s l k := by first | exact propext Iff.rfl | rfl
theorem c_one1 {ch : Nat} {k : Nat → Prop} : one1 [ch] k = k ch := by first | exact propext Iff.rfl | rfl
theorem c_cints2 {a b : Int} {k : Int → Int → Prop} : cints2 [.int a, .int b] k = k a b := by first | exact propext Iff.rfl | rfl
theorem c_cints3 {a b d : Int} {k : Int → Int → Int → Prop} : cints3 [.int a, .int b, .int d] k = k a b d := by first | exact propext Iff.rfl | rfl
theorem c_own {i : Nat} {dv : DV} {c : CEnv} {Q : List AV → CEnv → Prop} : vOwn i dv c Q = (isOb (gt c i) ∧ dv c fun avs c3 => Q (.own i :: avs) c3) := vOwn_ok
theorem c_isOb_own {o : Ob} : isOb (.own o) = True := by first | exact propext Iff.rfl | rfl
theorem c_isOb_arg {o : Ob} : isOb (.arg o) = True := by first | exact propext Iff.rfl | rfl
theorem c_callQ {F : FS} {avs : List AV} {c : CEnv} {Q : Res → CEnv → Prop} : callQ F avs c Q = (nodupO avs = true ∧ lookQ avs c fun as => F as fun r as' => retC r (putA avs as' 0 c) Q) := callQ_ok
theorem c_look_nil {c : CEnv} {k : List AArg → Prop} : lookQ [] c k = k [] := by first | exact propext Iff.rfl | rfl
theorem c_look_dat {c : CEnv} {k : List AArg → Prop} {d : Dt} {r : List AV} : lookQ (.dat d :: r) c k = lookQ r c fun as => k (.dat d :: as) := lookQ_dat
theorem c_look_own {c : CEnv} {k : List AArg → Prop} {i : Nat} {r : List AV} : lookQ (.own i :: r) c k = lookS (gt c i) fun o => lookQ r c fun as => k (.ob o :: as) := lookQ_own
theorem c_lookS_own {k : Ob → Prop} {o : Ob} : lookS (.own o) k = k o := by first | exact propext Iff.rfl | rfl
theorem c_lookS_arg {k : Ob → Prop} {o : Ob} : lookS (.arg o) k = k o := by first | exact propext Iff.rfl | rfl
theorem c_nd_nil  : nodupO [] = true := by first | exact propext Iff.rfl | rfl
theorem c_nd_dat {d : Dt} {r : List AV} : nodupO (.dat d :: r) = nodupO r := by first | exact propext Iff.rfl | rfl
theorem c_nd_own {i : Nat} {r : List AV} : nodupO (.own i :: r) = (notIn i r && nodupO r) := nd_own_ok
theorem c_ni_nil {i : Nat} : notIn i [] = true := by first | exact propext Iff.rfl | rfl
theorem c_ni_dat {i : Nat} {d : Dt} {r : List AV} : notIn i (.dat d :: r) = notIn i r := by simp [notIn]
theorem c_ni_own {i j : Nat} {r : List AV} : notIn i (.own j :: r) = (i != j && notIn i r) := by first | exact propext Iff.rfl | rfl
theorem c_putA_nil {avs : List AV} {as : List AArg} {j : Nat} : putA avs as j [] = [] := by first | exact propext Iff.rfl | rfl
theorem c_putA_cons {avs : List AV} {as : List AArg} {j : Nat} {s : Slot} {c : CEnv} : putA avs as j (s :: c) = newSlot s (ownAt avs as j) :: putA avs as (j + 1) c := by first | exact propext Iff.rfl | rfl
theorem c_new_none {s : Slot} : newSlot s none = s := by first | exact propext Iff.rfl | rfl
theorem c_new_arg {o o' : Ob} : newSlot (.arg o) (some o') = .arg o' := by first | exact propext Iff.rfl | rfl
theorem c_new_own {o o' : Ob} : newSlot (.own o) (some o') = .own o' := by first | exact propext Iff.rfl | rfl
theorem c_oa_nil {j : Nat} {as : List AArg} : ownAt [] as j = none := by cases as <;> rfl
theorem c_oa_dat {j : Nat} {d : Dt} {a : AArg} {avs : List AV} {as : List AArg} : ownAt (.dat d :: avs) (a :: as) j = ownAt avs as j := by first | exact propext Iff.rfl | rfl
theorem c_oa_own {i j : Nat} {o : Ob} {avs : List AV} {as : List AArg} : ownAt (.own i :: avs) (.ob o :: as) j = if i = j then some o else ownAt avs as j := by first | exact propext Iff.rfl | rfl
theorem c_gT {n : Nat} {gs : DGs} {l : List Dt} {c : CEnv} {Q : CEnv → Prop} : gT n gs (.tup l) c Q = (l.length = n ∧ gs l c Q) := by first | exact propext Iff.rfl | rfl
theorem c_gsCons {g : DG} {gs : DGs} {d : Dt} {l : List Dt} {c : CEnv} {Q : CEnv → Prop} : gsCons g gs (d :: l) c Q = g d c fun c1 => gs l c1 Q := by first | exact propext Iff.rfl | rfl
theorem c_gsNil {c : CEnv} {Q : CEnv → Prop} : gsNil [] c Q = Q c := by simp [gsNil]
theorem c_gN {i : Nat} {d : Dt} {c : CEnv} {Q : CEnv → Prop} : gN i d c Q = Q (c.set i (.dat d)) := by first | exact propext Iff.rfl | rfl
theorem c_it_lst {k : List Dt → Prop} {l : List Dt} : itemsD (.lst l) k = k l := by first | exact propext Iff.rfl | rfl
theorem c_it_tup {k : List Dt → Prop} {l : List Dt} : itemsD (.tup l) k = k l := by first | exact propext Iff.rfl | rfl
theorem c_it_frz {k : List Dt → Prop} {l : List Dt} : itemsD (.frz l) k = k l := by first | exact propext Iff.rfl | rfl
theorem c_it_str {k : List Dt → Prop} {s : List Nat} : itemsD (.str s) k = k (chs s) := by first | exact propext Iff.rfl | rfl
theorem c_rng1 {da : DL} {c : CEnv} {Q : List Dt → CEnv → Prop} : dRng1 da c Q = da c fun ds c1 => rngQ ds fun n => (n ≤ 1000000000 ∧ -1000000000 ≤ n) ∧ Q (rngD 0 n.toNat) c1 := dRng1_ok
theorem c_rngQ {n : Int} {k : Int → Prop} : rngQ [.int n] k = k n := by first | exact propext Iff.rfl | rfl
theorem c_par {i j : Nat} {da : DL} {E : CEnds} {c : CEnv} : dPar i j da E c = da c fun ds c1 => two ds fun d e => E.nx ((c1.set i (.dat d)).set j (.dat e)) := dPar_ok
theorem c_two {d e : Dt} {k : Dt → Dt → Prop} : two [d, e] k = k d e := by first | exact propext Iff.rfl | rfl
theorem c_aug {i : Nat} {f : OpF} {de : DE} {E : CEnds} {c : CEnv} : dAug i f de E c = augS (gt c i) i f de E c := dAug_ok
theorem c_augS {i : Nat} {f : OpF} {de : DE} {E : CEnds} {c : CEnv} {x : Dt} : augS (.dat x) i f de E c = de c fun r c1 => on1 (hd r) c1 fun y => f x y fun z => put i z c1 E.nx := by first | exact propext Iff.rfl | rfl
theorem c_loop {di : DI} {g : DG} {body : DS} {E : CEnds} {c : CEnv} : dFor di g body E c = di c fun ds c1 => FI ds g body E c1 := dFor_ok
theorem c_lc {di : DI} {g : DG} {dt : DT} {de : DE} {vs : List Nat} {c : CEnv} {Q : Res → CEnv → Prop} : dLc di g dt de vs c Q = di c fun ds c1 => LCI ds g dt de vs c1 Q := dLc_ok
end Cl

namespace Cl
open PySem PySem.Spec PyProof.Rows L2
/-! ### enumerate(x), x a tuple or a text -/
/-- iter begun: enumerate of one argument -/
theorem enum_one {v : Value} {ob : Obj} {HH : Heap → Prop} (Bg : Begins v ob HH) :
    Meets (Builtin.«enumerate.__new__» ⟨[.type "enumerate", v], []⟩) (fun _ RR st => HH st.heap ∧
      RR (.ok (.ret (.ref (st.heap.push ob).objs.size))) { st with heap := (st.heap.push ob).push { cls := .type "enumerate", data := .fields #[.none, .bool false, .ref st.heap.objs.size, rawInt 0, .none, .none] } }) :=
  .of_wp fun prg wd AA RR st hh => by
    obtain ⟨hp, gg, dd, tt, oo⟩ := st
    obtain ⟨h1, hh⟩ := hh
    have hsub := sub_enumerate
    have qq : ∀ {A' : Around} {E : Value → Shared → Prop} {Q : Value → Shared → Prop}, Q (.ref hp.objs.size) ⟨hp.push ob, gg, dd, tt, oo⟩ → wpAny (model prg wd) A' (pyIter v) Q E ⟨hp, gg, dd, tt, oo⟩ :=
      fun q => Bg.iter prg wd _ _ ⟨hp, gg, dd, tt, oo⟩ _ h1 q
    wp_walk using qq
    refine wpAny_stack_any fun stk => wpAny_pure ?_
    split
    · rename_i c _ _ _ _ _
      cases (c == Value.type "enumerate")
      · wp_walk using qq
        exact ⟨_, rfl, hh⟩
      · wp_walk using qq
        exact ⟨_, rfl, hh⟩
    · wp_walk using qq
      exact ⟨_, rfl, hh⟩
theorem call_enum1 {prog : Program} {w : World} {A : Around} {E : Value → Shared → Prop} {s : Shared} {v : Value} {o : Obj} {H : Heap → Prop} {Q : Value → Shared → Prop} (B : Begins v o H) (h1 : H s.heap)
    (h : ∀ h', IsEnum h' (s.heap.objs.size + 1) s.heap.objs.size 0 .none → h'.get? s.heap.objs.size = some o → h'.objs.size = s.heap.objs.size + 2 →
      (∀ b o, s.heap.get? b = some o → h'.get? b = some o) → Q (.ref (s.heap.objs.size + 1)) { s with heap := h' }) :
    wpAny (model prog w) A (call (.type "enumerate") [v]) Q E s := by
  refine callType_new F.called_enumerate (by decide) (F.typeCall_enumerate_1 _) (F.newCall_enumerate_1 _) (fun oo => F.args_object_init_2 oo _) F.entry_enumerate_new (enum_one B) ⟨h1, ?_⟩
  have zz : (s.heap.push o).objs.size = s.heap.objs.size + 1 := Heap.size_push ..
  show _ ∧ _
  rw [zz]
  have ee : IsEnum ((s.heap.push o).push { cls := .type "enumerate", data := .fields #[.none, .bool false, .ref s.heap.objs.size, rawInt 0, .none, .none] }) (s.heap.objs.size + 1) s.heap.objs.size 0 .none := by
    have := Heap.get?_push_size (s.heap.push o) (o := { cls := .type "enumerate", data := .fields #[.none, .bool false, .ref s.heap.objs.size, rawInt 0, .none, .none] }) rfl
    rw [zz] at this
    exact this
  exact ⟨⟨_, ee, rfl⟩, h _ ee (Heap.get?_push_of_some _ (Heap.get?_push_size _ B.free)) (by rw [Heap.size_push, zz]) fun b o x => Heap.get?_push_of_some _ (Heap.get?_push_of_some _ x)⟩
/-- pairs of a number and an item -/
def Itnp (GG : Hp → Prop) (n : Nat) (Fx : Nat → V → Prop) : It :=
  ⟨fun i H => i < n ∧ GG H, fun i H v H' => ∃ T x, v = .ref T ∧ H T = none ∧ H' = upd H T (.tup [.int (i : Nat), x]) ∧ Fx i x, fun i H => n ≤ i ∧ GG H⟩
/-- one turn of an enumerate over anything that is drawn -/
theorem enum_turn {X : Cx} {elts : List Expr} {kk : Nat} {tpos : Pos} {pins : List (Addr × Obj)} {s : Shared} {σ : L2.St} {H : Hp} {E : Value → Shared → Prop} {e it : Addr} {fp : List Addr} {n i : Nat} {Pv : Nat → Value → Prop} {St : Nat → Heap → Prop} {old : Value} {Fx : Nat → V → Prop} {GG : Hp → Prop}
    (D : Draws X.prog X.w X.A.in1 it fp n Pv St) (I : Inv X pins σ H s) (hf : ∀ b ∈ [e, it], FpOk X pins H b) (he : IsEnum s.heap e it (i : Nat) old) (st : St i s.heap) (hlt : i < n) (hne : e ≠ it) (hef : e ∉ fp)
    (hv : ∀ u, Pv i u → ∃ x, RelV x u ∧ Fx i x) (hit : ∃ o, s.heap.get? it = some o) {tn : Nat → Heap → Prop}
    (htn : ∀ h1 h2 x T, IsEnumOut h1 e it ((i : Int) + 1) x T → St (i + 1) h1 → IsEnum h2 e it ((i : Int) + 1) x → Heap.SameBut e h1 h2 → tn (i + 1) h2) :
    wpAny (model X.prog X.w) X.A (pyNext (.ref e)) (fun r s1 => ∃ u, r = some u ∧
      wpAny (model X.prog X.w) X.A (letOwnedTupleGo (.Tuple elts kk tpos) (.ref e) u) (fun _ s2 => ∃ x H', Inv X pins σ H' s2 ∧ RelV x u ∧ (Itnp GG n Fx).yld i H x H' ∧ tn (i + 1) s2.heap ∧ ∀ b ∈ [e, it], H' b = none) E s1) E s := by
  have hel : e < s.heap.objs.size := Heap.lt_size he
  obtain ⟨oi, hoi⟩ := hit
  have hil : it < s.heap.objs.size := Heap.lt_size hoi
  refine wpAny_pyNext_enum_itemD D he st hlt hne hef fun u h1 tk hu ho st1 hT hsz hk => ?_
  obtain ⟨x, ru, fx⟩ := hv u hu
  refine ⟨_, rfl, wpAny_letOwnedTupleGo_enum (s := { s with heap := h1, toks := tk + 1 }) ho fun h2 he2 sb => ?_⟩
  have hT2 : h2.get? s.heap.objs.size = some { cls := .type "tuple", data := .seq #[.int i tk, u] } := (sb.2 _ (Nat.ne_of_gt hel)).trans hT
  have nw : ObjOk X.prog X.w (upd H s.heap.objs.size (.tup [.int (i : Nat), x])) h2 s.heap.objs.size (.tup [.int (i : Nat), x]) :=
    ⟨by show 2 ≤ sizeLine; decide, [.int i tk, u], .cons ⟨_, rfl⟩ (.cons ru .nil), ⟨_, hT2, rfl, _, rfl⟩⟩
  have I1 : Inv X pins σ (upd H s.heap.objs.size (.tup [.int (i : Nat), x])) { s with heap := h2, toks := tk + 1 } :=
    I.turnedNew (ch := [e, it]) (fun b ob hb q => (sb.2 b (fun z => hb (by simp [z]))).trans (hk b ob (fun z => hb (by simp [z])) (fun z => hb (by simp [z])) q)) hf (Nat.le_refl _) nw
  refine ⟨.ref s.heap.objs.size, _, I1, rfl, ⟨_, x, rfl, I.hok.fresh (Nat.le_refl _), rfl, fx⟩, htn _ _ _ _ ho st1 he2 sb, fun b hb => ?_⟩
  have hb2 : b < s.heap.objs.size := by
    rcases (by simpa using hb : b = e ∨ b = it) with z | z
    · rw [z]; exact hel
    · rw [z]; exact hil
  rw [upd_ne (Nat.ne_of_lt hb2)]
  exact (hf b hb).1
def FxS (z : Str) (i : Nat) (x : V) : Prop := ∃ c, z.cps[i]? = some c ∧ x = .str ⟨#[c]⟩
theorem turn_enumS {P : Program} {w : World} {K : PySem.W.Frag} {elts : List Expr} {kk : Nat} {tpos : Pos} (z : Str) (t : Tok) (e it : Addr) :
    Turn P w K (.Tuple elts kk tpos) (Itnp (fun _ => True) z.cps.size (FxS z)) [e, it] e (fun i h => (∃ old, IsEnum h e it ((i : Nat) : Int) old) ∧ h.IsStrIter it (strIterType z) z t i ∧ e ≠ it ∧ i ≤ z.cps.size) where
  mem := List.mem_cons_self ..
  obj := fun i h st b hb => by
    obtain ⟨⟨old, he⟩, ⟨o, ho, hc, hd⟩, _⟩ := st
    rcases (by simpa using hb : b = e ∨ b = it) with y | y
    · rw [y]; exact ⟨_, he, fun v q => nomatch q⟩
    · rw [y]; exact ⟨o, ho, fun v q => by rw [hd] at q; cases q⟩
  keep := fun i h h' st k => by
    obtain ⟨⟨old, he⟩, ⟨o, ho, r⟩, hne⟩ := st
    exact ⟨⟨old, k e (by simp) _ he⟩, ⟨o, k it (by simp) _ ho, r⟩, hne⟩
  item := by
    intro X hP hw hK hc i pins s σ H E I hf st hg
    subst hP hw hK
    obtain ⟨⟨old, he⟩, hit, hne, _⟩ := st
    refine enum_turn (Fx := FxS z) (GG := fun _ => True) (tn := fun i h => (∃ old, IsEnum h e it ((i : Nat) : Int) old) ∧ h.IsStrIter it (strIterType z) z t i ∧ e ≠ it ∧ i ≤ z.cps.size) (Draws.text (A := X.A.in1) (I.ok.hd hc) it z t) I hf he hit hg.1 hne (by simpa using hne) (fun u hu => ?_) ⟨hit.choose, hit.choose_spec.1⟩ fun h1 h2 x T _ a b c => ⟨⟨x, ?_⟩, ?_, hne, hg.1⟩
    · obtain ⟨c, v, h1, rfl⟩ := hu
      exact ⟨.str ⟨#[c]⟩, ⟨_, rfl⟩, c, h1, rfl⟩
    · have e1 : ((i + 1 : Nat) : Int) = (i : Int) + 1 := by omega
      rw [e1]
      exact b
    · obtain ⟨o, ho, r⟩ := a
      exact ⟨o, (c.2 it (Ne.symm hne)).trans ho, r⟩
  done := by
    intro X hP hw hK hc i pins s σ H E I hf st hg
    subst hP hw hK
    obtain ⟨⟨old, he⟩, hit, hne, hle⟩ := st
    obtain rfl : i = z.cps.size := Nat.le_antisymm hle hg.1
    obtain ⟨f0, f1, f2, f3, f4, f5⟩ := hf it (by simp)
    exact wpAny_pyNext_enum_endD (Draws.text (A := X.A.in1) (I.ok.hd hc) it z t) he hit fun h' eb => ⟨rfl, I.turned (t' := s.toks) (fun b o hb q => eb b o hb q) f0 f1 f3 f4 f5⟩
  self := fun A i s Q E st h => by
    obtain ⟨⟨_, he⟩, _⟩ := st
    exact wpAny_pyIter_enum he h
def FxT (xs : List V) (i : Nat) (x : V) : Prop := xs[i]? = some x
theorem turn_enumT {P : Program} {w : World} {K : PySem.W.Frag} {elts : List Expr} {kk : Nat} {tpos : Pos} (a : Addr) (xs : List V) (e it : Addr) :
    Turn P w K (.Tuple elts kk tpos) (Itnp (fun H => SqT K H a xs) xs.length (FxT xs)) [e, it] e (fun i h => (∃ old, IsEnum h e it ((i : Nat) : Int) old) ∧ h.IsTupleIter it a i ∧ e ≠ it ∧ a ≠ it ∧ a ≠ e ∧ i ≤ xs.length) where
  mem := List.mem_cons_self ..
  obj := fun i h st b hb => by
    obtain ⟨⟨old, he⟩, ⟨o, ho, hc, hd⟩, _⟩ := st
    rcases (by simpa using hb : b = e ∨ b = it) with y | y
    · rw [y]; exact ⟨_, he, fun v q => nomatch q⟩
    · rw [y]; exact ⟨o, ho, fun v q => by rw [hd] at q; cases q⟩
  keep := fun i h h' st k => by
    obtain ⟨⟨old, he⟩, hi, hne⟩ := st
    exact ⟨⟨old, k e (by simp) _ he⟩, hi.at fun o q => k it (by simp) o q, hne⟩
  item := by
    intro X hP hw hK hc i pins s σ H E I hf st hg
    subst hP hw hK
    obtain ⟨⟨old, he⟩, hit, hne, hai, hae, _⟩ := st
    obtain ⟨its, rv, p, hz⟩ := I.tuple hg.2
    have hl := rv.length
    have D := Draws.tuple (prog := X.prog) (w := X.w) (A := X.A.in1) (I.ok.hd hc) it a hai its.toArray
    have hlt : i < its.toArray.size := by
      have := hg.1
      simp only [List.size_toArray]
      omega
    have hT : s.heap.IsTuple a its.toArray := p
    refine enum_turn (Fx := FxT xs) (GG := fun H => SqT X.K H a xs) (n := its.toArray.size) (tn := fun i h => (∃ old, IsEnum h e it ((i : Nat) : Int) old) ∧ h.IsTupleIter it a i ∧ e ≠ it ∧ a ≠ it ∧ a ≠ e ∧ i ≤ xs.length) D I hf he ⟨hit, hT⟩ hlt hne (by simp; exact ⟨hne, fun z => hae z.symm⟩) (fun u hu => ?_) ⟨hit.choose, hit.choose_spec.1⟩ fun h1 h2 x T _ b1 b c => ⟨⟨x, ?_⟩, ?_, hne, hai, hae, hg.1⟩
    · have hu' : its[i]? = some u := by simpa using hu
      have hil : i < xs.length := hg.1
      obtain ⟨u2, h1, h2⟩ := rv.get (List.getElem?_eq_getElem hil)
      rw [hu'] at h1
      cases h1
      exact ⟨_, h2, List.getElem?_eq_getElem hil⟩
    · have e1 : ((i + 1 : Nat) : Int) = (i : Int) + 1 := by omega
      rw [e1]
      exact b
    · exact b1.1.at fun o q => (c.2 it (Ne.symm hne)).trans q
  done := by
    intro X hP hw hK hc i pins s σ H E I hf st hg
    subst hP hw hK
    obtain ⟨⟨old, he⟩, hit, hne, hai, hae, hle⟩ := st
    obtain ⟨its, rv, p, hz⟩ := I.tuple hg.2
    have hl := rv.length
    have hi : i = its.toArray.size := by
      have := hg.1
      simp only [List.size_toArray]
      omega
    subst hi
    have D := Draws.tuple (prog := X.prog) (w := X.w) (A := X.A.in1) (I.ok.hd hc) it a hai its.toArray
    obtain ⟨f0, f1, f2, f3, f4, f5⟩ := hf it (by simp)
    exact wpAny_pyNext_enum_endD D he ⟨hit, p⟩ fun h' eb => ⟨rfl, I.turned (t' := s.toks) (fun b o hb q => eb b o hb q) f0 f1 f3 f4 f5⟩
  self := fun A i s Q E st h => by
    obtain ⟨⟨_, he⟩, _⟩ := st
    exact wpAny_pyIter_enum he h
/-- enumerate(x), x a list, a tuple or a text -/
def iEnumA (K : PySem.W.Frag) (ta : TA) : TI := fun σ H R => ta σ H fun vs H1 => (∃ a xs, vs = [.ref a] ∧ SqL K H1 a xs ∧ R (Ite K a) H1) ∨ (∃ a xs, vs = [.ref a] ∧ SqT K H1 a xs ∧ R (Itnp (fun H => SqT K H a xs) xs.length (FxT xs)) H1) ∨ (∃ z, vs = [.str z] ∧ R (Itnp (fun _ => True) z.cps.size (FxS z)) H1)
theorem pi_enumA {X : Cx} {e : Expr} {ta : TA} {p pos tpos : Pos} {elts : List Expr} {kk : Nat} (hg : Gl X "enumerate") (hm : X.mg "enumerate" = none) (ha : PA X [e] ta) (hs : starEach [e] X.env = [(false, eval e X.env)] := by rfl) :
    PI X (.Tuple elts kk tpos) (.Call (.Name "enumerate" p) [e] [] pos) (iEnumA X.K ta) := by
  refine ⟨fun pins s σ H R I h => ?_⟩
  refine Call_ (ld_blt I hg hm boot_enumerate (PyProof.Rows.callWith_type1 (thn (ha.run pos pins s σ H _ I h) fun us s1 ⟨vs, H1, I1, r1, q1⟩ => ?_) hs rfl))
  have fp2 : ∀ {h' : Heap} (hk : ∀ b o, s1.heap.get? b = some o → h'.get? b = some o), Inv X pins σ H1 { s1 with heap := h' } ∧ ∀ b ∈ [s1.heap.objs.size + 1, s1.heap.objs.size], FpOk X pins H1 b := fun hk => by
    refine ⟨I1.kept (t' := s1.toks) hk, fun b hb => ?_⟩
    have hle : s1.heap.objs.size ≤ b := by
      rcases (by simpa using hb : b = s1.heap.objs.size + 1 ∨ b = s1.heap.objs.size) with z | z
      · rw [z]; exact Nat.le_add_right _ _
      · rw [z]; exact Nat.le_refl _
    exact I1.fpOk hle (I1.hok.fresh hle)
  rcases q1 with ⟨a, xs, ex, hq, q⟩ | ⟨a, xs, ex, hq, q⟩ | ⟨z, ex, q⟩
  · subst ex
    cases r1 with
    | cons r rr =>
      cases rr
      cases r
      obtain ⟨its, rv, p', hz⟩ := I1.list hq
      refine call_enumerate_list p'.isList fun h' he hit hsz hk => wpAny_pyIter_enum he ?_
      exact ⟨_, _, _, _, H1, rfl, (fp2 hk).1, turn_enum a (s1.heap.objs.size + 1) s1.heap.objs.size, ⟨⟨.none, he⟩, hit, Nat.succ_ne_self _⟩, (fp2 hk).2, q⟩
  · subst ex
    cases r1 with
    | cons r rr =>
      cases rr
      cases r
      obtain ⟨its, rv, p', hz⟩ := I1.tuple hq
      have hal : a < s1.heap.objs.size := by
        obtain ⟨o, ho, _⟩ := id p'
        exact Heap.lt_size ho
      refine call_enum1 (begins_tuple a its.toArray) p' fun h' he hit hsz hk => wpAny_pyIter_enum he ?_
      exact ⟨_, _, _, _, H1, rfl, (fp2 hk).1, turn_enumT a xs (s1.heap.objs.size + 1) s1.heap.objs.size, ⟨⟨.none, he⟩, ⟨_, hit, rfl, rfl⟩, Nat.succ_ne_self _, Nat.ne_of_lt hal, Nat.ne_of_lt (Nat.lt_succ_of_lt hal), Nat.zero_le _⟩, (fp2 hk).2, q⟩
  · subst ex
    cases r1 with
    | cons r rr =>
      cases rr
      obtain ⟨t, rfl⟩ := r
      refine call_enumerate_str fun h' he hit hsz hk => wpAny_pyIter_enum he ?_
      exact ⟨_, _, _, _, H1, rfl, (fp2 hk).1, turn_enumS z t (s1.heap.objs.size + 1) s1.heap.objs.size, ⟨⟨.none, he⟩, hit, Nat.succ_ne_self _, Nat.zero_le _⟩, (fp2 hk).2, q⟩
end Cl

namespace Cl
open PySem PySem.Spec PyProof.Rows L2 RT
variable {X : Cx} {PL : PoolP}
/-! ### what is walked: enumerate, reversed -/
def enumD (i : Nat) : List Dt → List Dt
  | [] => []
  | d :: r => .tup [.int i, d] :: enumD (i + 1) r
theorem enumD_len : ∀ (l : List Dt) (i : Nat), (enumD i l).length = l.length
  | [], _ => rfl
  | _ :: r, i => by
    show (enumD (i + 1) r).length + 1 = r.length + 1
    rw [enumD_len r]
theorem enumD_get : ∀ (l : List Dt) (i k : Nat), (enumD i l)[k]? = (l[k]?).map fun d => .tup [.int ((i + k : Nat) : Int), d]
  | [], _, _ => rfl
  | d :: r, i, 0 => rfl
  | d :: r, i, k + 1 => by
    show (enumD (i + 1) r)[k]? = (r[k]?).map _
    rw [enumD_get r, show i + 1 + k = i + (k + 1) by omega]
theorem enum_yld {K : PySem.W.Frag} {B : Hp} {l : List Dt} {i : Nat} {H H' : Hp} {x : V} {T : Addr} {y : V} {d : Dt} (hd : l[i]? = some d) (r : Rep K B d y) (hx : x = .ref T) (hT : H T = none) (hH : H' = upd H T (.tup [.int (i : Nat), y])) {G : Ent} {B1 : Hp} {c : CEnv} {σ : L2.St} (e1 : Same B B1) (hc : Conc K PL G B1 c σ H) :
    ∃ B2 d, (enumD 0 l)[i]? = some d ∧ Same B1 B2 ∧ Conc K PL G B2 c σ H' ∧ Rep K B2 d x := by
  subst hx hH
  have r1 : RepL K B1 [.int ((i : Nat) : Int), d] [.int (i : Nat), y] := .cons (by unfold Rep; rfl) (.one (r.mono e1))
  obtain ⟨e2, cr⟩ := conc_tup (PL := PL) hc hT r1
  refine ⟨_, _, ?_, e2, cr.1, cr.2⟩
  rw [enumD_get, hd]
  simp
theorem items_enumL {K : PySem.W.Frag} {B : Hp} {a : Addr} {xs : List V} {ds : List Dt} (h : SqL K B a xs) (r : RepL K B ds xs) : ItemsOf K PL B (Ite K a) (enumD 0 ds) where
  go := fun i H e hi => by
    rw [enumD_len] at hi
    exact ⟨xs, xs[i]'(by rw [r.length]; exact hi), e.seq h, by simp⟩
  stop := fun H e => ⟨xs, e.seq h, by rw [r.length, enumD_len]; exact Nat.le_refl _⟩
  yld := fun i H x H' hi y G B1 c σ e1 hc => by
    obtain ⟨T, v, h1, h2, h3, h4⟩ := y
    obtain ⟨d, e2, e3⟩ := r.getV (h4 xs ((e1.trans hc.same).seq h))
    exact enum_yld e2 e3 h1 h2 h3 e1 hc
theorem items_enumT {K : PySem.W.Frag} {B : Hp} {a : Addr} {xs : List V} {ds : List Dt} (h : SqT K B a xs) (r : RepL K B ds xs) : ItemsOf K PL B (Itnp (fun H => SqT K H a xs) xs.length (FxT xs)) (enumD 0 ds) where
  go := fun i H e hi => by
    rw [enumD_len] at hi
    exact ⟨by rw [r.length]; exact hi, sameT e h⟩
  stop := fun H e => ⟨by rw [r.length, enumD_len]; exact Nat.le_refl _, sameT e h⟩
  yld := fun i H x H' hi y G B1 c σ e1 hc => by
    obtain ⟨T, v, h1, h2, h3, h4⟩ := y
    obtain ⟨d, e2, e3⟩ := r.getV h4
    exact enum_yld e2 e3 h1 h2 h3 e1 hc
theorem items_enumS {K : PySem.W.Frag} {B : Hp} {s : List Nat} : ItemsOf K PL B (Itnp (fun _ => True) (S s).cps.size (FxS (S s))) (enumD 0 (chs s)) where
  go := fun i H e hi => by
    rw [enumD_len] at hi
    exact ⟨by simpa [S, chs] using hi, trivial⟩
  stop := fun H e => ⟨by rw [enumD_len]; simp [S, chs], trivial⟩
  yld := fun i H x H' hi y G B1 c σ e1 hc => by
    obtain ⟨T, v, h1, h2, h3, ch, h4, h5⟩ := y
    have h6 : s[i]? = some ch := by simpa [S] using h4
    have h7 : (chs s)[i]? = some (.str [ch]) := by
      unfold chs
      rw [List.getElem?_map, h6]
      rfl
    exact enum_yld (B := B) h7 (by unfold Rep; exact h5) h1 h2 h3 e1 hc
def dEnum (da : DL) : DI := fun c Q => da c fun ds c1 => oneD ds fun d => itemsD d fun l => Q (enumD 0 l) c1
theorem qi_enum {e : Expr} {da : DL} {p pos tpos : Pos} {elts : List Expr} {kk : Nat} (ha : QL X PL [e] da) (hg : Gl X "enumerate") (hm : X.mg "enumerate" = none) (hs : starEach [e] X.env = [(false, eval e X.env)] := by rfl) :
    QI X PL (.Tuple elts kk tpos) (.Call (.Name "enumerate" p) [e] [] pos) (dEnum da) := by
  refine qi_of (pi_enumA hg hm ha.pa hs) fun G B c σ H Qd R hc hd2 hq => ?_
  refine ⟨G, B, c, _, hc, hd2, fun ds c1 B1 H1 vs g1 e1 hc1 rl => ?_⟩
  obtain ⟨d, rfl, g1⟩ := oneD_ok g1
  obtain ⟨v, rfl, rv⟩ := repL1 rl
  cases d with
  | lst l =>
    unfold Rep at rv
    obtain ⟨a, xs, rfl, q1, q2⟩ := rv
    exact .inl ⟨a, xs, rfl, .of (hc1.same _ _ q1), hq _ _ B1 _ _ g1 e1 hc1 (items_enumL (.of q1) q2)⟩
  | tup l =>
    unfold Rep at rv
    obtain ⟨a, xs, rfl, q1, q2⟩ := rv
    exact .inr (.inl ⟨a, xs, rfl, sameT hc1.same q1, hq _ _ B1 _ _ g1 e1 hc1 (items_enumT q1 q2)⟩)
  | frz l =>
    unfold Rep at rv
    obtain ⟨a, xs, rfl, q1, q2⟩ := rv
    exact .inl ⟨a, xs, rfl, hc1.same.seq q1, hq _ _ B1 _ _ g1 e1 hc1 (items_enumL q1 q2)⟩
  | str s =>
    unfold Rep at rv
    subst rv
    exact .inr (.inr ⟨S s, rfl, hq _ _ B1 _ _ g1 e1 hc1 items_enumS⟩)
  | _ => exact g1.elim
theorem items_revL {K : PySem.W.Frag} {B : Hp} {a : Addr} {xs : List V} {ds : List Dt} (h : SqL K B a xs) (r : RepL K B ds xs) : ItemsOf K PL B (Itv K a xs.length) ds.reverse where
  go := fun i H e hi => by
    rw [List.length_reverse] at hi
    have hl := r.length
    exact ⟨by omega, xs, xs[xs.length - 1 - i]'(by omega), e.seq h, by simp⟩
  stop := fun H e => by
    show xs.length ≤ ds.reverse.length
    rw [List.length_reverse, r.length]
    exact Nat.le_refl _
  yld := fun i H x H' hi y G B1 c σ e1 hc => by
    obtain ⟨rfl, y⟩ := y
    rw [List.length_reverse] at hi
    have hl := r.length
    obtain ⟨d, e2, e3⟩ := r.getV (y xs ((e1.trans hc.same).seq h))
    exact ⟨B1, d, by rw [List.getElem?_reverse hi, ← hl]; exact e2, Same.refl _, hc, e3.mono e1⟩
theorem items_revT {K : PySem.W.Frag} {B : Hp} {a : Addr} {xs : List V} {ds : List Dt} (h : SqT K B a xs) (r : RepL K B ds xs) : ItemsOf K PL B (ItvT K a xs.length) ds.reverse where
  go := fun i H e hi => by
    rw [List.length_reverse] at hi
    have hl := r.length
    exact ⟨by omega, xs, xs[xs.length - 1 - i]'(by omega), sameT e h, by simp⟩
  stop := fun H e => by
    show xs.length ≤ ds.reverse.length
    rw [List.length_reverse, r.length]
    exact Nat.le_refl _
  yld := fun i H x H' hi y G B1 c σ e1 hc => by
    obtain ⟨rfl, y⟩ := y
    rw [List.length_reverse] at hi
    have hl := r.length
    obtain ⟨d, e2, e3⟩ := r.getV (y xs (sameT (e1.trans hc.same) h))
    exact ⟨B1, d, by rw [List.getElem?_reverse hi, ← hl]; exact e2, Same.refl _, hc, e3.mono e1⟩
def revK (d : Dt) (k : List Dt → Prop) : Prop := match d with
  | .lst l => k l.reverse
  | .tup l => k l.reverse
  | _ => False
def dRev (de : DE) : DI := fun c Q => de c fun r c1 => asD r c1 fun d c2 => revK d fun l => Q l c2
theorem qi_rev {tg e : Expr} {de : DE} {p pos : Pos} (he : QE X PL e de) (hg : Gl X "reversed") (hm : X.mg "reversed" = none) (hs : starEach [e] X.env = (false, eval e X.env) :: starEach [] X.env := by rfl) : QI X PL tg (.Call (.Name "reversed" p) [e] [] pos) (dRev de) := by
  refine qi_of (pi_revA hg hm he.pe hs) fun G B c σ H Qd R hc hd2 hq => ?_
  refine ⟨G, B, c, _, hc, hd2, fun r c1 B1 H1 v g1 e1 cr => ?_⟩
  obtain ⟨B2, c2, d, e2, hc2, rd, g2⟩ := asD_ok cr g1
  cases d with
  | lst l =>
    unfold Rep at rd
    obtain ⟨a, xs, rfl, q1, q2⟩ := rd
    exact ⟨a, xs, rfl, .inl ⟨.of (hc2.same _ _ q1), hq _ _ B2 _ _ g2 (e1.trans e2) hc2 (items_revL (.of q1) q2)⟩⟩
  | tup l =>
    unfold Rep at rd
    obtain ⟨a, xs, rfl, q1, q2⟩ := rd
    exact ⟨a, xs, rfl, .inr ⟨sameT hc2.same q1, hq _ _ B2 _ _ g2 (e1.trans e2) hc2 (items_revT q1 q2)⟩⟩
  | _ => exact g2.elim
/-! ### a statement that is never come to -/
def dBad : DS := fun _ _ => False
theorem qs_bad {st : Stmt} : QS X PL st dBad := ⟨⟨fun _ _ _ _ _ _ ⟨_, _, _, _, _, h, _⟩ => h.elim⟩⟩
/-! ### more of lists -/
theorem upd_self {H : Hp} {a : Addr} {o : HO} (h : H a = some o) : upd H a o = H := by
  funext b
  by_cases e : b = a
  · rw [e, upd_same, h]
  · rw [upd_ne e]
def mExtend : MutF := fun l ds k => oneD ds fun d => match d with
  | .lst m => l.length + m.length ≤ 10000000 ∧ k .non (l ++ m)
  | _ => False
theorem mut_extend {K : PySem.W.Frag} : MutD K rExtend mExtend := by
  intro B H a l xs ds vs k Q h1 h2 h3 h4 h5 hq
  obtain ⟨d, rfl, h6⟩ := oneD_ok h4
  cases d with
  | lst m =>
    obtain ⟨v, rfl, h8⟩ := repL1 h3
    unfold Rep at h8
    obtain ⟨b, zs, rfl, g1, g2⟩ := h8
    exact ⟨a, b, xs, zs, rfl, rfl, h1, h5 _ _ g1, by rw [h2.length, g2.length]; exact sz7 h6.1, hq _ _ _ _ h6.2 (h2.app g2) (by unfold Rep; rfl)⟩
  | _ => exact h6.elim
def mReverse : MutF := fun l ds k => match ds with
  | [] => k .non l.reverse
  | _ => False
theorem mut_reverse {K : PySem.W.Frag} : MutD K rReverse mReverse := by
  intro B H a l xs ds vs k Q h1 h2 h3 h4 h5 hq
  cases ds with
  | cons d r => exact h4.elim
  | nil =>
    unfold RepL at h3
    subst h3
    exact ⟨a, xs, rfl, rfl, h1, hq _ _ _ _ h4 h2.rev (by unfold Rep; rfl)⟩
/-- xs.pop(n), n a place from 0 -/
def mPopAt : MutF := fun l ds k => oneD ds fun d => match d with
  | .int i => 0 ≤ i ∧ i < 1000000000 ∧ ∃ e, l[i.toNat]? = some e ∧ k e (l.eraseIdx i.toNat)
  | _ => False
theorem mut_popAt {K : PySem.W.Frag} : MutD K rPopAt mPopAt := by
  intro B H a l xs ds vs k Q h1 h2 h3 h4 h5 hq
  obtain ⟨d, rfl, h6⟩ := oneD_ok h4
  cases d with
  | int i =>
    obtain ⟨v, rfl, h8⟩ := repL1 h3
    unfold Rep at h8
    subst h8
    obtain ⟨g1, g2, e, g3, g4⟩ := h6
    obtain ⟨v, e1, e2⟩ := h2.get g3
    have hl := (List.getElem?_eq_some_iff.mp e1).1
    refine ⟨a, xs, i, i.toNat, v, rfl, rfl, h1, by omega, by omega, ?_, e1, hq _ _ _ _ g4 (h2.erase _) e2⟩
    unfold seqIndex?
    simp only [show ¬ i < 0 by omega, if_false]
    rw [if_pos (by simp; omega)]
  | _ => exact h6.elim
/-- xs.index(d), ints -/
def mIndexI : MutF := fun l ds k => oneD ds fun d => match d with
  | .int i => ∃ (ns : List Int) (j : Nat), l = ns.map .int ∧ ns[j]? = some i ∧ (∀ m, m < j → ns[m]? ≠ some i) ∧ k (.int j) l
  | _ => False
theorem ints_rep {K : PySem.W.Frag} {B : Hp} : ∀ {ns : List Int} {xs : List V}, RepL K B (ns.map Dt.int) xs → xs = ns.map V.int
  | [], xs, h => by
    unfold RepL at h
    exact h
  | n :: r, xs, h => by
    rw [List.map_cons] at h
    unfold RepL at h
    obtain ⟨x, ys, rfl, h1, h2⟩ := h
    unfold Rep at h1
    rw [h1, ints_rep h2]
    rfl
theorem mut_indexI {K : PySem.W.Frag} : MutD K (rIndex K) mIndexI := by
  intro B H a l xs ds vs k Q h1 h2 h3 h4 h5 hq
  obtain ⟨d, rfl, h6⟩ := oneD_ok h4
  cases d with
  | int i =>
    obtain ⟨v, rfl, h8⟩ := repL1 h3
    unfold Rep at h8
    subst h8
    obtain ⟨ns, j, rfl, g1, g2, g3⟩ := h6
    have e := ints_rep h2
    subst e
    have g4 := hq _ _ (.int (j : Int)) _ g3 h2 (by unfold Rep; rfl)
    rw [upd_self h1] at g4
    refine ⟨a, _, .int i, j, .int i, rfl, rfl, .of h1, rfl, ?_, by rw [List.getElem?_map, g1]; rfl, by simp [eqV], fun m z hm hz => ?_, g4⟩
    · rw [List.all_eq_true]
      intro x hx
      obtain ⟨n, _, rfl⟩ := List.mem_map.mp hx
      rfl
    · rw [List.getElem?_map] at hz
      cases q : ns[m]? with
      | none =>
        rw [q] at hz
        cases hz
      | some n =>
        rw [q] at hz
        cases hz
        have : n ≠ i := fun e => g2 m hm (by rw [q, e])
        simp [eqV, this]
  | _ => exact h6.elim
/-! ### a loop over a list that was handed in and is not changed -/
def FIA (s : Slot) (i : Nat) (g : DG) (body : DS) (E : CEnds) (c : CEnv) : Prop := match s with
  | .arg (.lst l) => ∃ I : Nat → CEnv → Prop, I 0 c ∧ (∀ k c', I k c' → gt c' i = .arg (.lst l)) ∧
    (∀ k d c', l[k]? = some d → I k c' → g d c' fun c2 => body { nx := I (k + 1), rt := E.rt, bk := E.nx, ct := I (k + 1), ra := E.ra } c2) ∧ ∀ c', I l.length c' → E.nx c'
  | _ => False
def dForA (i : Nat) (g : DG) (body : DS) : DS := fun E c => FIA (gt c i) i g body E c
theorem Conc.getArg {K : PySem.W.Frag} {G : Ent} {B : Hp} {c : CEnv} {σ : L2.St} {H : Hp} {i : Nat} {l : List Dt} (h : Conc K PL G B c σ H) (hs : gt c i = .arg (.lst l)) : ∃ a xs, G.ow i = some a ∧ σ[i]? = some (some (.ref a)) ∧ H a = some (.lst xs) ∧ RepL K B l xs := by
  obtain ⟨F, C⟩ := h
  have hs := gt_get hs (by simp)
  obtain ⟨o, h1, h2⟩ := C.slots i _ hs
  obtain ⟨a, h3, h4, ⟨_, xs, h5, h6⟩, _⟩ := h2
  exact ⟨a, xs, h4, by rw [h1, h3], h5, h6⟩
theorem qs_forA {i : Nat} {tg : Expr} {x : Str} {xpos : Pos} {body : List Stmt} {g : DG} {db : DS} {pos : Pos} (ho : PE X (.Name x xpos) (tVar i)) (hg : QG X PL tg g) (hb : QSs X PL body db) (hp : PassesOwn (model X.prog X.w) X.A X.env X.xe) (hc : X.calm = true)
    (hs : ∀ z, foldedSetIterable (.Name x xpos) X.env z = pure z := by intro _; rfl) : QS X PL (.For tg (.Name x xpos) body [] pos) (dForA i g db) := by
  refine qs_of (ps_for hp hc (pi_list ho) hg.pg hb.pss hs) fun G B c σ H E D h1 h2 h3 h4 h5 h6 => ?_
  have h2 : FIA (gt c i) i g db E c := h2
  cases q : gt c i with
  | arg o =>
    cases o with
    | lst l =>
      rw [q] at h2
      obtain ⟨I, i0, ia, it, ie⟩ := h2
      obtain ⟨a, xs, k1, k2, k3, k4⟩ := h1.getArg q
      refine ⟨.ref a, k2, a, rfl, ⟨xs, .of k3⟩, ?_⟩
      refine ⟨fun j m σ' H' => m = l.length - j ∧ j ≤ l.length ∧ ∃ B2 c2, Same B B2 ∧ Conc X.K PL G B2 c2 σ' H' ∧ I j c2, ⟨_, rfl, Nat.zero_le _, B, c, Same.refl _, h1, i0⟩, ?_⟩
      rintro j m σ' H' ⟨rfl, hil, B2, c2, e2, hc2, hI⟩
      obtain ⟨a', ys, y1, y2, y3, y4⟩ := hc2.getArg (ia j c2 hI)
      rw [k1] at y1
      cases y1
      by_cases hlt : j < l.length
      · have hlt2 : j < ys.length := by rw [y4.length]; exact hlt
        refine .inr ⟨⟨ys, ys[j], .of y3, by simp⟩, fun σ2 H2 => ∃ B3 c3, Same B B3 ∧ Conc X.K PL G B3 c3 σ2 H2 ∧ I (j + 1) c3, fun σ2 H2 ⟨B3, c3, e3, hc3, hI3⟩ => ⟨l.length - (j + 1), by omega, rfl, hlt, B3, c3, e3, hc3, hI3⟩, fun v H3 hy => ?_⟩
        obtain ⟨rfl, hy⟩ := hy
        have hv := hy ys (.of y3)
        obtain ⟨d, hd, rd⟩ := y4.getV hv
        refine ⟨G, B2, c2, d, _, hc2, rd, it j d c2 hd hI, fun c4 B4 σ4 H4 q4 e4 hc4 _ => ?_⟩
        have ee : Same B B4 := e2.trans e4
        exact ⟨G, B4, c4, _, hc4, q4, fun c5 B5 σ5 H5 q5 e5 hc5 => ⟨B5, c5, ee.trans e5, hc5, q5⟩, h4, fun c5 B5 σ5 H5 q5 e5 hc5 => h3 _ _ _ _ q5 (ee.trans e5) hc5, fun c5 B5 σ5 H5 q5 e5 hc5 => ⟨B5, c5, ee.trans e5, hc5, q5⟩⟩
      · have hie : j = l.length := by omega
        subst hie
        exact .inl ⟨⟨ys, .of y3, by rw [y4.length]; exact Nat.le_refl _⟩, h3 _ _ _ _ (ie c2 hI) e2 hc2⟩
    | pool =>
      rw [q] at h2
      exact h2.elim
  | _ =>
    rw [q] at h2
    exact h2.elim
end Cl

namespace Cl
open PySem PySem.Spec PyProof.Rows L2
def eqsD : List Dt → List Dt → Bool
  | [], [] => true
  | x :: xs, y :: ys => eqD x y && eqsD xs ys
  | _, _ => false
theorem eqv_all : ∀ l m : List Dt, PyData.eqvAll (toPys l) (toPys m) = eqsD l m
  | [], [] => by unfold toPys PyData.eqvAll eqsD; rfl
  | [], _ :: _ => by unfold toPys PyData.eqvAll eqsD; rfl
  | _ :: _, [] => by unfold toPys PyData.eqvAll eqsD; rfl
  | x :: xs, y :: ys => by
    unfold toPys PyData.eqvAll eqsD
    rw [eqv_all xs ys]
    rfl
theorem eqD_tup (l m : List Dt) : eqD (.tup l) (.tup m) = eqsD l m := by
  unfold eqD
  unfold toPy PyData.eqv
  exact eqv_all l m
theorem eqD_lst (l m : List Dt) : eqD (.lst l) (.lst m) = eqsD l m := by
  unfold eqD
  unfold toPy PyData.eqv
  exact eqv_all l m
theorem shp_tup2 (i j : Int) : shp (.tup [.int i, .int j]) = true := by
  unfold shp
  rfl
theorem okEq_pair (i j k l : Int) : okEq (.tup [.int i, .int j]) (.tup [.int k, .int l]) = true := by
  unfold okEq
  rw [shp_tup2, shp_tup2]
  simp
theorem fEq_pair {i j k l : Int} {kk : Res → Prop} : fEq (.tup [.int i, .int j]) (.tup [.int k, .int l]) kk = kk (.dat (.bl (decide (i = k ∧ j = l)))) := by
  unfold fEq
  rw [okEq_pair, eqD_tup]
  have e : eqsD [.int i, .int j] [.int k, .int l] = decide (i = k ∧ j = l) := by
    simp [eqsD, eqD_int]
  rw [e]
  simp
theorem fNe_pair {i j k l : Int} {kk : Res → Prop} : fNe (.tup [.int i, .int j]) (.tup [.int k, .int l]) kk = kk (.dat (.bl (!decide (i = k ∧ j = l)))) := by
  unfold fNe
  rw [okEq_pair, eqD_tup]
  have e : eqsD [.int i, .int j] [.int k, .int l] = decide (i = k ∧ j = l) := by
    simp [eqsD, eqD_int]
  rw [e]
  simp
/-! ### equations for readings, more of them -/
theorem e_dSeq {s t : DS} {E : CEnds} {c : CEnv} : dSeq s t E c = (s { E with nx := t E } c) := propext Iff.rfl
theorem e_dAsg {i : Nat} {de : DE} {E : CEnds} {c : CEnv} : dAsg i de E c = (de c fun r c1 => put i r c1 E.nx) := propext Iff.rfl
theorem e_dAsgG {g : DG} {de : DE} {E : CEnds} {c : CEnv} : dAsgG g de E c = (de c fun r c1 => asD r c1 fun d c2 => g d c2 E.nx) := propext Iff.rfl
theorem e_dIf {t : DT} {a b : DS} {E : CEnds} {c : CEnv} : dIf t a b E c = (t c fun k c1 => br k (a E c1) (b E c1)) := propext Iff.rfl
theorem e_dTru {da : DE} {c : CEnv} {Q : Bool → CEnv → Prop} : dTru da c Q = (da c fun r c1 => on1 (hd r) c1 fun x => tru x fun b => Q b c1) := propext Iff.rfl
theorem e_dC {d : Dt} {c : CEnv} {Q : Res → CEnv → Prop} : dC d c Q = (Q (.dat d) c) := propext Iff.rfl
theorem e_dBin {f : OpF} {da db : DE} {c : CEnv} {Q : Res → CEnv → Prop} : dBin f da db c Q = (da c fun r c1 => db c1 fun s c2 => on2 (hd r) (hd s) c2 fun x y => f x y fun z => Q z c2) := propext Iff.rfl
theorem e_dBinT {f : OpF} {da db : DE} {c : CEnv} {Q : Bool → CEnv → Prop} : dBinT f da db c Q = (da c fun r c1 => db c1 fun s c2 => on2 (hd r) (hd s) c2 fun x y => f x y fun z => blR z fun b => Q b c2) := propext Iff.rfl
theorem e_dUn {f : UnF} {da : DE} {c : CEnv} {Q : Res → CEnv → Prop} : dUn f da c Q = (da c fun r c1 => on1 (hd r) c1 fun x => f x fun z => Q z c1) := propext Iff.rfl
theorem e_dRet {de : DE} {E : CEnds} {c : CEnv} : dRet de E c = (de c fun r c1 => toRet r c1 E.rt) := propext Iff.rfl
theorem e_dRetN  {E : CEnds} {c : CEnv} : dRetN  E c = (E.rt (.dat .non) c) := propext Iff.rfl
theorem e_dDrop {de : DE} {E : CEnds} {c : CEnv} : dDrop de E c = (de c fun _ c1 => E.nx c1) := propext Iff.rfl
theorem e_dMeth {i : Nat} {f : MutF} {dl : DL} {c : CEnv} {Q : Res → CEnv → Prop} : dMeth i f dl c Q = (obL c i fun _ => dl c fun ds c1 => obL c1 i fun l => f l ds fun d m => Q (.dat d) (setL c1 i m)) := propext Iff.rfl
theorem e_dNext  {E : CEnds} {c : CEnv} : dNext  E c = (E.nx c) := propext Iff.rfl
theorem e_dBreak  {E : CEnds} {c : CEnv} : dBreak  E c = (E.bk c) := propext Iff.rfl
theorem e_dCont  {E : CEnds} {c : CEnv} : dCont  E c = (E.ct c) := propext Iff.rfl
theorem e_dAnd {t u : DT} {c : CEnv} {Q : Bool → CEnv → Prop} : dAnd t u c Q = (t c fun b c1 => br b (u c1 Q) (Q false c1)) := propext Iff.rfl
theorem e_dOr {t u : DT} {c : CEnv} {Q : Bool → CEnv → Prop} : dOr t u c Q = (t c fun b c1 => br b (Q true c1) (u c1 Q)) := propext Iff.rfl
theorem e_dNot {t : DT} {c : CEnv} {Q : Bool → CEnv → Prop} : dNot t c Q = (t c fun b c1 => Q (!b) c1) := propext Iff.rfl
theorem e_dAndV {da db : DE} {c : CEnv} {Q : Res → CEnv → Prop} : dAndV da db c Q = (da c fun r c1 => blD r fun b => br b (db c1 Q) (Q (.dat (.bl false)) c1)) := propext Iff.rfl
theorem e_dOrV {da db : DE} {c : CEnv} {Q : Res → CEnv → Prop} : dOrV da db c Q = (da c fun r c1 => blD r fun b => br b (Q (.dat (.bl true)) c1) (db c1 Q)) := propext Iff.rfl
theorem e_dNotV {da : DE} {c : CEnv} {Q : Res → CEnv → Prop} : dNotV da c Q = (da c fun r c1 => blD r fun b => Q (.dat (.bl (!b))) c1) := propext Iff.rfl
theorem e_dIfE {t : DT} {da db : DE} {c : CEnv} {Q : Res → CEnv → Prop} : dIfE t da db c Q = (t c fun b c1 => br b (da c1 Q) (db c1 Q)) := propext Iff.rfl
theorem e_dTup {da : DL} {c : CEnv} {Q : Res → CEnv → Prop} : dTup da c Q = (da c fun ds c1 => ds.length ≤ 10000000 ∧ Q (.dat (.tup ds)) c1) := propext Iff.rfl
theorem e_dLst {da : DL} {c : CEnv} {Q : Res → CEnv → Prop} : dLst da c Q = (da c fun ds c1 => ds.length ≤ 10000000 ∧ Q (.new (.lst ds)) c1) := propext Iff.rfl
theorem e_dCB {f : CallF} {da : DA} {c : CEnv} {Q : Res → CEnv → Prop} : dCB f da c Q = (da c fun rs c1 => vws rs c1 fun xs => f xs fun z => Q z c1) := propext Iff.rfl
theorem e_dSl {da : DE} {dl dh : CEnv → (Option Int → CEnv → Prop) → Prop} {c : CEnv} {Q : Res → CEnv → Prop} : dSl da dl dh c Q = (da c fun r c1 => dl c1 fun lo c2 => dh c2 fun hi c3 => on1 (hd r) c3 fun x => fSl x lo hi fun z => Q z c3) := propext Iff.rfl
theorem e_dNoPart  {c : CEnv} {Q : Option Int → CEnv → Prop} : dNoPart  c Q = (Q none c) := propext Iff.rfl
theorem e_dIsi {T : String} {da : DE} {c : CEnv} {Q : Res → CEnv → Prop} : dIsi T da c Q = (da c fun r c1 => on1 (hd r) c1 fun x => isiD x fun t => Q (.dat (.bl (isiB t T))) c1) := propext Iff.rfl
theorem e_dYes  {c : CEnv} {Q : Bool → CEnv → Prop} : dYes  c Q = (Q true c) := propext Iff.rfl
theorem e_aCons {de : DE} {da : DA} {c : CEnv} {Q : List Res → CEnv → Prop} : aCons de da c Q = (de c fun r c1 => da c1 fun rs c2 => Q (hd r :: rs) c2) := propext Iff.rfl
theorem e_aNil  {c : CEnv} {Q : List Res → CEnv → Prop} : aNil  c Q = (Q [] c) := propext Iff.rfl
theorem e_lCons {de : DE} {da : DL} {c : CEnv} {Q : List Dt → CEnv → Prop} : lCons de da c Q = (de c fun r c1 => asD r c1 fun d c2 => da c2 fun ds c3 => Q (d :: ds) c3) := propext Iff.rfl
theorem e_lNil  {c : CEnv} {Q : List Dt → CEnv → Prop} : lNil  c Q = (Q [] c) := propext Iff.rfl
theorem e_vCons {de : DE} {dv : DV} {c : CEnv} {Q : List AV → CEnv → Prop} : vCons de dv c Q = (de c fun r c1 => asD r c1 fun d c2 => dv c2 fun avs c3 => Q (.dat d :: avs) c3) := propext Iff.rfl
theorem e_vNil  {c : CEnv} {Q : List AV → CEnv → Prop} : vNil  c Q = (Q [] c) := propext Iff.rfl
theorem e_dItems {de : DE} {c : CEnv} {Q : List Dt → CEnv → Prop} : dItems de c Q = (de c fun r c1 => asD r c1 fun d c2 => itemsD d fun l => Q l c2) := propext Iff.rfl
theorem e_dRng2 {da : DL} {c : CEnv} {Q : List Dt → CEnv → Prop} : dRng2 da c Q = (da c fun ds c1 => cints2 ds fun a b => (a ≤ 1000000000 ∧ -1000000000 ≤ a ∧ b ≤ 1000000000 ∧ -1000000000 ≤ b) ∧ Q (rngD a (b - a).toNat) c1) := propext Iff.rfl
theorem e_dRng3 {da : DL} {c : CEnv} {Q : List Dt → CEnv → Prop} : dRng3 da c Q = (da c fun ds c1 => cints3 ds fun a b s => ∃ n, RgC a b s n ∧ Q (rngC a s n) c1) := propext Iff.rfl
theorem e_dCall {n : Nat} {F : FS} {dvs : List Dt} {dv : DV} {c : CEnv} {Q : Res → CEnv → Prop} : dCall n F dvs dv c Q = (dv c fun avs c1 => (avs ++ dvs.map AV.dat).length = n ∧ callQ F (avs ++ dvs.map AV.dat) c1 Q) := propext Iff.rfl
theorem e_dCallK {n np nk : Nat} {F : FS} {gA : List AV → List AV → List AV} {dv dk : DV} {c : CEnv} {Q : Res → CEnv → Prop} : dCallK n np nk F gA dv dk c Q = (dv c fun avs c1 => dk c1 fun kvs c2 => (avs.length = np ∧ kvs.length = nk ∧ (gA avs kvs).length = n) ∧ callQ F (gA avs kvs) c2 Q) := propext Iff.rfl
theorem e_dRev {de : DE} {c : CEnv} {Q : List Dt → CEnv → Prop} : dRev de c Q = (de c fun r c1 => asD r c1 fun d c2 => revK d fun l => Q l c2) := propext Iff.rfl
theorem e_dEnum {da : DL} {c : CEnv} {Q : List Dt → CEnv → Prop} : dEnum da c Q = (da c fun ds c1 => oneD ds fun d => itemsD d fun l => Q (enumD 0 l) c1) := propext Iff.rfl
theorem c_rev_lst {k : List Dt → Prop} {l : List Dt} : revK (.lst l) k = k l.reverse := propext Iff.rfl
theorem c_rev_tup {k : List Dt → Prop} {l : List Dt} : revK (.tup l) k = k l.reverse := propext Iff.rfl
theorem c_oneD {α : Type} {d : α} {P : α → Prop} : oneD [d] P = P d := propext Iff.rfl
theorem c_bad {E : CEnds} {c : CEnv} : dBad E c = False := propext Iff.rfl
def extK (l : List Dt) (d : Dt) (k : Dt → List Dt → Prop) : Prop := match d with
  | .lst m => l.length + m.length ≤ 10000000 ∧ k .non (l ++ m)
  | _ => False
theorem c_ext {k : Dt → List Dt → Prop} {l : List Dt} {d : Dt} : mExtend l [d] k = extK l d k := propext Iff.rfl
theorem c_extK {k : Dt → List Dt → Prop} {l m : List Dt} : extK l (.lst m) k = (l.length + m.length ≤ 10000000 ∧ k .non (l ++ m)) := propext Iff.rfl
theorem c_mrev {k : Dt → List Dt → Prop} {l : List Dt} : mReverse l [] k = k .non l.reverse := propext Iff.rfl
def popK (l : List Dt) (d : Dt) (k : Dt → List Dt → Prop) : Prop := match d with
  | .int i => 0 ≤ i ∧ i < 1000000000 ∧ ∃ e, l[i.toNat]? = some e ∧ k e (l.eraseIdx i.toNat)
  | _ => False
theorem c_popAt {k : Dt → List Dt → Prop} {l : List Dt} {d : Dt} : mPopAt l [d] k = popK l d k := propext Iff.rfl
theorem c_popK {k : Dt → List Dt → Prop} {l : List Dt} {i : Int} : popK l (.int i) k = (0 ≤ i ∧ i < 1000000000 ∧ ∃ e, l[i.toNat]? = some e ∧ k e (l.eraseIdx i.toNat)) := propext Iff.rfl
def idxK (l : List Dt) (d : Dt) (k : Dt → List Dt → Prop) : Prop := match d with
  | .int i => ∃ (ns : List Int) (j : Nat), l = ns.map .int ∧ ns[j]? = some i ∧ (∀ m, m < j → ns[m]? ≠ some i) ∧ k (.int j) l
  | _ => False
theorem c_idx {k : Dt → List Dt → Prop} {l : List Dt} {d : Dt} : mIndexI l [d] k = idxK l d k := propext Iff.rfl
theorem c_forA {i : Nat} {g : DG} {body : DS} {E : CEnds} {c : CEnv} : dForA i g body E c = FIA (gt c i) i g body E c := propext Iff.rfl
theorem for_arg {l : List Dt} {i : Nat} {g : DG} {body : DS} {E : CEnds} {c : CEnv} (I : Nat → CEnv → Prop) (h0 : I 0 c) (ha : ∀ k c', I k c' → gt c' i = .arg (.lst l)) (hs : ∀ k d c', l[k]? = some d → I k c' → g d c' fun c2 => body { nx := I (k + 1), rt := E.rt, bk := E.nx, ct := I (k + 1), ra := E.ra } c2) (he : ∀ c', I l.length c' → E.nx c') : FIA (.arg (.lst l)) i g body E c := ⟨I, h0, ha, hs, he⟩
theorem for_lst {l : List Dt} {g : DG} {body : DS} {E : CEnds} {c : CEnv} (I : Nat → CEnv → Prop) (h0 : I 0 c) (hs : ∀ k d c', l[k]? = some d → I k c' → g d c' fun c2 => body { nx := I (k + 1), rt := E.rt, bk := E.nx, ct := I (k + 1), ra := E.ra } c2) (he : ∀ c', I l.length c' → E.nx c') : FI l g body E c := ⟨I, h0, hs, he⟩
theorem for_one {d : Dt} {g : DG} {body : DS} {E : CEnds} {c : CEnv} (h : g d c fun c2 => body { nx := E.nx, rt := E.rt, bk := E.nx, ct := E.nx, ra := E.ra } c2) : FI [d] g body E c := by
  refine ⟨fun k c' => match k with
    | 0 => c' = c
    | _ + 1 => E.nx c', rfl, fun k e c' hd hI => ?_, fun c' h => h⟩
  cases k with
  | zero =>
    have hI : c' = c := hI
    cases hd
    subst hI
    exact h
  | succ k => cases hd
theorem lc_fm {α : Type} {xs : List α} {ff : α → Dt} {g : DG} {dt : DT} {de : DE} {vs : List Nat} {c1 : CEnv} {Q : Res → CEnv → Prop} (f : α → Option Dt) (hl : xs.length ≤ 9000000)
    (hs : ∀ x ∈ xs, ∀ Y : Option Dt → CEnv → Prop, Y (f x) (wipeC vs c1) → g (ff x) (wipeC vs c1) fun c2 => dt c2 fun b c3 => br b (de c3 fun r c4 => asD r c4 fun e c5 => Y (some e) (wipeC vs c5)) (Y none (wipeC vs c3)))
    (hQ : Q (.new (.lst (xs.filterMap f))) (unw vs c1 (wipeC vs c1))) : LCI (xs.map ff) g dt de vs c1 Q := by
  refine ⟨by rw [List.length_map]; exact hl, fun k acc c' => acc = (xs.take k).filterMap f ∧ c' = wipeC vs c1, ⟨by simp, rfl⟩, ?_, ?_⟩
  · rintro k acc d c' hd _ ⟨rfl, rfl⟩
    rw [List.getElem?_map] at hd
    cases q : xs[k]? with
    | none =>
      rw [q] at hd
      cases hd
    | some x =>
      rw [q] at hd
      cases hd
      refine hs x (List.mem_of_getElem? q) (fun o c' => (match o with
        | some e => (xs.take k).filterMap f ++ [e] = (xs.take (k + 1)).filterMap f
        | none => (xs.take k).filterMap f = (xs.take (k + 1)).filterMap f) ∧ c' = wipeC vs c1) ⟨?_, rfl⟩
      rw [List.take_add_one, q]
      cases q2 : f x <;> simp [q2]
  · rintro acc c' _ ⟨rfl, rfl⟩
    rw [List.length_map, List.take_length]
    exact hQ
theorem filterMap_if {α : Type} (p : α → Bool) (ff : α → Dt) : ∀ xs : List α, xs.filterMap (fun x => if p x = true then some (ff x) else none) = (xs.filter p).map ff
  | [] => rfl
  | x :: r => by
    rw [List.filterMap_cons, List.filter_cons]
    cases e : p x
    · simp [filterMap_if p ff r]
    · simp [filterMap_if p ff r]
end Cl

namespace Cl
open PySem PySem.Spec PyProof.Rows L2
/-! ### a drawing box with a list in it -/
def boxPL : PoolP where
  ok a fp H := ∃ (q : Addr) (st : Int) (hs : List Int), fp = [a, q] ∧ a ≠ q ∧ H a = some (.lst [.int st, .ref q]) ∧ H q = some (.lst (hs.map V.int)) ∧ hs.length ≤ 1000
  mem := by
    rintro a fp H ⟨q, st, hs, rfl, _⟩
    simp
  alive := by
    rintro a fp H ⟨q, st, hs, rfl, _, h1, h2, _⟩ b hb
    rcases List.mem_cons.mp hb with rfl | hb
    · rw [h1]; simp
    · rw [List.mem_singleton.mp hb, h2]; simp
  loc := by
    rintro a fp H H' ⟨q, st, hs, rfl, hne, h1, h2, h3⟩ k
    exact ⟨q, st, hs, rfl, hne, (k a (by simp)).trans h1, (k q (by simp)).trans h2, h3⟩
def F_boxPick : FS := fun as R => ∃ m : Int, as = [.ob .pool, .dat (.int m)] ∧ 1 ≤ m ∧ m ≤ 1000000 ∧ ∀ r : Int, 0 ≤ r → r < m → R (.dat (.int r)) as
def F_boxNew : FS := fun as R => ∃ ns : List Int, as = [.dat (.frz (ns.map .int))] ∧ ns.length ≤ 1000 ∧ R (.new .pool) as
/-- what the drawing def has to answer -/
theorem box_pick {K : PySem.W.Frag} {vs : List V} {H : Hp} {Q : VK} {E : XK} (h : spC K boxPL 2 F_boxPick vs H Q E) : ∃ (a q : Addr) (st : Int) (hs : List Int) (m : Int), vs = [.ref a, .int m] ∧ a ≠ q ∧ H a = some (.lst [.int st, .ref q]) ∧ H q = some (.lst (hs.map V.int)) ∧ 1 ≤ m ∧ m ≤ 1000000 ∧
    ∀ (r : Int) (H' : Hp) (st' : Int) (hs' : List Int), 0 ≤ r → r < m → H' a = some (.lst [.int st', .ref q]) → H' q = some (.lst (hs'.map V.int)) → hs'.length ≤ hs.length → (∀ x, x ≠ a → x ≠ q → H' x = H x) → Q (.int r) H' := by
  obtain ⟨B, as, fs, R, hn, sB, ao, ap, ⟨m, rfl, hm1, hm2, hF⟩, q⟩ := h
  obtain ⟨hlen, hao⟩ := ao
  obtain ⟨v0, hv0, a, rfl, bq, st, hs, hfp, hne, ha, hb, hbl⟩ := hao 0 _ rfl
  obtain ⟨v1, hv1, hf1, hr1⟩ := hao 1 _ rfl
  have e1 : v1 = .int m := by unfold Rep at hr1; exact hr1
  subst e1
  match vs, hlen, hv0, hv1 with
  | [x, y], _, hv0, hv1 =>
  cases Option.some.inj hv0
  cases Option.some.inj hv1
  refine ⟨a, bq, st, hs, m, rfl, hne, ha, hb, hm1, hm2, fun r H' st' hs' r0 r1 h1 h2 h3 h4 => ?_⟩
  have out : ∀ x, (∀ k, x ∉ fs k) → H' x = H x := fun x hx => by
    have h0 := hx 0
    rw [hfp] at h0
    exact h4 x (fun e => h0 (by simp [e])) (fun e => h0 (by simp [e]))
  have offa : ∀ x, x ∈ fs 0 → B x = none := fun x hx => ap.off 0 x hx
  refine q (.dat (.int r)) [.ob .pool, .dat (.int m)] B H' (.int r) fs (hF r r0 r1) (Same.refl B) (fun _ _ e => .inl e) (fun x o e => ?_) (fun x o e hx => ?_) (fun x hx => ?_) ?_ ⟨ap.out, ap.disj, ap.off⟩ (fun k b hb => .inr hb) (fun k o e => ⟨o, e⟩) (by unfold RetOk Rep; rfl)
  · rw [← sB x o e]
    refine h4 x (fun z => ?_) (fun z => ?_)
    · rw [z, offa a (by rw [hfp]; simp)] at e
      cases e
    · rw [z, offa bq (by rw [hfp]; simp)] at e
      cases e
  · rw [out x hx]
    exact e
  · by_cases xa : x = a
    · rw [xa, h1]
      simp
    · by_cases xq : x = bq
      · rw [xq, h2]
        simp
      · rw [h4 x xa xq]
        exact hx
  · refine ⟨rfl, fun k a' e => ?_⟩
    match k, e with
    | 0, e =>
      cases Option.some.inj e
      exact ⟨_, rfl, a, rfl, bq, st', hs', hfp, hne, h1, h2, Nat.le_trans h3 hbl⟩
    | 1, e =>
      cases Option.some.inj e
      exact ⟨_, rfl, hf1, by unfold Rep; rfl⟩
/-- what the def has to answer that makes the box -/
theorem box_new {K : PySem.W.Frag} {vs : List V} {H : Hp} {Q : VK} {E : XK} (h : spC K boxPL 1 F_boxNew vs H Q E) : ∃ (p : Addr) (ns : List Int), vs = [.ref p] ∧ SqL K H p (ns.map V.int) ∧ ns.length ≤ 1000 ∧
    ∀ (a q : Addr) (H' : Hp) (st : Int) (hs : List Int), a ≠ q → H a = none → H q = none → H' a = some (.lst [.int st, .ref q]) → H' q = some (.lst (hs.map V.int)) → hs.length ≤ ns.length → (∀ x, x ≠ a → x ≠ q → H' x = H x) → Q (.ref a) H' := by
  obtain ⟨B, as, fs, R, hn, sB, ao, ap, ⟨ns, rfl, hm1, hF⟩, q⟩ := h
  obtain ⟨hlen, hao⟩ := ao
  obtain ⟨v0, hv0, hf, hr⟩ := hao 0 _ rfl
  unfold Rep at hr
  obtain ⟨p, xs, rfl, hp, hxs⟩ := hr
  match vs, hlen, hv0 with
  | [x], _, hv0 =>
  cases Option.some.inj hv0
  have ex : xs = ns.map V.int := by
    have key : ∀ (l : List Int) (ys : List V), RepL K B (l.map Dt.int) ys → ys = l.map V.int := by
      intro l
      induction l with
      | nil => intro ys h; unfold RepL at h; exact h
      | cons i l ih =>
        intro ys h
        unfold RepL at h
        obtain ⟨y, zs, rfl, h1, h2⟩ := h
        unfold Rep at h1
        rw [h1, ih zs h2]
        rfl
    exact key ns xs hxs
  subst ex
  refine ⟨p, ns, rfl, Same.seq sB hp, hm1, fun a b H' st hs hne n1 n2 h1 h2 h3 h4 => ?_⟩
  have fe : ∀ k, fs k = [] := fun k => by
    cases k with
    | zero => exact hf
    | succ k => exact ap.out _ (by omega)
  have grow : ∀ x o, H x = some o → H' x = some o := fun x o e => by
    rw [h4 x (fun z => by rw [z, n1] at e; cases e) (fun z => by rw [z, n2] at e; cases e)]
    exact e
  refine q (.new .pool) [.dat (.frz (ns.map .int))] B H' (.ref a) fs hF (Same.refl B) (fun _ _ e => .inl e) (fun x o e => grow x o (sB x o e)) (fun x o e _ => grow x o e) (fun x hx => ?_) ?_ ⟨ap.out, ap.disj, ap.off⟩ (fun k b hb => .inr hb) (fun k o e => ?_) ⟨a, [a, b], rfl, ⟨b, st, hs, rfl, hne, h1, h2, Nat.le_trans h3 hm1⟩, fun x hx => ?_⟩
  · cases g : H x with
    | none => exact absurd g hx
    | some o => rw [grow x o g]; simp
  · refine ⟨rfl, fun k a' e => ?_⟩
    match k, e with
    | 0, e =>
      cases Option.some.inj e
      exact ⟨_, rfl, hf, by unfold Rep; exact ⟨p, _, rfl, hp, hxs⟩⟩
  · match k, e with
    | 0, e => cases e
  · have hxH : H x = none := by
      rcases List.mem_cons.mp hx with rfl | hx
      · exact n1
      · rw [List.mem_singleton.mp hx]
        exact n2
    refine ⟨?_, hxH, fun k => by rw [fe k]; simp⟩
    cases g : B x with
    | none => rfl
    | some o => rw [sB x o g] at hxH; cases hxH
theorem sx0 {n : Nat} (h : 0 < n) : seqIndex? 0 n = some 0 := by
  unfold seqIndex?
  simp
  omega
/-! ### isinstance with two classes, list(range(..)), the place of an item of any depth -/
section
variable {X : Cx} {PL : PoolP}
def dIsiT (T U : String) (da : DE) : DE := fun c Q => da c fun r c1 => on1 (hd r) c1 fun x => isiD x fun t => Q (.dat (.bl (isiB t T || isiB t U))) c1
theorem qe_isiT {T U : String} {a : Expr} {Tn Un : Str} {p p2 p3 pt pos : Pos} {k1 : Nat} {da : DE} (hT : isiOk T = true) (hU : isiOk U = true) (hg : Gl X "isinstance") (hm : X.mg "isinstance" = none) (hg2 : Gl X Tn) (hm2 : X.mg Tn = none) (hv2 : bootBuiltins Tn = some (.type T)) (hg3 : Gl X Un) (hm3 : X.mg Un = none) (hv3 : bootBuiltins Un = some (.type U)) (ha : QE X PL a da)
    (hn : Tn ≠ "__name__" := by decide) (hdb : (Tn == ("__debug__" : Str)) = false := by decide) (hn3 : Un ≠ "__name__" := by decide) (hdb3 : (Un == ("__debug__" : Str)) = false := by decide)
    (he : starEach [a, .Tuple [.Name Tn p2, .Name Un p3] k1 pt] X.env = (false, eval a X.env) :: starEach [.Tuple [.Name Tn p2, .Name Un p3] k1 pt] X.env := by rfl) (he2 : starEach [.Tuple [.Name Tn p2, .Name Un p3] k1 pt] X.env = (false, eval (.Tuple [.Name Tn p2, .Name Un p3] k1 pt) X.env) :: starEach [] X.env := by rfl)
    (he3 : starEach [.Name Tn p2, .Name Un p3] X.env = (false, eval (.Name Tn p2) X.env) :: starEach [.Name Un p3] X.env := by rfl) (he4 : starEach [.Name Un p3] X.env = (false, eval (.Name Un p3) X.env) :: starEach [] X.env := by rfl)
    (hpl : (backTo pos (starEach [.Tuple [.Name Tn p2, .Name Un p3] k1 pt] X.env)).any (·.1) = false := by rfl) : QE X PL (.Call (.Name "isinstance" p) [a, .Tuple [.Name Tn p2, .Name Un p3] k1 pt] [] pos) (dIsiT T U da) := by
  have hb : bootBuiltins "isinstance" = some (.builtin "isinstance") := by decide +kernel
  have pT : PE X (.Name Tn p2) (tC (.ty T)) := pe_bltn hg2 hm2 hv2 rfl hn hdb
  have pU : PE X (.Name Un p3) (tC (.ty U)) := pe_bltn hg3 hm3 hv3 rfl hn3 hdb3
  refine q_of (pe_callB (call_isiT) hg hm hb (pa_cons ha.pe (pa_cons (pe_tup (pa_cons pT (pa_cons pU pa_nil he4) he3)) pa_nil he2) he) (by decide) (by decide) he hpl) fun G B c σ H Qd Q hc hd2 hq => ?_
  refine ⟨G, B, c, _, hc, hd2, fun r c1 B1 H1 v q e1 cr => ?_⟩
  obtain ⟨B2, e2, hc2, hh⟩ := cr.hold
  refine ⟨by show 2 ≤ sizeLine; rw [sizeLine_eq]; decide, fun t ht => ?_⟩
  obtain ⟨hc3, e3⟩ := Conc.dat (o := .tup [V.ty T, V.ty U]) hc2 ht
  obtain ⟨x, rx, hf⟩ := on1_ok hc3 (hh.mono e3) q
  have hk : ∀ {T : String}, isiOk T = true → kitB (tyD x) T = some (isiB (tyD x) T) := by
    intro T hT
    unfold isiOk at hT
    exact of_decide_eq_true (List.all_eq_true.mp hT _ (tyD_in hf))
  refine ⟨v, t, [.ty T, .ty U], .type (tyD x), [.type T, .type U], _, rfl, upd_same, .cons (.ty T) (.cons (.ty U) .nil), tyX_of hc3.same rx hf, ?_, hq _ c1 _ _ _ (isiD_k hf) ((e1.trans e2).trans e3) ⟨hc3, by unfold Rep; rfl⟩⟩
  have k1 := kit_ty (K := X.K) (hk hT)
  have k2 := kit_ty (K := X.K) (hk hU)
  unfold PySem.W.kitAny
  rw [k1]
  cases g1 : isiB (tyD x) T with
  | true => rfl
  | false =>
    unfold PySem.W.kitAny
    rw [k2]
    cases g2 : isiB (tyD x) U with
    | true => rfl
    | false => rfl
def rgL (x : Dt) (k : Int → Prop) : Prop := match x with
  | .int n => k n
  | _ => False
def dLstRg (da : DE) : DE := fun c Q => da c fun r c1 => asD r c1 fun d c2 => rgL d fun n => (n ≤ 10000000 ∧ -10000000 ≤ n) ∧ Q (.new (.lst (rngD 0 n.toNat))) c2
theorem rep_rng {K : PySem.W.Frag} {B : Hp} (n : Int) : RepL K B (rngD 0 n.toNat) (rgV 0 n) := by
  have h := rep_ints (K := K) (B := B) ((List.range n.toNat).map fun k : Nat => (0 : Int) + (k : Int))
  rw [List.map_map, List.map_map] at h
  have e : rgV 0 n = (List.range n.toNat).map (V.int ∘ fun k : Nat => (0 : Int) + (k : Int)) := by
    unfold rgV
    rw [Int.sub_zero]
    rfl
  rw [e]
  exact h
theorem qe_lstRg {p p2 pos pos2 : Pos} {a : Expr} {da : DE} (hc : X.calm = true) (hg : Gl X "list") (hm : X.mg "list" = none) (hg2 : Gl X "range") (hm2 : X.mg "range" = none) (ha : QE X PL a da)
    (na : starEach [a] X.env = (false, eval a X.env) :: starEach [] X.env := by rfl) (na2 : starEach [.Call (.Name "range" p2) [a] [] pos2] X.env = (false, eval (.Call (.Name "range" p2) [a] [] pos2) X.env) :: starEach [] X.env := by rfl) : QE X PL (.Call (.Name "list" p) [.Call (.Name "range" p2) [a] [] pos2] [] pos) (dLstRg da) := by
  refine q_of (pe_listRg hc hg hm (prg_1 hg2 hm2 ha.pe na) na2) fun G B c σ H Qd Q hc hd2 hq => ?_
  refine ⟨G, B, c, _, hc, hd2, fun r c1 B1 H1 v q e1 cr => ?_⟩
  obtain ⟨B2, c2, d, e2, hc2, rd, q⟩ := asD_ok cr q
  cases d with
  | int n =>
    unfold Rep at rd
    obtain ⟨hn, q⟩ := (show (n ≤ 10000000 ∧ -10000000 ≤ n) ∧ Qd (.new (.lst (rngD 0 n.toNat))) c2 from q)
    refine ⟨n, rd, ⟨by omega, by omega, by omega, by omega, by omega⟩, fun l hl => ?_⟩
    exact hq _ c2 B2 _ _ q (e1.trans e2) (conc_lst hc2 hl (rep_rng n))
  | _ => exact q.elim
end
/-! ### a, b = a list -/
section
variable {X : Cx} {PL : PoolP}
def gL (n : Nat) (gs : DGs) : DG := fun d c Q => match d with
  | .lst l => l.length = n ∧ gs l c Q
  | _ => False
theorem qg_lst {es : List Expr} {k : Nat} {gs : DGs} {n : Nat} {pos : Pos} (hc : X.calm = true) (h : QGs X PL es gs) (hn : (assignEach es X.env).length = n := by rfl) (hst : (assignEach es X.env).findIdx? (·.1) = none := by rfl) : QG X PL (.Tuple es k pos) (gL n gs) :=
  ⟨PG.weak (pg_unl hc h.pgs hn hst) fun v σ H Q ⟨G, B, c, d, Qd, h1, h2, h3, h4⟩ => by
    cases d with
    | lst l =>
      unfold Rep at h2
      obtain ⟨a, xs, e1, r1, r2⟩ := h2
      obtain ⟨g1, g2⟩ := h3
      exact ⟨a, xs, e1, Same.seq h1.same (SqL.of r1), by rw [r2.length]; exact g1, G, B, c, l, Qd, h1, r2, g2, h4⟩
    | _ => exact h3.elim⟩
theorem c_gL {n : Nat} {gs : DGs} {l : List Dt} {c : CEnv} {Q : CEnv → Prop} : gL n gs (.lst l) c Q = (l.length = n ∧ gs l c Q) := propext Iff.rfl
end
def mIndexD : MutF := fun l ds k => oneD ds fun y => shp (.lst l) = true ∧ shp y = true ∧ ∃ (j : Nat) (z : Dt), l[j]? = some z ∧ eqD z y = true ∧ (∀ (m : Nat) (z' : Dt), m < j → l[m]? = some z' → eqD z' y = false) ∧ k (.int (j : Nat)) l
theorem toPys_get : ∀ (l : List Dt) (j : Nat), (toPys l)[j]? = (l[j]?).map toPy
  | [], j => by
    unfold toPys
    simp
  | d :: l, 0 => by
    unfold toPys
    rfl
  | d :: l, j + 1 => by
    unfold toPys
    rw [List.getElem?_cons_succ, List.getElem?_cons_succ]
    exact toPys_get l j
theorem mut_indexD {K : PySem.W.Frag} : MutD K (rIndexD K) mIndexD := by
  intro B H a l xs ds vs k Q h1 h2 h3 h4 h5 hq
  obtain ⟨d, rfl, s1, s2, j, z, z1, z2, z3, z4⟩ := oneD_ok h4
  obtain ⟨v, rfl, h8⟩ := repL1 h3
  have g4 := hq _ _ (.int (j : Int)) _ z4 h2 (by unfold Rep; rfl)
  rw [upd_self h1] at g4
  refine ⟨a, v, toPy d, toPys l, j, toPy z, rfl, rfl, .lst (SqL.of h1) (RepL.dp h5 (shp_lays s1) h2), Rep.dp h5 (shp_lay s2) h8, ?_, s2, ?_, z2, fun m z' hm hz => ?_, g4⟩
  · unfold shp toPy at s1
    exact s1
  · rw [toPys_get, z1]
    rfl
  · rw [toPys_get] at hz
    cases q : l[m]? with
    | none => rw [q] at hz; cases hz
    | some w =>
      rw [q] at hz
      cases hz
      exact z3 m w hm q
end Cl
namespace Cl
open PySem PySem.Spec PyProof.Rows L2
/-! ### equations -/
theorem e_dIsiT {T U : String} {da : DE} {c : CEnv} {Q : Res → CEnv → Prop} : dIsiT T U da c Q = (da c fun r c1 => on1 (hd r) c1 fun x => isiD x fun t => Q (.dat (.bl (isiB t T || isiB t U))) c1) := propext Iff.rfl
theorem e_dLstRg {da : DE} {c : CEnv} {Q : Res → CEnv → Prop} : dLstRg da c Q = (da c fun r c1 => asD r c1 fun d c2 => rgL d fun n => (n ≤ 10000000 ∧ -10000000 ≤ n) ∧ Q (.new (.lst (rngD 0 n.toNat))) c2) := propext Iff.rfl
theorem c_rgL {n : Int} {k : Int → Prop} : rgL (.int n) k = k n := propext Iff.rfl
def idxD (l : List Dt) (y : Dt) (k : Dt → List Dt → Prop) : Prop := shp (.lst l) = true ∧ shp y = true ∧ ∃ (j : Nat) (z : Dt), l[j]? = some z ∧ eqD z y = true ∧ (∀ (m : Nat) (z' : Dt), m < j → l[m]? = some z' → eqD z' y = false) ∧ k (.int (j : Nat)) l
theorem c_idxD {l : List Dt} {y : Dt} {k : Dt → List Dt → Prop} : mIndexD l [y] k = idxD l y k := propext Iff.rfl
theorem c_isiD_bool : isiB "bool" "dict" = false := by decide
theorem c_isiD_int : isiB "int" "dict" = false := by decide
theorem c_isiD_str : isiB "str" "dict" = false := by decide
theorem c_isiD_tuple : isiB "tuple" "dict" = false := by decide
theorem c_isiD_list : isiB "list" "dict" = false := by decide
theorem c_isiD_NoneType : isiB "NoneType" "dict" = false := by decide
end Cl
theorem L2.Room.units65 {k : Nat} {A : PySem.Around} (r : L2.Room k A) : A.units + 65 < PySem.cLine := by have := r.un; omega

namespace Cl
open PySem PySem.Spec PyProof.Rows L2 RT RZ
/-! ### zip of two lists or tuples, of three tuples -/
def ItzT3 (K : PySem.W.Frag) (a b c : Addr) (xs ys us : List V) : It :=
  ⟨fun i H => (i < xs.length ∧ i < ys.length ∧ i < us.length) ∧ SqT K H a xs ∧ SqT K H b ys ∧ SqT K H c us,
    fun i H v H' => ∃ T x y u, v = .ref T ∧ H T = none ∧ H' = upd H T (.tup [x, y, u]) ∧ xs[i]? = some x ∧ ys[i]? = some y ∧ us[i]? = some u,
    fun i H => (xs.length ≤ i ∨ ys.length ≤ i ∨ us.length ≤ i) ∧ SqT K H a xs ∧ SqT K H b ys ∧ SqT K H c us⟩
theorem turn_zip3T {P : Program} {w : World} {K : PySem.W.Frag} {elts : List Expr} {kk : Nat} {tpos : Pos} {a b c z TI TO i1 i2 i3 : Addr} {xs ys us : List V} (S : ZipSep3 z TI TO i1 i2 i3 [i1, a] [i2, b] [i3, c]) (m1 : a ≠ i1) (m2 : b ≠ i2) (m3 : c ≠ i3) :
    Turn P w K (.Tuple elts kk tpos) (ItzT3 K a b c xs ys us) [z, TI, TO, i1, i2, i3] z (fun i h => IsZip h z TI TO .none ∧ IsTupOf3 h TI (.ref i1) (.ref i2) (.ref i3) ∧ (∃ x y u, IsTupOf3 h TO x y u) ∧ h.IsTupleIter i1 a i ∧ h.IsTupleIter i2 b i ∧ h.IsTupleIter i3 c i ∧ i ≤ xs.length ∧ i ≤ ys.length ∧ i ≤ us.length) where
  mem := by simp
  obj := fun i h st c hc => by
    obtain ⟨hz, hTI, ⟨x, y, u, hTO⟩, ⟨o1, e1, _, d1⟩, ⟨o2, e2, _, d2⟩, ⟨o3, e3, _, d3⟩, _⟩ := st
    have e' : c = z ∨ c = TI ∨ c = TO ∨ c = i1 ∨ c = i2 ∨ c = i3 := by simpa using hc
    rcases e' with q | q | q | q | q | q
    · rw [q]; exact ⟨_, hz, fun v q => nomatch q⟩
    · rw [q]; exact ⟨_, hTI, fun v q => nomatch q⟩
    · rw [q]; exact ⟨_, hTO, fun v q => nomatch q⟩
    · rw [q]; exact ⟨o1, e1, fun v q => by rw [d1] at q; cases q⟩
    · rw [q]; exact ⟨o2, e2, fun v q => by rw [d2] at q; cases q⟩
    · rw [q]; exact ⟨o3, e3, fun v q => by rw [d3] at q; cases q⟩
  keep := fun i h h' st k => by
    obtain ⟨hz, hTI, ⟨x, y, u, hTO⟩, h1, h2, h3, hl⟩ := st
    exact ⟨k z (by simp) _ hz, k TI (by simp) _ hTI, ⟨x, y, u, k TO (by simp) _ hTO⟩, h1.at fun o q => k i1 (by simp) o q, h2.at fun o q => k i2 (by simp) o q, h3.at fun o q => k i3 (by simp) o q, hl⟩
  item := by
    intro X hP hw hK hc i pins s σ H E I hf st hg
    subst hP hw hK
    obtain ⟨hz, hTI, ⟨x0, y0, u0, hTO⟩, h1, h2, h3, _⟩ := st
    obtain ⟨⟨l1, l2, l3⟩, hqx, hqy, hqu⟩ := hg
    obtain ⟨its, rv, p, _⟩ := I.tuple hqx
    obtain ⟨its2, rv2, p2, _⟩ := I.tuple hqy
    obtain ⟨its3, rv3, p3, _⟩ := I.tuple hqu
    have k1 := rv.length
    have k2 := rv2.length
    have k3 := rv3.length
    have hT1 : s.heap.IsTuple a its.toArray := p
    have hT2 : s.heap.IsTuple b its2.toArray := p2
    have hT3 : s.heap.IsTuple c its3.toArray := p3
    have D1 := Draws.tuple (prog := X.prog) (w := X.w) (A := X.A.in1) (I.ok.hd hc) i1 a m1 its.toArray
    have D2 := Draws.tuple (prog := X.prog) (w := X.w) (A := X.A.in1) (I.ok.hd hc) i2 b m2 its2.toArray
    have D3 := Draws.tuple (prog := X.prog) (w := X.w) (A := X.A.in1) (I.ok.hd hc) i3 c m3 its3.toArray
    have hzl : z < s.heap.objs.size := Heap.lt_size hz
    refine wpAny_pyNext_zipD3_item S D1 D2 D3 hz hTI hTO ⟨h1, hT1⟩ ⟨h2, hT2⟩ ⟨h3, hT3⟩ (by simp only [List.size_toArray]; omega) (by simp only [List.size_toArray]; omega) (by simp only [List.size_toArray]; omega) fun u1 u2 u3 h' tk b1 b2 b3 z' TO' s1' s2' s3' hT hsz hk => ?_
    have hu1 : its[i]? = some u1 := by simpa using b1
    have hu2 : its2[i]? = some u2 := by simpa using b2
    have hu3 : its3[i]? = some u3 := by simpa using b3
    obtain ⟨v1, g1, r1⟩ := rv.get (List.getElem?_eq_getElem l1)
    obtain ⟨v2, g2, r2⟩ := rv2.get (List.getElem?_eq_getElem l2)
    obtain ⟨v3, g3, r3⟩ := rv3.get (List.getElem?_eq_getElem l3)
    rw [hu1] at g1
    rw [hu2] at g2
    rw [hu3] at g3
    cases g1
    cases g2
    cases g3
    refine ⟨_, rfl, wpAny_letOwnedTupleGo_zip (s := { s with heap := h', toks := tk }) z' fun h'' z'' sb => ?_⟩
    have hT2 : h''.get? s.heap.objs.size = some { cls := .type "tuple", data := .seq #[u1, u2, u3] } := (sb.2 _ (Nat.ne_of_gt hzl)).trans hT
    have new : ObjOk X.prog X.w (upd H s.heap.objs.size (.tup [xs[i], ys[i], us[i]])) h'' s.heap.objs.size (.tup [xs[i], ys[i], us[i]]) :=
      ⟨by show 3 ≤ sizeLine; decide, [u1, u2, u3], .cons r1 (.cons r2 (.cons r3 .nil)), ⟨_, hT2, rfl, _, rfl⟩⟩
    have I1 : Inv X pins σ (upd H s.heap.objs.size (.tup [xs[i], ys[i], us[i]])) { s with heap := h'', toks := tk } :=
      I.turnedNew (ch := [z, TI, TO, i1, i2, i3]) (fun c o hb q => (sb.2 c (fun q' => hb (by simp [q']))).trans (hk c o (fun q' => hb (by simp [q'])) (fun q' => hb (by simp [q'])) (fun q' => hb (by simp [q'])) (fun q' => hb (by simp [q'])) (fun q' => hb (by simp [q'])) q)) hf (Nat.le_refl _) new
    refine ⟨.ref s.heap.objs.size, _, I1, rfl, ⟨_, _, _, _, rfl, I.hok.fresh (Nat.le_refl _), rfl, List.getElem?_eq_getElem l1, List.getElem?_eq_getElem l2, List.getElem?_eq_getElem l3⟩, ⟨z'', ?_, ⟨u1, u2, u3, ?_⟩, ?_, ?_, ?_, l1, l2, l3⟩, fun c hcm => ?_⟩
    · exact (sb.2 _ S.TIz).trans (hk _ _ S.TIz S.TITO S.TIi1 S.TIi2 S.TIi3 hTI)
    · exact (sb.2 _ S.TOz).trans TO'
    · exact s1'.1.at fun o q => (sb.2 _ S.zi1.symm).trans q
    · exact s2'.1.at fun o q => (sb.2 _ S.zi2.symm).trans q
    · exact s3'.1.at fun o q => (sb.2 _ S.zi3.symm).trans q
    · have hlt : c < s.heap.objs.size := by
        have e' : c = z ∨ c = TI ∨ c = TO ∨ c = i1 ∨ c = i2 ∨ c = i3 := by simpa using hcm
        rcases e' with q | q | q | q | q | q
        · rw [q]; exact hzl
        · rw [q]; exact Heap.lt_size hTI
        · rw [q]; exact Heap.lt_size hTO
        · rw [q]; obtain ⟨_, e1, _⟩ := h1; exact Heap.lt_size e1
        · rw [q]; obtain ⟨_, e2, _⟩ := h2; exact Heap.lt_size e2
        · rw [q]; obtain ⟨_, e3, _⟩ := h3; exact Heap.lt_size e3
      rw [upd_ne (Nat.ne_of_lt hlt)]
      exact (hf c hcm).1
  done := by
    intro X hP hw hK hc i pins s σ H E I hf st hg
    subst hP hw hK
    obtain ⟨hz, hTI, ⟨x0, y0, u0, hTO⟩, h1, h2, h3, l1, l2, l3⟩ := st
    obtain ⟨hend, hqx, hqy, hqu⟩ := hg
    obtain ⟨its, rv, p, _⟩ := I.tuple hqx
    obtain ⟨its2, rv2, p2, _⟩ := I.tuple hqy
    obtain ⟨its3, rv3, p3, _⟩ := I.tuple hqu
    have k1 := rv.length
    have k2 := rv2.length
    have k3 := rv3.length
    have hT1 : s.heap.IsTuple a its.toArray := p
    have hT2 : s.heap.IsTuple b its2.toArray := p2
    have hT3 : s.heap.IsTuple c its3.toArray := p3
    have D1 := Draws.tuple (prog := X.prog) (w := X.w) (A := X.A.in1) (I.ok.hd hc) i1 a m1 its.toArray
    have D2 := Draws.tuple (prog := X.prog) (w := X.w) (A := X.A.in1) (I.ok.hd hc) i2 b m2 its2.toArray
    have D3 := Draws.tuple (prog := X.prog) (w := X.w) (A := X.A.in1) (I.ok.hd hc) i3 c m3 its3.toArray
    refine wpAny_pyNext_zipD3_end S D1 D2 D3 hz hTI hTO ⟨h1, hT1⟩ ⟨h2, hT2⟩ ⟨h3, hT3⟩ (by simp only [List.size_toArray]; omega) (by simp only [List.size_toArray]; omega) (by simp only [List.size_toArray]; omega) (by simp only [List.size_toArray]; omega) fun h' tk hk => ⟨rfl, I.turnedL (ch := [z, TI, TO, i1, i2, i3]) (fun c o hb q =>
      hk c o (fun q' => hb (by simp [q'])) (fun q' => hb (by simp [q'])) (fun q' => hb (by simp [q'])) (fun q' => hb (by simp [q'])) (fun q' => hb (by simp [q'])) q) hf⟩
  self := fun A i s Q E st h => wpAny_pyIter_zip st.1 h
def iZip3 (K : PySem.W.Frag) (ta : TA) : TI := fun σ H R => ta σ H fun vs H1 => ∃ a b c xs ys us, vs = [.ref a, .ref b, .ref c] ∧ SqT K H1 a xs ∧ SqT K H1 b ys ∧ SqT K H1 c us ∧ R (ItzT3 K a b c xs ys us) H1
theorem pi_zip3 {X : Cx} {e e2 e3 : Expr} {ta : TA} {p pos tpos : Pos} {elts : List Expr} {kk : Nat} (hg : Gl X "zip") (hm : X.mg "zip" = none) (ha : PA X [e, e2, e3] ta)
    (hs : starEach [e, e2, e3] X.env = (false, eval e X.env) :: starEach [e2, e3] X.env := by rfl) (hpl : (backTo pos (starEach [e2, e3] X.env)).any (·.1) = false := by rfl) :
    PI X (.Tuple elts kk tpos) (.Call (.Name "zip" p) [e, e2, e3] [] pos) (iZip3 X.K ta) := by
  refine ⟨fun pins s σ H R I h => ?_⟩
  refine Call_ (ld_blt I hg hm PyProof.Rows.boot_zip (PyProof.Rows.callWith_type1 (thn (ha.run pos pins s σ H _ I h) fun us s1 ⟨vs, H1, I1, r1, q1⟩ => ?_) hs hpl))
  obtain ⟨a, b, c, xs, ys, us, ex, hqx, hqy, hqu, q⟩ := q1
  subst ex
  cases r1 with
  | cons r rr =>
    cases rr with
    | cons r' rr =>
      cases rr with
      | cons r'' rr =>
        cases rr
        cases r
        cases r'
        cases r''
        obtain ⟨its, rv, p1, _⟩ := I1.tuple hqx
        obtain ⟨its2, rv2, p2, _⟩ := I1.tuple hqy
        obtain ⟨its3, rv3, p3, _⟩ := I1.tuple hqu
        have la : a < s1.heap.objs.size := by
          obtain ⟨o, ho, _⟩ := id p1
          exact Heap.lt_size ho
        have lb : b < s1.heap.objs.size := by
          obtain ⟨o, ho, _⟩ := id p2
          exact Heap.lt_size ho
        have lc : c < s1.heap.objs.size := by
          obtain ⟨o, ho, _⟩ := id p3
          exact Heap.lt_size ho
        refine zip_begins3 (begins_tuple a its.toArray) (begins_tuple b its2.toArray) (begins_tuple c its3.toArray) p1 p2 p3 fun h' hz hTI hTO h1 h2 h3 hsz hk => wpAny_pyIter_zip hz ?_
        have fresh6 : ∀ c, c ∈ [s1.heap.objs.size + 5, s1.heap.objs.size + 3, s1.heap.objs.size + 4, s1.heap.objs.size, s1.heap.objs.size + 1, s1.heap.objs.size + 2] → FpOk X pins H1 c := fun c hcm => by
          have e' : c = s1.heap.objs.size + 5 ∨ c = s1.heap.objs.size + 3 ∨ c = s1.heap.objs.size + 4 ∨ c = s1.heap.objs.size ∨ c = s1.heap.objs.size + 1 ∨ c = s1.heap.objs.size + 2 := by simpa using hcm
          have hle : s1.heap.objs.size ≤ c := by
            rcases e' with z | z | z | z | z | z
            · rw [z]; exact Nat.le_add_right _ _
            · rw [z]; exact Nat.le_add_right _ _
            · rw [z]; exact Nat.le_add_right _ _
            · rw [z]; exact Nat.le_refl _
            · rw [z]; exact Nat.le_add_right _ _
            · rw [z]; exact Nat.le_add_right _ _
          exact I1.fpOk hle (I1.hok.fresh hle)
        have I2 : Inv X pins σ H1 { s1 with heap := h' } := I1.kept (t' := s1.toks) hk
        exact ⟨s1.heap.objs.size + 5, [s1.heap.objs.size + 5, s1.heap.objs.size + 3, s1.heap.objs.size + 4, s1.heap.objs.size, s1.heap.objs.size + 1, s1.heap.objs.size + 2], _, _, H1, rfl, I2,
          turn_zip3T (xs := xs) (ys := ys) (us := us) (zip_sep3 (fp1 := [a]) (fp2 := [b]) (fp3 := [c]) (by simpa using la) (by simpa using lb) (by simpa using lc)) (Nat.ne_of_lt la) (Nat.ne_of_lt (Nat.lt_succ_of_lt lb)) (Nat.ne_of_lt (Nat.lt_succ_of_lt (Nat.lt_succ_of_lt lc))),
          ⟨hz, hTI, ⟨_, _, _, hTO⟩, ⟨_, h1, rfl, rfl⟩, ⟨_, h2, rfl, rfl⟩, ⟨_, h3, rfl, rfl⟩, Nat.zero_le _, Nat.zero_le _, Nat.zero_le _⟩, fresh6, q⟩
variable {X : Cx} {PL : PoolP}
def zip2D (l m : List Dt) : List Dt := List.zipWith (fun a b => .tup [a, b]) l m
def zip3D (l m n : List Dt) : List Dt := List.zipWith (fun (p : Dt × Dt) c => .tup [p.1, p.2, c]) (l.zip m) n
theorem zip2D_len (l m : List Dt) : (zip2D l m).length = min l.length m.length := List.length_zipWith
theorem zip3D_len (l m n : List Dt) : (zip3D l m n).length = min (min l.length m.length) n.length := by
  unfold zip3D
  rw [List.length_zipWith, List.length_zip]
theorem zip2D_get {l m : List Dt} {i : Nat} {a b : Dt} (h1 : l[i]? = some a) (h2 : m[i]? = some b) : (zip2D l m)[i]? = some (.tup [a, b]) := by
  unfold zip2D
  rw [List.getElem?_zipWith, h1, h2]
theorem zip3D_get {l m n : List Dt} {i : Nat} {a b c : Dt} (h1 : l[i]? = some a) (h2 : m[i]? = some b) (h3 : n[i]? = some c) : (zip3D l m n)[i]? = some (.tup [a, b, c]) := by
  unfold zip3D
  have h : (l.zip m)[i]? = some (a, b) := by
    rw [List.getElem?_zip_eq_some]
    exact ⟨h1, h2⟩
  rw [List.getElem?_zipWith, h, h3]
def zipQ2 (a b : Dt) (Q : List Dt → Prop) : Prop := (∃ l m, a = .tup l ∧ b = .tup m ∧ Q (zip2D l m)) ∨ (∃ l m, a = .lst l ∧ b = .lst m ∧ Q (zip2D l m))
def zipQ3 (a b c : Dt) (Q : List Dt → Prop) : Prop := ∃ l m n, a = .tup l ∧ b = .tup m ∧ c = .tup n ∧ Q (zip3D l m n)
def twoD {α : Type} (ds : List α) (P : α → α → Prop) : Prop := ∃ a b, ds = [a, b] ∧ P a b
def threeD {α : Type} (ds : List α) (P : α → α → α → Prop) : Prop := ∃ a b c, ds = [a, b, c] ∧ P a b c
theorem c_twoD {α : Type} {a b : α} {P : α → α → Prop} : twoD [a, b] P = P a b := propext ⟨fun ⟨_, _, e, h⟩ => by cases e; exact h, fun h => ⟨_, _, rfl, h⟩⟩
theorem c_threeD {α : Type} {a b c : α} {P : α → α → α → Prop} : threeD [a, b, c] P = P a b c := propext ⟨fun ⟨_, _, _, e, h⟩ => by cases e; exact h, fun h => ⟨_, _, _, rfl, h⟩⟩
theorem c_zip2t {l m : List Dt} {Q : List Dt → Prop} : zipQ2 (.tup l) (.tup m) Q = Q (zip2D l m) := by
  refine propext ⟨fun h => ?_, fun h => .inl ⟨_, _, rfl, rfl, h⟩⟩
  rcases h with ⟨_, _, e1, e2, h⟩ | ⟨_, _, e1, e2, h⟩
  · cases e1
    cases e2
    exact h
  · cases e1
theorem c_zip2l {l m : List Dt} {Q : List Dt → Prop} : zipQ2 (.lst l) (.lst m) Q = Q (zip2D l m) := by
  refine propext ⟨fun h => ?_, fun h => .inr ⟨_, _, rfl, rfl, h⟩⟩
  rcases h with ⟨_, _, e1, e2, h⟩ | ⟨_, _, e1, e2, h⟩
  · cases e1
  · cases e1
    cases e2
    exact h
theorem c_zip3t {l m n : List Dt} {Q : List Dt → Prop} : zipQ3 (.tup l) (.tup m) (.tup n) Q = Q (zip3D l m n) := propext ⟨fun ⟨_, _, _, e1, e2, e3, h⟩ => by cases e1; cases e2; cases e3; exact h, fun h => ⟨_, _, _, rfl, rfl, rfl, h⟩⟩
theorem pair_yld {K : PySem.W.Frag} {B : Hp} {l m : List Dt} {i : Nat} {H H' : Hp} {v : V} {T : Addr} {x y : V} {d e : Dt} (hd : l[i]? = some d) (he : m[i]? = some e) (r1 : Rep K B d x) (r2 : Rep K B e y) (hx : v = .ref T) (hT : H T = none) (hH : H' = upd H T (.tup [x, y])) {G : Ent} {B1 : Hp} {c : CEnv} {σ : L2.St} (e1 : Same B B1) (hc : Conc K PL G B1 c σ H) :
    ∃ B2 d, (zip2D l m)[i]? = some d ∧ Same B1 B2 ∧ Conc K PL G B2 c σ H' ∧ Rep K B2 d v := by
  subst hx hH
  have r : RepL K B1 [d, e] [x, y] := .cons (r1.mono e1) (.one (r2.mono e1))
  obtain ⟨e2, cr⟩ := conc_tup (PL := PL) hc hT r
  exact ⟨_, _, zip2D_get hd he, e2, cr.1, cr.2⟩
theorem items_zipL {K : PySem.W.Frag} {B : Hp} {a b : Addr} {xs ys : List V} {ds es : List Dt} (h : SqL K B a xs) (r : RepL K B ds xs) (h2 : SqL K B b ys) (r2 : RepL K B es ys) : ItemsOf K PL B (Itz K a b) (zip2D ds es) where
  go := fun i H e hi => by
    rw [zip2D_len] at hi
    have l1 := r.length
    have l2 := r2.length
    exact ⟨xs, ys, xs[i]'(by omega), ys[i]'(by omega), e.seq h, e.seq h2, by simp, by simp⟩
  stop := fun H e => ⟨xs, ys, e.seq h, e.seq h2, by rw [zip2D_len, r.length, r2.length]; omega⟩
  yld := fun i H x H' hi y G B1 c σ e1 hc => by
    obtain ⟨T, x1, y1, h1, h3, h4, h5, h6⟩ := y
    obtain ⟨d, f1, f2⟩ := r.getV (h5 xs ((e1.trans hc.same).seq h))
    obtain ⟨d', g1, g2⟩ := r2.getV (h6 ys ((e1.trans hc.same).seq h2))
    exact pair_yld f1 g1 f2 g2 h1 h3 h4 e1 hc
theorem items_zipT {K : PySem.W.Frag} {B : Hp} {a b : Addr} {xs ys : List V} {ds es : List Dt} (h : SqT K B a xs) (r : RepL K B ds xs) (h2 : SqT K B b ys) (r2 : RepL K B es ys) : ItemsOf K PL B (ItzT K a b) (zip2D ds es) where
  go := fun i H e hi => by
    rw [zip2D_len] at hi
    have l1 := r.length
    have l2 := r2.length
    exact ⟨xs, ys, xs[i]'(by omega), ys[i]'(by omega), sameT e h, sameT e h2, by simp, by simp⟩
  stop := fun H e => ⟨xs, ys, sameT e h, sameT e h2, by rw [zip2D_len, r.length, r2.length]; omega⟩
  yld := fun i H x H' hi y G B1 c σ e1 hc => by
    obtain ⟨T, x1, y1, h1, h3, h4, h5, h6⟩ := y
    obtain ⟨d, f1, f2⟩ := r.getV (h5 xs (sameT (e1.trans hc.same) h))
    obtain ⟨d', g1, g2⟩ := r2.getV (h6 ys (sameT (e1.trans hc.same) h2))
    exact pair_yld f1 g1 f2 g2 h1 h3 h4 e1 hc
theorem items_zip3 {K : PySem.W.Frag} {B : Hp} {a b c : Addr} {xs ys us : List V} {ds es fs : List Dt} (h : SqT K B a xs) (r : RepL K B ds xs) (h2 : SqT K B b ys) (r2 : RepL K B es ys) (h3 : SqT K B c us) (r3 : RepL K B fs us) : ItemsOf K PL B (ItzT3 K a b c xs ys us) (zip3D ds es fs) where
  go := fun i H e hi => by
    rw [zip3D_len] at hi
    have l1 := r.length
    have l2 := r2.length
    have l3 := r3.length
    exact ⟨⟨by omega, by omega, by omega⟩, sameT e h, sameT e h2, sameT e h3⟩
  stop := fun H e => ⟨by rw [zip3D_len, r.length, r2.length, r3.length]; omega, sameT e h, sameT e h2, sameT e h3⟩
  yld := fun i H x H' hi y G B1 c σ e1 hc => by
    obtain ⟨T, x1, y1, u1, rfl, k2, rfl, k4, k5, k6⟩ := y
    obtain ⟨d, f1, f2⟩ := r.getV k4
    obtain ⟨d', g1, g2⟩ := r2.getV k5
    obtain ⟨d'', j1, j2⟩ := r3.getV k6
    have rr : RepL K B1 [d, d', d''] [x1, y1, u1] := .cons (f2.mono e1) (.cons (g2.mono e1) (.one (j2.mono e1)))
    obtain ⟨e2, cr⟩ := conc_tup (PL := PL) hc k2 rr
    exact ⟨_, _, zip3D_get f1 g1 j1, e2, cr.1, cr.2⟩
def dZip2 (da : DL) : DI := fun c Q => da c fun ds c1 => twoD ds fun a b => zipQ2 a b fun l => Q l c1
def dZip3 (da : DL) : DI := fun c Q => da c fun ds c1 => threeD ds fun a b e => zipQ3 a b e fun l => Q l c1
theorem e_dZip2 {da : DL} {c : CEnv} {Q : List Dt → CEnv → Prop} : dZip2 da c Q = (da c fun ds c1 => twoD ds fun a b => zipQ2 a b fun l => Q l c1) := propext Iff.rfl
theorem e_dZip3 {da : DL} {c : CEnv} {Q : List Dt → CEnv → Prop} : dZip3 da c Q = (da c fun ds c1 => threeD ds fun a b e => zipQ3 a b e fun l => Q l c1) := propext Iff.rfl
theorem repL2 {K : PySem.W.Frag} {B : Hp} {a b : Dt} {vs : List V} (h : RepL K B [a, b] vs) : ∃ x y, vs = [x, y] ∧ Rep K B a x ∧ Rep K B b y := by
  unfold RepL at h
  obtain ⟨v, r, h1, h2, h3⟩ := h
  obtain ⟨y, rfl, h⟩ := repL1 h3
  exact ⟨_, _, h1, h2, h⟩
theorem repL3 {K : PySem.W.Frag} {B : Hp} {a b c : Dt} {vs : List V} (h : RepL K B [a, b, c] vs) : ∃ x y z, vs = [x, y, z] ∧ Rep K B a x ∧ Rep K B b y ∧ Rep K B c z := by
  unfold RepL at h
  obtain ⟨v, r, h1, h2, h3⟩ := h
  obtain ⟨y, z, rfl, h, h'⟩ := repL2 h3
  exact ⟨_, _, _, h1, h2, h, h'⟩
theorem qi_zip2 {e e2 : Expr} {da : DL} {p pos tpos : Pos} {elts : List Expr} {kk : Nat} (ha : QL X PL [e, e2] da) (hg : Gl X "zip") (hm : X.mg "zip" = none)
    (hs : starEach [e, e2] X.env = (false, eval e X.env) :: starEach [e2] X.env := by rfl) (hpl : (backTo pos (starEach [e2] X.env)).any (·.1) = false := by rfl) :
    QI X PL (.Tuple elts kk tpos) (.Call (.Name "zip" p) [e, e2] [] pos) (dZip2 da) := by
  refine qi_of (pi_zipA hg hm ha.pa hs hpl) fun G B c σ H Qd R hc hd2 hq => ?_
  refine ⟨G, B, c, _, hc, hd2, fun ds c1 B1 H1 vs g1 e1 hc1 rl => ?_⟩
  obtain ⟨d, d', rfl, g1⟩ := g1
  obtain ⟨v, v', rfl, rv, rv'⟩ := repL2 rl
  rcases g1 with ⟨l, m, rfl, rfl, g1⟩ | ⟨l, m, rfl, rfl, g1⟩
  · unfold Rep at rv rv'
    obtain ⟨a, xs, rfl, q1, q2⟩ := rv
    obtain ⟨a', xs', rfl, q1', q2'⟩ := rv'
    exact ⟨a, a', xs, xs', rfl, .inr ⟨sameT hc1.same q1, sameT hc1.same q1', hq _ _ B1 _ _ g1 e1 hc1 (items_zipT q1 q2 q1' q2')⟩⟩
  · unfold Rep at rv rv'
    obtain ⟨a, xs, rfl, q1, q2⟩ := rv
    obtain ⟨a', xs', rfl, q1', q2'⟩ := rv'
    exact ⟨a, a', xs, xs', rfl, .inl ⟨.of (hc1.same _ _ q1), .of (hc1.same _ _ q1'), hq _ _ B1 _ _ g1 e1 hc1 (items_zipL (.of q1) q2 (.of q1') q2')⟩⟩
theorem qi_zip3 {e e2 e3 : Expr} {da : DL} {p pos tpos : Pos} {elts : List Expr} {kk : Nat} (ha : QL X PL [e, e2, e3] da) (hg : Gl X "zip") (hm : X.mg "zip" = none)
    (hs : starEach [e, e2, e3] X.env = (false, eval e X.env) :: starEach [e2, e3] X.env := by rfl) (hpl : (backTo pos (starEach [e2, e3] X.env)).any (·.1) = false := by rfl) :
    QI X PL (.Tuple elts kk tpos) (.Call (.Name "zip" p) [e, e2, e3] [] pos) (dZip3 da) := by
  refine qi_of (pi_zip3 hg hm ha.pa hs hpl) fun G B c σ H Qd R hc hd2 hq => ?_
  refine ⟨G, B, c, _, hc, hd2, fun ds c1 B1 H1 vs g1 e1 hc1 rl => ?_⟩
  obtain ⟨d, d', d'', rfl, g1⟩ := g1
  obtain ⟨v, v', v'', rfl, rv, rv', rv''⟩ := repL3 rl
  obtain ⟨l, m, n, rfl, rfl, rfl, g1⟩ := g1
  unfold Rep at rv rv' rv''
  obtain ⟨a, xs, rfl, q1, q2⟩ := rv
  obtain ⟨a', xs', rfl, q1', q2'⟩ := rv'
  obtain ⟨a'', xs'', rfl, q1'', q2''⟩ := rv''
  exact ⟨a, a', a'', xs, xs', xs'', rfl, sameT hc1.same q1, sameT hc1.same q1', sameT hc1.same q1'', hq _ _ B1 _ _ g1 e1 hc1 (items_zip3 q1 q2 q1' q2' q1'' q2'')⟩
end Cl

namespace Cl
open PySem PySem.Spec PyProof.Rows L2
variable {X : Cx} {PL : PoolP} {K : PySem.W.Frag}
/-! ### + where a tuple may be empty -/
def fAddT : OpF
  | .int i, .int j, k => k (.dat (.int (i + j)))
  | .str s, .str t, k => s.length + t.length ≤ 10000000 ∧ k (.dat (.str (s ++ t)))
  | .lst l, .lst m, k => l.length + m.length ≤ 10000000 ∧ k (.new (.lst (l ++ m)))
  | .tup l, .tup m, k => l.length + m.length ≤ 10000000 ∧ k (.dat (.tup (l ++ m)))
  | _, _, _ => False
def rAddT (K : PySem.W.Frag) : R2 := fun x y H Q => rAdd K x y H Q ∨ rCatA K x y H Q
theorem opr_addT {X : Cx} : OpR X (binaryOp .Add) (rAddT X.K) := OpR.or opr_add op_catA
theorem opd_addT : OpD K PL (rAddT K) fAddT := by
  intro G B c σ H x y v u k Q hc rx ry hf hq
  cases x with
  | int i =>
    cases y with
    | int j => exact .inl (opd_add G B c σ H _ _ v u k Q hc rx ry hf hq)
    | _ => exact hf.elim
  | str s =>
    cases y with
    | str t => exact .inl (opd_add G B c σ H _ _ v u k Q hc rx ry hf hq)
    | _ => exact hf.elim
  | lst l =>
    cases y with
    | lst m => exact .inl (opd_add G B c σ H _ _ v u k Q hc rx ry hf hq)
    | _ => exact hf.elim
  | tup l =>
    cases y with
    | tup m =>
      obtain ⟨h1, h2⟩ := hf
      obtain ⟨a, xs, rfl, e1, e2⟩ := rx
      obtain ⟨b, ys, rfl, e3, e4⟩ := ry
      refine .inr ⟨a, b, xs, ys, rfl, rfl, sameT hc.same e1, sameT hc.same e3, by rw [e2.length, e4.length]; exact sz7 h1, fun z => ?_, fun z1 z => ?_, fun _ z p hp => ?_⟩
      · have hm : l = [] := by
          have := e2.length
          rw [z] at this
          exact List.length_eq_zero_iff.mp this.symm
        subst hm
        rw [List.nil_append] at h2
        exact hq _ _ B H h2 (Same.refl B) ⟨hc, by unfold Rep; exact ⟨b, ys, rfl, e3, e4⟩⟩
      · have hm : m = [] := by
          have := e4.length
          rw [z] at this
          exact List.length_eq_zero_iff.mp this.symm
        subst hm
        subst z
        rw [List.append_nil] at h2
        exact hq _ _ B H h2 (Same.refl B) ⟨hc, by unfold Rep; exact ⟨a, xs, rfl, e1, e2⟩⟩
      · obtain ⟨h3, h4⟩ := conc_tup hc hp (e2.app e4)
        exact hq _ _ _ _ h2 h3 h4
    | _ => exact hf.elim
  | _ => exact hf.elim
theorem c_addT_int {k : Res → Prop} {i j : Int} : fAddT (.int i) (.int j) k = k (.dat (.int (i + j))) := propext Iff.rfl
theorem c_addT_str {k : Res → Prop} {s t : List Nat} : fAddT (.str s) (.str t) k = (s.length + t.length ≤ 10000000 ∧ k (.dat (.str (s ++ t)))) := propext Iff.rfl
theorem c_addT_lst {k : Res → Prop} {l m : List Dt} : fAddT (.lst l) (.lst m) k = (l.length + m.length ≤ 10000000 ∧ k (.new (.lst (l ++ m)))) := propext Iff.rfl
theorem c_addT_tup {k : Res → Prop} {l m : List Dt} : fAddT (.tup l) (.tup m) k = (l.length + m.length ≤ 10000000 ∧ k (.dat (.tup (l ++ m)))) := propext Iff.rfl
/-! ### slices where a tuple's may be the whole -/
def fSlT (x : Dt) (lo hi : Option Int) (k : Res → Prop) : Prop := match x with
  | .lst l => k (.new (.lst (cut l lo hi)))
  | .tup l => k (.dat (.tup (cut l lo hi)))
  | .str s => s.length ≤ 10000000 ∧ k (.dat (.str (cut s lo hi)))
  | _ => False
theorem c_slT_lst {k : Res → Prop} {l : List Dt} {a b : Option Int} : fSlT (.lst l) a b k = k (.new (.lst (cut l a b))) := propext Iff.rfl
theorem c_slT_tup {k : Res → Prop} {l : List Dt} {a b : Option Int} : fSlT (.tup l) a b k = k (.dat (.tup (cut l a b))) := propext Iff.rfl
theorem c_slT_str {k : Res → Prop} {l : List Nat} {a b : Option Int} : fSlT (.str l) a b k = (l.length ≤ 10000000 ∧ k (.dat (.str (cut l a b)))) := propext Iff.rfl
def dSlT (da : DE) (dl dh : CEnv → (Option Int → CEnv → Prop) → Prop) : DE := fun c Q => da c fun r c1 => dl c1 fun lo c2 => dh c2 fun hi c3 => on1 (hd r) c3 fun x => fSlT x lo hi fun z => Q z c3
theorem e_dSlT {da : DE} {dl dh : CEnv → (Option Int → CEnv → Prop) → Prop} {c : CEnv} {Q : Res → CEnv → Prop} : dSlT da dl dh c Q = (da c fun r c1 => dl c1 fun lo c2 => dh c2 fun hi c3 => on1 (hd r) c3 fun x => fSlT x lo hi fun z => Q z c3) := propext Iff.rfl
theorem cut_whole {α : Type} {l : List α} {lo hi : Option Int} (h : HT.sIx l.length 0 lo = 0 ∧ HT.sIx l.length l.length hi = l.length) : cut l lo hi = l := by
  unfold cut
  rw [h.1, h.2, List.drop_zero, Nat.sub_zero, List.take_length]
theorem qe_slT {e : Expr} {lo hi : Option Expr} {p2 pos : Pos} {da : DE} {dl dh : CEnv → (Option Int → CEnv → Prop) → Prop} (h : QE X PL e da) (h1 : QO X PL lo dl) (h2 : QO X PL hi dh) : QE X PL (.Subscript e (.Slice lo hi none p2) pos) (dSlT da dl dh) := by
  refine q_of (pe_slice (SlR.or sl_list (SlR.or sl_tupA sl_str)) h.pe h1.po h2.po) fun G B c σ H Qd Q hc hd2 hq => ?_
  refine ⟨G, B, c, _, hc, hd2, fun r c1 B1 H1 v g1 e1 cr => ?_⟩
  obtain ⟨B2, e2, hc2, hh⟩ := cr.hold
  refine ⟨G, B2, c1, _, hc2, g1, fun o1 c2 B3 H2 g2 e3 hc3 => ?_⟩
  refine ⟨G, B3, c2, _, hc3, g2, fun o2 c3 B4 H3 g3 e4 hc4 => ?_⟩
  obtain ⟨x, rx, hf⟩ := on1_ok hc4 (hh.mono (e3.trans e4)) g3
  have ee : Same B B4 := ((e1.trans e2).trans e3).trans e4
  cases x with
  | lst l =>
    obtain ⟨a, xs, rfl, q1, q2⟩ := rx
    exact .inl ⟨a, xs, rfl, .of q1, fun p hp => hq _ _ B4 _ _ hf ee (conc_lst hc4 hp (cut_rep q2 _ _))⟩
  | tup l =>
    obtain ⟨a, xs, rfl, q1, q2⟩ := rx
    refine .inr (.inl ⟨a, xs, rfl, sameT hc4.same q1, fun z => ?_, fun _ p hp => ?_⟩)
    · rw [q2.length] at z
      have hf : Qd (.dat (.tup (cut l o1 o2))) c3 := hf
      rw [cut_whole z] at hf
      exact hq _ _ _ _ _ hf ee ⟨hc4, by unfold Rep; exact ⟨a, xs, rfl, q1, q2⟩⟩
    · obtain ⟨e5, cr5⟩ := conc_tup hc4 hp (cut_rep q2 o1 o2)
      exact hq _ _ _ _ _ hf (ee.trans e5) cr5
  | str s =>
    have q : v = .str (S s) := rx
    subst q
    obtain ⟨f1, f2⟩ := hf
    refine .inr (.inr ⟨S s, rfl, by rw [S_len]; exact sz7 f1, hq _ _ B4 _ _ f2 ee ⟨hc4, ?_⟩⟩)
    unfold Rep cutS cut
    rw [S_len]
    rfl
  | _ => exact hf.elim
/-! ### x is not True, x is not False, x a bool -/
def fNtB (v : Bool) : OpF := fun x y k => y = .bl v ∧ ∃ b, x = .bl b ∧ k (.dat (.bl (b != v)))
theorem opd_ntB {v : Bool} : OpD K PL (fun x y H Q => ∃ a b, x = .bl a ∧ y = .bl b ∧ Q (.bl (!decide (a = b))) H) (fNtB v) := by
  intro G B c σ H x y a u k Q hc rx ry hf hq
  obtain ⟨rfl, b, rfl, hf⟩ := hf
  exact ⟨b, v, rx, ry, hq _ _ B H hf (Same.refl B) ⟨hc, by unfold Rep; cases b <;> cases v <;> rfl⟩⟩
theorem c_ntB {k : Res → Prop} {b v : Bool} : fNtB v (.bl b) (.bl v) k = k (.dat (.bl (b != v))) := propext ⟨fun ⟨_, _, e, h⟩ => by cases e; exact h, fun h => ⟨rfl, _, rfl, h⟩⟩
end Cl

namespace Cl
open PySem PySem.Spec PyProof.Rows L2 HT
/-! ### t[::-1], t a tuple or a list -/
section
variable {prog : Program} {w : World} {A : Around} {E : Value → Shared → Prop} {s : Shared}
theorem rev_applied {sl : Addr} {vl vu vs : Value} {n : Nat} {Q : Int × Int × Nat → Shared → Prop} (hs : s.heap.IsSliceOf sl vl vu vs) (pl : IsPart vl none) (pu : IsPart vu none) (ps : IsPart vs (some (-1)))
    (h : Q ((n : Int) - 1, -1, n) s) : wpAny (model prog w) A (Builtin.Slice.sliceApplied (.ref sl) (pure (n : Int))) Q E s := by
  obtain ⟨os, hos, hcs, hds⟩ := id hs
  unfold Builtin.Slice.sliceApplied Builtin.Slice.sliceFields
  refine wpAny_bind (wpAny_bind (wpAny_field hos hds (x := vl) rfl (wpAny_bind (wpAny_field hos hds (x := vu) rfl (wpAny_bind (wpAny_field hos hds (x := vs) rfl (wpAny_pure ?_)))))))
  refine wpAny_bind (slicePart_ ps ?_)
  show wpAny _ _ (if ((-1 : Int) == 0) = true then _ else _) _ _ s
  rw [if_neg (by decide)]
  refine wpAny_bind (slicePart_ pl (wpAny_bind (slicePart_ pu (wpAny_bind (wpAny_pure ?_)))))
  have e1 : Builtin.Slice.sliceAdjust none none (-1) (n : Int) = ((n : Int) - 1, -1) := rfl
  have e2 : Builtin.Slice.slicePlaces ((n : Int) - 1) (-1) (-1) = n := by
    unfold Builtin.Slice.slicePlaces
    rw [if_neg (by decide)]
    by_cases q : (n : Int) - 1 > -1
    · rw [if_pos q, show (- -1 : Int) = 1 by decide, Int.ediv_one]
      omega
    · rw [if_neg q]
      omega
  show wpAny _ _ (match Builtin.Slice.sliceAdjust none none (-1) (n : Int) with | (lo, hi) => pure (lo, (-1 : Int), Builtin.Slice.slicePlaces lo hi (-1))) _ _ s
  rw [e1]
  show wpAny _ _ (pure ((n : Int) - 1, (-1 : Int), Builtin.Slice.slicePlaces ((n : Int) - 1) (-1) (-1))) _ _ s
  rw [e2]
  exact wpAny_pure h
theorem fm_congr {α β : Type} {f g : α → Option β} : ∀ {l : List α}, (∀ x ∈ l, f x = g x) → l.filterMap f = l.filterMap g
  | [], _ => rfl
  | a :: l, h => by
    rw [List.filterMap_cons, List.filterMap_cons, h a (List.mem_cons_self ..), fm_congr fun x hx => h x (List.mem_cons_of_mem _ hx)]
theorem rev_pick (xs : Array Value) : ((List.range xs.size).filterMap fun (m : Nat) => xs[(((xs.size : Int) - 1) + (m : Int) * (-1)).toNat]?).toArray = xs.toList.reverse.toArray := by
  have e : (List.range xs.size).filterMap (fun (m : Nat) => xs[(((xs.size : Int) - 1) + (m : Int) * (-1)).toNat]?) = ((List.range xs.size).map fun k => xs.size - 1 - k).filterMap (xs[·]?) := by
    rw [List.filterMap_map]
    refine fm_congr fun m hm => ?_
    have hm := List.mem_range.mp hm
    show _ = xs[xs.size - 1 - m]?
    congr 1
    omega
  rw [e, PySem.W.krv_range, List.filterMap_reverse, PySem.W.krv_all]
theorem getItem_tuple_rev {t sl : Addr} {items : Array Value} {vl vu vs : Value} {Q : Value → Shared → Prop} (ht : IsTup s.heap t items) (hs : s.heap.IsSliceOf sl vl vu vs) (pl : IsPart vl none) (pu : IsPart vu none) (ps : IsPart vs (some (-1)))
    (h : Q (.ref s.heap.objs.size) { s with heap := s.heap.push { cls := .type "tuple", data := .seq items.toList.reverse.toArray } })
    (hsz : items.size ≤ sizeLine) : wpAny (model prog w) A (getItem (.ref t) (.ref sl)) Q E s := by
  have htake : sizeOk (.seq items.toList.reverse.toArray) := by
    show items.toList.reverse.toArray.size ≤ sizeLine
    rw [List.size_toArray, List.length_reverse, Array.length_toList]
    exact hsz
  obtain ⟨os, hos, hcs, hds⟩ := id hs
  have hTs : s.TypeIs (.ref sl) "slice" := ⟨os, hos, hcs⟩
  unfold getItem
  try with_reducible refine wpAny_holding ?_
  first | refine wpAny_bind (wpAny_pure ?_) | skip
  refine wpAny_bind (wpAny_sequenceKey ht.typeIs (by decide) ?_)
  refine wpAny_bind (wpAny_callSpecial?_slot (name := Str.ofString "__getitem__") ht.typeIs PyProof.Rows.slot_tuple_getitem
    (wpAny_call_entry PyProof.Rows.slot_tuple_getitem ht.typeIs entry_tuple_getitem ?_ (args_tuple_getitem _ _)))
  show wpAny _ _ (Builtin.Tuple.tupleItemsOf (.ref t) >>= _) _ _ s
  refine wpAny_bind (tupleItemsOf_ ht ?_)
  refine wpAny_bind (wpAny_typeOf hTs ?_)
  rw [if_pos (by decide)]
  refine wpAny_bind (rev_applied hs pl pu ps ?_)
  show wpAny _ _ (if (((items.size : Int) - 1) == 0 && (-1 : Int) == 1 && items.size == items.size) = true then _ else _) _ _ s
  rw [if_neg (by intro q; rw [Bool.and_eq_true, Bool.and_eq_true] at q; exact absurd q.1.2 (by decide)), rev_pick]
  first
    | exact wpAny_bind (m := Builtin.Tuple.tupleExact _) (wpAny_newObj_type (wpAny_pure ⟨_, rfl, wpAny_pure h⟩) htake)
    | exact wpAny_bind (m := Builtin.Tuple.tupleExact _) (wpAny_newObj_type (wpAny_bind (wpAny_pure (wpAny_pure ⟨_, rfl, wpAny_pure h⟩))) htake)
    | exact wpAny_bind (wpAny_bind (m := Builtin.Tuple.tupleExact _) (wpAny_newObj_type (wpAny_pure (wpAny_pure ⟨_, rfl, wpAny_pure h⟩)) htake))
    | exact wpAny_bind (wpAny_bind (m := Builtin.Tuple.tupleExact _) (wpAny_newObj_type (wpAny_pure ⟨_, rfl, wpAny_pure h⟩) htake))
end
variable {X : Cx} {PL : PoolP}
def tRevT (K : PySem.W.Frag) (te : TE) : TE := fun σ H Q => te σ H fun x H1 => ∃ a xs, x = .ref a ∧ SqT K H1 a xs ∧ ∀ p, H1 p = none → Q (.ref p) (upd H1 p (.tup xs.reverse))
theorem pe_revT {e : Expr} {te : TE} {k : Nat} {p1 p2 p3 pos : Pos} (he : PE X e te) : PE X (.Subscript e (.Slice none none (some (.UnaryOp .USub (.Constant (.int 1) k p1) p2)) p3) pos) (tRevT X.K te) := by
  refine ⟨fun pins s σ H Q I h => ?_⟩
  refine Subscript_ (thn (he.run pins s σ H _ I h) fun v s1 ⟨x, H1, I1, r1, q1⟩ => ?_)
  obtain ⟨a, xs, ex, hx, q⟩ := q1
  subst ex
  cases r1
  have hst : PO X (some (.UnaryOp .USub (.Constant (.int 1) k p1) p2)) (tPart (tUn (rU fun i => .int (-i)) (tC (.int 1)))) := po_some (pe_un un_neg pe_int)
  refine wpAny_Slice (thn (po_none.run pins s1 σ H1 (fun o H2 => o = none ∧ H2 = H1) I1 ⟨rfl, rfl⟩) fun vl s2 ⟨l, H2, I2, pl, el, e2⟩ => ?_)
  subst el e2
  refine thn (po_none.run pins s2 σ H2 (fun o H3 => o = none ∧ H3 = H2) I2 ⟨rfl, rfl⟩) fun vu s3 ⟨u, H3, I3, pu, eu, e3⟩ => ?_
  subst eu e3
  refine thn (hst.run pins s3 σ H3 (fun o H4 => o = some (-1) ∧ H4 = H3) I3 ⟨1, rfl, -1, rfl, rfl, rfl⟩) fun vs s4 ⟨o, H4, I4, ps, eo, e4⟩ => ?_
  subst eo e4
  have I5 : Inv X pins σ H4 { s4 with heap := s4.heap.push { cls := .type "slice", data := .fields #[vl, vu, vs] } } := I4.kept (t' := s4.toks) fun b ob q => Heap.get?_push_of_some _ q
  obtain ⟨its, r, ht, hz⟩ := I5.tuple hx
  have hlen := r.length
  show wpAny (model X.prog X.w) X.A (subscriptTail e (.Slice none none (some (.UnaryOp .USub (.Constant (.int 1) k p1) p2)) p3) (.ref a) (.ref s4.heap.objs.size)) (EP X pins σ Q) X.xe { s4 with heap := s4.heap.push { cls := .type "slice", data := .fields #[vl, vu, vs] } }
  refine tail_any (ops := [.ref a, .ref s4.heap.objs.size]) ht.typeIs (PyProof.Rows.slot_tuple_getitem.lookup) ?_ (by with_unfolding_all rfl)
  refine getItem_tuple_rev ht (Heap.IsSliceOf.new _ vl vu vs) pl pu ps ?_ (by rw [List.size_toArray]; omega)
  refine ⟨.ref _, _, I5.laid (t' := s4.toks) (o := .tup xs.reverse) (fun b ob q => Heap.get?_push_of_some _ q) (Nat.le_refl _) ?_, rfl, q _ (I5.hok.fresh (Nat.le_refl _))⟩
  exact ⟨by rw [List.length_reverse]; exact hz, _, r.reverse, IsTup.new _ _⟩
def fRvT (x : Dt) (k : Res → Prop) : Prop := ∃ l, x = .tup l ∧ k (.dat (.tup l.reverse))
def dRvT (da : DE) : DE := fun c Q => da c fun r c1 => on1 (hd r) c1 fun x => fRvT x fun z => Q z c1
theorem e_dRvT {da : DE} {c : CEnv} {Q : Res → CEnv → Prop} : dRvT da c Q = (da c fun r c1 => on1 (hd r) c1 fun x => fRvT x fun z => Q z c1) := propext Iff.rfl
theorem c_rvT {l : List Dt} {k : Res → Prop} : fRvT (.tup l) k = k (.dat (.tup l.reverse)) := propext ⟨fun ⟨_, e, h⟩ => by cases e; exact h, fun h => ⟨_, rfl, h⟩⟩
theorem repL_rev {K : PySem.W.Frag} {B : Hp} : ∀ {l : List Dt} {xs : List V}, RepL K B l xs → RepL K B l.reverse xs.reverse
  | [], xs, h => by
    unfold RepL at h
    subst h
    unfold RepL
    rfl
  | d :: l, xs, h => by
    unfold RepL at h
    obtain ⟨x, r, rfl, h2, h3⟩ := h
    rw [List.reverse_cons, List.reverse_cons]
    exact (repL_rev h3).app (.one h2)
theorem qe_rvT {e : Expr} {k : Nat} {p1 p2 p3 pos : Pos} {da : DE} (h : QE X PL e da) : QE X PL (.Subscript e (.Slice none none (some (.UnaryOp .USub (.Constant (.int 1) k p1) p2)) p3) pos) (dRvT da) := by
  refine q_of (pe_revT h.pe) fun G B c σ H Qd Q hc hd2 hq => ?_
  refine ⟨G, B, c, _, hc, hd2, fun r c1 B1 H1 v g1 e1 cr => ?_⟩
  obtain ⟨B2, e2, hc2, hh⟩ := cr.hold
  obtain ⟨x, rx, hf⟩ := on1_ok hc2 hh g1
  obtain ⟨l, rfl, hf⟩ := hf
  obtain ⟨a, xs, rfl, q1, q2⟩ := rx
  refine ⟨a, xs, rfl, sameT hc2.same q1, fun p hp => ?_⟩
  obtain ⟨e5, cr5⟩ := conc_tup hc2 hp (repL_rev q2)
  exact hq _ _ _ _ _ hf ((e1.trans e2).trans e5) cr5
end Cl

namespace Cl
open PySem PySem.Spec PyProof.Rows L2
variable {X : Cx} {PL : PoolP} {K : PySem.W.Frag}
/-! ### x in l, l a list of data of any depth -/
def fInD (neg : Bool) : OpF := fun x y k => ∃ l, y = .lst l ∧ shp (.lst l) = true ∧ shp x = true ∧ k (.dat (.bl ((l.any fun z => eqD z x) != neg)))
theorem toPys_any (x : Dt) : ∀ l : List Dt, ((toPys l).any fun z => PyData.eqv z (toPy x)) = l.any fun z => eqD z x
  | [] => by
    unfold toPys
    rfl
  | d :: l => by
    unfold toPys
    rw [List.any_cons, List.any_cons, toPys_any x l]
    rfl
theorem inD_rep {B H : Hp} {l : List Dt} {x : Dt} {v u : V} (s : Same B H) (rx : RepH K B H x v) (ry : RepH K B H (.lst l) u) (s1 : shp (.lst l) = true) (s2 : shp x = true) :
    Dp K H v (toPy x) ∧ Dp K H u (.list (toPys l)) ∧ SeqAt.shaped (toPy x) = true ∧ SeqAt.shaped (.list (toPys l)) = true := by
  have h := RepH.dp s (shp_lay s1) ry
  refine ⟨RepH.dp s (shp_lay s2) rx, ?_, s2, ?_⟩
  · unfold toPy at h
    exact h
  · unfold shp toPy at s1
    exact s1
theorem opd_inD : OpD K PL (rInD K) (fInD false) := by
  intro G B c σ H x y v u k Q hc rx ry hf hq
  obtain ⟨l, rfl, s1, s2, hf⟩ := hf
  obtain ⟨a1, a2, a3, a4⟩ := inD_rep hc.same rx ry s1 s2
  refine ⟨_, _, a1, a2, a3, a4, ?_⟩
  rw [toPys_any]
  rw [Bool.bne_false] at hf
  exact hq _ _ B H hf (Same.refl B) ⟨hc, by unfold Rep; rfl⟩
theorem opd_notInD : OpD K PL (rNotInD K) (fInD true) := by
  intro G B c σ H x y v u k Q hc rx ry hf hq
  obtain ⟨l, rfl, s1, s2, hf⟩ := hf
  obtain ⟨a1, a2, a3, a4⟩ := inD_rep hc.same rx ry s1 s2
  refine ⟨_, _, a1, a2, a3, a4, ?_⟩
  rw [toPys_any]
  rw [Bool.bne_true] at hf
  exact hq _ _ B H hf (Same.refl B) ⟨hc, by unfold Rep; rfl⟩
theorem c_finD {neg : Bool} {x : Dt} {l : List Dt} {k : Res → Prop} : fInD neg x (.lst l) k = ((shp (.lst l) = true ∧ shp x = true) ∧ k (.dat (.bl ((l.any fun z => eqD z x) != neg)))) :=
  propext ⟨fun ⟨_, e, h1, h2, h⟩ => by cases e; exact ⟨⟨h1, h2⟩, h⟩, fun h => ⟨_, rfl, h.1.1, h.1.2, h.2⟩⟩
end Cl

namespace Cl
open PySem PySem.Spec PyProof.Rows L2
variable {X : Cx} {PL : PoolP} {K : PySem.W.Frag}
/-! ### l.index(x), l a list handed in -/
def dIdxL (i : Nat) (dl : DL) : DE := fun c Q => ∃ l, gt c i = .dat (.lst l) ∧ dl c fun ds c1 => oneD ds fun y => idxD l y fun d _ => Q (.dat d) c1
theorem qe_idxL {i : Nat} {e : Expr} {apos cpos : Pos} {x : Str} {xpos : Pos} {dl : DL} (hu : X.A.units + 65 < cLine)
    (ho : PE X (.Name x xpos) (tVar i)) (ha : QL X PL [e] dl) (hbase : attributeBase (.Name x xpos) "index" X.env (eval (.Name x xpos) X.env) = eval (.Name x xpos) X.env := by rfl)
    (hfew : ((backTo cpos (starEach [e] X.env)).all (fun x => !x.1) && (backToKw cpos (keywordEach [] X.env)).all (fun x => x.1.isSome) && decide ([e].length + ([] : List Keyword).length + (if ([] : List Keyword).isEmpty then 0 else 1) < 30)) = true := by rfl)
    (hline : (apos.endLine == cpos.line) = true := by rfl) (hs : starEach [e] X.env = (false, eval e X.env) :: starEach [] X.env := by rfl) (hplain : (backTo cpos (starEach [] X.env)).any (·.1) = false := by rfl) :
    QE X PL (.Call (.Attribute (.Name x xpos) "index" apos) [e] [] cpos) (dIdxL i dl) := by
  refine q_of (pe_bm PySem.F.plainAttrs_list PySem.F.slot_list_index PySem.F.type_list_index (mt_indexD hu) ho ha.pa hbase hfew hline hs hplain) fun G B c σ H Qd Q hc hd2 hq => ?_
  obtain ⟨l, hs', hd3⟩ := hd2
  obtain ⟨v, h1, h2⟩ := hc.getDat hs'
  have h2' := h2
  unfold Rep at h2'
  obtain ⟨a, xs, rfl, b1, b2⟩ := h2'
  refine ⟨.ref a, h1, .inl ⟨rfl, xs, .of (hc.same _ _ b1)⟩, G, B, c, _, hc, hd3, fun ds c1 B1 H1 vs q ee hc1 rl => ?_⟩
  obtain ⟨y, rfl, q⟩ := oneD_ok q
  obtain ⟨s1, s2, j, z, z1, z2, z3, z4⟩ := q
  obtain ⟨w, rfl, rw_⟩ := repL1 rl
  have hl := Rep.dp hc1.same (shp_lay s1) (h2.mono ee)
  unfold toPy at hl
  refine ⟨a, w, toPy y, toPys l, j, toPy z, rfl, rfl, hl, Rep.dp hc1.same (shp_lay s2) rw_, ?_, s2, ?_, z2, fun m z' hm hz => ?_, hq (.dat (.int (j : Nat))) c1 B1 H1 _ z4 ee ⟨hc1, by unfold Rep; rfl⟩⟩
  · unfold shp toPy at s1
    exact s1
  · rw [toPys_get, z1]
    rfl
  · rw [toPys_get] at hz
    cases q : l[m]? with
    | none =>
      rw [q] at hz
      cases hz
    | some w =>
      rw [q] at hz
      cases hz
      exact z3 m w hm q
theorem e_dIdxL {i : Nat} {dl : DL} {c : CEnv} {Q : Res → CEnv → Prop} : dIdxL i dl c Q = (∃ l, gt c i = .dat (.lst l) ∧ dl c fun ds c1 => oneD ds fun y => idxD l y fun d _ => Q (.dat d) c1) := propext Iff.rfl
def slL (s : Slot) (k : List Dt → Prop) : Prop := ∃ l, s = .dat (.lst l) ∧ k l
theorem e_dIdxS {i : Nat} {dl : DL} {c : CEnv} {Q : Res → CEnv → Prop} : dIdxL i dl c Q = slL (gt c i) fun l => dl c fun ds c1 => oneD ds fun y => idxD l y fun d _ => Q (.dat d) c1 := propext Iff.rfl
theorem c_slL {l : List Dt} {k : List Dt → Prop} : slL (.dat (.lst l)) k = k l := propext ⟨fun ⟨_, e, h⟩ => by cases e; exact h, fun h => ⟨_, rfl, h⟩⟩
end Cl

namespace Cl
open PySem PySem.Spec PyProof.Rows L2

/-! ### a call's own objects, whatever way it ends -/
theorem call_core {K : PySem.W.Frag} {n : Nat} {G : Ent} {B : Hp} {c : CEnv} {σ : L2.St} {H : Hp} {avs : List AV} {as : List AArg} {vs : List V} (hc : Conc K PL G B c σ H) (hv : AVOk K B σ avs vs) (hn : avs.length = n) (nd : nodupO avs = true) (g : looks c avs = some as) :
    ∃ fs : Nat → List Addr, as.length = n ∧ Same B H ∧ ArgsOk K PL B H as vs fs ∧ Apart B H n fs ∧ ∀ (as' : List AArg) (B' H' : Hp) (fs' : Nat → List Addr), Same B B' → (∀ a o, B' a = some o → B a = some o ∨ H a = none) → Same B' H' → (∀ a o, H a = some o → (∀ k, a ∉ fs k) → H' a = some o) → (∀ a, H a ≠ none → H' a ≠ none) →
    ArgsOk K PL B' H' as' vs fs' → Apart B' H' n fs' → (∀ k, ∀ b ∈ fs' k, H b = none ∨ b ∈ fs k) → (∀ (k : Nat) (o : Ob), as[k]? = some (AArg.ob o) → ∃ o' : Ob, as'[k]? = some (AArg.ob o')) →
    Conc K PL G B' (putA avs as' 0 c) σ H' ∧ ∀ (r : Res) (v : V) (Qd : Res → CEnv → Prop), retC r (putA avs as' 0 c) Qd → RetOk K PL B' H H' fs' r v → ∃ r', Qd r' (putA avs as' 0 c) ∧ CR K PL G B' (putA avs as' 0 c) σ H' r' v := by
  obtain ⟨Fc, C⟩ := hc
  obtain ⟨hl, hg⟩ := looks_get g
  have own_pos : ∀ (k i : Nat), avs[k]? = some (.own i) → i < c.length := fun k i e => by
    obtain ⟨x, _, q⟩ := hg k _ e
    obtain ⟨o, _, q | q⟩ := lookA_own q <;> exact (List.getElem?_eq_some_iff.mp q).1
  let fs : Nat → List Addr := fun k => match avs[k]? with
    | some (.own i) => Fc i
    | _ => []
  have fs_own : ∀ (k i : Nat), avs[k]? = some (.own i) → fs k = Fc i := fun k i e => by
    show (match avs[k]? with
      | some (.own i) => Fc i
      | _ => []) = _
    rw [e]
  have fs_mem : ∀ (k : Nat) (b : Addr), b ∈ fs k → ∃ i, avs[k]? = some (.own i) ∧ b ∈ Fc i := fun k b hb => by
    have hb' : b ∈ (match avs[k]? with
      | some (.own i) => Fc i
      | _ => []) := hb
    cases q : avs[k]? with
    | none => rw [q] at hb'; simp at hb'
    | some a =>
      rw [q] at hb'
      cases a with
      | own i => exact ⟨i, rfl, hb'⟩
      | dat d => simp at hb'
  refine ⟨fs, hl.trans hn, C.ex, ⟨hl.trans hv.length.symm, fun k a e => ?_⟩, ⟨fun k hk => ?_, fun k l hkl b hb hb' => ?_, fun k b hb => ?_⟩, ?_⟩
  · have hk : k < avs.length := by
      rw [← hl]
      exact (List.getElem?_eq_some_iff.mp e).1
    have ea := List.getElem?_eq_getElem hk
    obtain ⟨x, q1, q2⟩ := hg k _ ea
    rw [e] at q1
    cases q1
    obtain ⟨v, p1, p2⟩ := hv.get ea
    refine ⟨v, p1, ?_⟩
    generalize hav : avs[k] = av at *
    cases av with
    | dat d =>
      have e2 : AArg.dat d = a := Option.some.inj q2
      subst e2
      refine ⟨?_, p2⟩
      show (match avs[k]? with
        | some (.own i) => Fc i
        | _ => []) = _
      rw [ea]
    | own i =>
      obtain ⟨o, rfl, q3⟩ := lookA_own q2
      rw [show fs k = Fc i from fs_own k i ea]
      rcases q3 with q3 | q3
      · obtain ⟨y, s1, p, s2, s3, _⟩ := C.slots i _ q3
        have p2' : σ[i]? = some (some v) := p2
        rw [p2'] at s1
        cases s1
        cases s2
        exact ⟨p, rfl, s3⟩
      · obtain ⟨y, s1, p, s2, _, s3, _⟩ := C.slots i _ q3
        have p2' : σ[i]? = some (some v) := p2
        rw [p2'] at s1
        cases s1
        cases s2
        exact ⟨p, rfl, s3⟩
  · show (match avs[k]? with
      | some (.own i) => Fc i
      | _ => []) = _
    rw [List.getElem?_eq_none (by omega)]
  · obtain ⟨i, e1, m1⟩ := fs_mem k b hb
    obtain ⟨j, e2, m2⟩ := fs_mem l b hb'
    by_cases e : i = j
    · subst e
      exact hkl (nodupO_inj nd k l i e1 e2)
    · exact C.disj i j e b m1 m2
  · obtain ⟨i, e1, m1⟩ := fs_mem k b hb
    exact C.off i b m1
  · intro as' B' H' fs' sB nB sH fr kp ao ap mig kinds
    -- the own objects behind the call
    let F2 : Nat → List Addr := fun j => match posO avs j with
      | some k => fs' k
      | none => Fc j
    have F2s : ∀ {j k : Nat}, posO avs j = some k → F2 j = fs' k := fun {j k} e => by
      show (match posO avs j with
        | some k => fs' k
        | none => Fc j) = _
      rw [e]
    have F2n : ∀ {j : Nat}, posO avs j = none → F2 j = Fc j := fun {j} e => by
      show (match posO avs j with
        | some k => fs' k
        | none => Fc j) = _
      rw [e]
    have stays : ∀ {j : Nat}, posO avs j = none → ∀ b ∈ Fc j, H' b = H b := fun {j} e b hb => by
      cases q : H b with
      | none => exact absurd q (C.alive j b hb)
      | some o =>
        refine fr b o q fun k hk => ?_
        obtain ⟨i, e1, m1⟩ := fs_mem k b hk
        by_cases hij : i = j
        · subst hij
          exact posO_none e k e1
        · exact C.disj i j hij b m1 hb
    have mig2 : ∀ {j k : Nat}, posO avs j = some k → ∀ b ∈ fs' k, H b = none ∨ b ∈ Fc j := fun {j k} e b hb => by
      rcases mig k b hb with q | q
      · exact .inl q
      · rw [fs_own k j (posO_some e)] at q
        exact .inr q
    have C2 : ConcF K PL G B' (putA avs as' 0 c) σ H' F2 := by
      refine ⟨sH, C.bb.trans sB, fun a o q => ?_, fun a o q nf => ?_, fun a q => kp a (C.keep a q), by rw [putA_length]; exact C.len, fun j s hs => ?_, fun j hj => ?_, fun i j hij b hbi hbj => ?_, fun j b hb => ?_, fun a o q => ?_⟩
      · rcases nB a o q with z | z
        · exact C.new a o z
        · refine .inr ?_
          cases w : G.H a with
          | none => rfl
          | some u => exact absurd z (C.keep a (by rw [w]; simp))
      · refine fr a o (C.frame a o q nf) fun k hk => ?_
        obtain ⟨i, e1, m1⟩ := fs_mem k a hk
        obtain ⟨x, _, q2⟩ := hg k _ e1
        obtain ⟨u, _, q3 | q3⟩ := lookA_own q2
        · obtain ⟨y, s1, p, s2, s3, s4⟩ := C.slots i _ q3
          have := s4 a m1
          rw [q] at this
          cases this
        · obtain ⟨y, s1, p, s2, _, s3, s4⟩ := C.slots i _ q3
          rcases s4 a m1 with w | w
          · rw [q] at w
            cases w
          · exact nf i w
      · obtain ⟨t, h1, h2⟩ := putA_get avs as' 0 c j s hs
        rw [Nat.zero_add] at h2
        obtain ⟨o, h3, h4⟩ := C.slots j t h1
        refine ⟨o, h3, ?_⟩
        cases w : posO avs j with
        | none =>
          have on : ownAt avs as' j = none := by
            cases z : ownAt avs as' j with
            | none => rfl
            | some u =>
              obtain ⟨k, z1, _⟩ := ownAt_some z
              exact absurd z1 (posO_none w k)
          rw [on] at h2
          rw [F2n w, show s = t from h2]
          exact h4.mono sB (stays w)
        | some k =>
          have e1 := posO_some w
          obtain ⟨x, q1, q2⟩ := hg k _ e1
          obtain ⟨u, rfl, q3⟩ := lookA_own q2
          obtain ⟨u', q4⟩ := kinds k u q1
          obtain ⟨v', p1, p2⟩ := ao.2 k _ q4
          obtain ⟨p, rfl, p3⟩ := p2
          obtain ⟨v2, p4, p5⟩ := hv.get e1
          rw [p1] at p4
          cases p4
          have p5' : σ[j]? = some (some (.ref p)) := p5
          rw [h3] at p5'
          cases p5'
          have on : ownAt avs as' j = some u' := by
            cases z : ownAt avs as' j with
            | none => exact absurd q4 (ownAt_none z k u' e1)
            | some u2 =>
              obtain ⟨k2, z1, z2⟩ := ownAt_some z
              rw [nodupO_inj nd k2 k j z1 e1, q4] at z2
              cases z2
              rfl
          rw [on] at h2
          rw [F2s w]
          rcases q3 with q3 | q3
          · rw [h1] at q3
            cases q3
            have hs2 : s = .own u' := h2
            subst hs2
            obtain ⟨a2, s1, s2, s3⟩ := h4
            refine ⟨p, rfl, p3, fun b hb => ?_⟩
            rcases mig2 w b hb with z | z
            · cases y : G.H b with
              | none => rfl
              | some o' => exact absurd z (C.keep b (by rw [y]; simp))
            · exact s3 b z
          · rw [h1] at q3
            cases q3
            have hs2 : s = .arg u' := h2
            subst hs2
            obtain ⟨a2, s1, s1', s2, s3⟩ := h4
            cases s1
            refine ⟨p, rfl, s1', p3, fun b hb => ?_⟩
            rcases mig2 w b hb with z | z
            · refine .inl ?_
              cases y : G.H b with
              | none => rfl
              | some o' => exact absurd z (C.keep b (by rw [y]; simp))
            · exact s3 b z
      · rw [putA_length] at hj
        cases w : posO avs j with
        | none =>
          rw [F2n w]
          exact C.out j hj
        | some k => exact absurd (own_pos k j (posO_some w)) (by omega)
      · cases w : posO avs i with
        | none =>
          rw [F2n w] at hbi
          cases w2 : posO avs j with
          | none =>
            rw [F2n w2] at hbj
            exact C.disj i j hij b hbi hbj
          | some l =>
            rw [F2s w2] at hbj
            rcases mig2 w2 b hbj with z | z
            · exact C.alive i b hbi z
            · exact C.disj i j hij b hbi z
        | some k =>
          rw [F2s w] at hbi
          cases w2 : posO avs j with
          | none =>
            rw [F2n w2] at hbj
            rcases mig2 w b hbi with z | z
            · exact C.alive j b hbj z
            · exact C.disj i j hij b z hbj
          | some l =>
            rw [F2s w2] at hbj
            have hkl : k ≠ l := fun e => by
              subst e
              have e1 := posO_some w
              rw [posO_some w2] at e1
              cases e1
              exact hij rfl
            exact ap.disj k l hkl b hbi hbj
      · cases w : posO avs j with
        | none =>
          rw [F2n w] at hb
          cases q : B' b with
          | none => rfl
          | some o =>
            rcases nB b o q with z | z
            · rw [C.off j b hb] at z
              cases z
            · exact absurd z (C.alive j b hb)
        | some k =>
          rw [F2s w] at hb
          exact ap.off k b hb
      · obtain ⟨z1, z2, z3⟩ := C.pin a o q
        refine ⟨fr a o z1 fun k hk => ?_, ?_, fun j hj => ?_⟩
        · obtain ⟨i, e1, m1⟩ := fs_mem k a hk
          exact z3 i m1
        · cases w : B' a with
          | none => rfl
          | some u =>
            rcases nB a u w with y | y
            · rw [z2] at y
              cases y
            · rw [z1] at y
              cases y
        · cases w : posO avs j with
          | none =>
            rw [F2n w] at hj
            exact z3 j hj
          | some k =>
            rw [F2s w] at hj
            rcases mig2 w a hj with y | y
            · rw [z1] at y
              cases y
            · exact z3 j y
    refine ⟨⟨_, C2⟩, fun r v Qd hr ro => ?_⟩
    cases r with
    | dat d => exact ⟨_, hr, ⟨_, C2⟩, ro⟩
    | sl i => exact ro.elim
    | new o =>
      obtain ⟨p, fp, rfl, p2, p3⟩ := ro
      refine ⟨_, hr, _, C2.push rfl p2 (fun b hb => ?_) (fun b hb => (p3 b hb).1) (fun j b hj hb => ?_) (fun b hb => ?_)⟩
      · cases y : G.H b with
        | none => rfl
        | some o' => exact absurd (p3 b hb).2.1 (C.keep b (by rw [y]; simp))
      · cases w : posO avs j with
        | none =>
          rw [F2n w] at hj
          exact C.alive j b hj (p3 b hb).2.1
        | some k =>
          rw [F2s w] at hj
          exact (p3 b hb).2.2 k hj
      · cases y : G.pin b with
        | none => rfl
        | some o' =>
          have := (C.pin b o' y).1
          rw [(p3 b hb).2.1] at this
          cases this

/-! ### exceptions in the air -/
/-- the exception ex, of the class value cls, its dict d: the dict stands with the plain data -/
def ExnOk (K : PySem.W.Frag) (B : Hp) (ex : Exn) (cls : Value) (d : Option Addr) : Prop := cls = .ref (He.ga K ex.cls) ∧ ∃ (dd : Addr) (xs : List V), d = some dd ∧ B dd = some (.xd (ex.ns.zip xs)) ∧ xs.length = ex.ns.length ∧ RepL K B ex.fs xs
/-- what a def does that may raise: its arguments, what is wanted of the result, of an exception -/
abbrev FSX := List AArg → (Res → List AArg → Prop) → (Exn → List AArg → Prop) → Prop
def spX (K : PySem.W.Frag) (PL : PoolP) (n : Nat) (F : FSX) : Sp := fun vs H Q E => ∃ B as fs R Z, as.length = n ∧ Same B H ∧ ArgsOk K PL B H as vs fs ∧ Apart B H n fs ∧ F as R Z ∧
  (∀ r as' B' H' v fs', R r as' → Same B B' → (∀ a o, B' a = some o → B a = some o ∨ H a = none) → Same B' H' → (∀ a o, H a = some o → (∀ k, a ∉ fs k) → H' a = some o) → (∀ a, H a ≠ none → H' a ≠ none) →
    ArgsOk K PL B' H' as' vs fs' → Apart B' H' n fs' → (∀ k, ∀ b ∈ fs' k, H b = none ∨ b ∈ fs k) → (∀ (k : Nat) (o : Ob), as[k]? = some (AArg.ob o) → ∃ o' : Ob, as'[k]? = some (AArg.ob o')) → RetOk K PL B' H H' fs' r v → Q v H') ∧
  (∀ ex as' B' H' cls d fs', Z ex as' → Same B B' → (∀ a o, B' a = some o → B a = some o ∨ H a = none) → Same B' H' → (∀ a o, H a = some o → (∀ k, a ∉ fs k) → H' a = some o) → (∀ a, H a ≠ none → H' a ≠ none) →
    ArgsOk K PL B' H' as' vs fs' → Apart B' H' n fs' → (∀ k, ∀ b ∈ fs' k, H b = none ∨ b ∈ fs k) → (∀ (k : Nat) (o : Ob), as[k]? = some (AArg.ob o) → ∃ o' : Ob, as'[k]? = some (AArg.ob o')) → ExnOk K B' ex cls d → E cls d H')
structure DefX (P : Program) (w : World) (K : PySem.W.Frag) (mg : Str → Option Value) (base : Heap) (PL : PoolP) (k : Nat) (x : Str) (st : Stmt) (dvs : List V) (kws : List (Str × V)) (ps : List Str) (F : FSX) : Prop where
  ex : ∃ f fd, FnOk P w K mg base (L2N.CX P w) k f fd ps (spX K PL ps.length F) ∧ mg x = some (.ref f) ∧ PySem.W.keepIn K (.ref f) = true ∧ FunD K x x (defArgs st) (defBody st) (defScope st) dvs kws f fd
theorem DefX.mono {P : Program} {w : World} {K : PySem.W.Frag} {mg : Str → Option Value} {base : Heap} {PL : PoolP} {j k : Nat} {x : Str} {st : Stmt} {dvs : List V} {kws : List (Str × V)} {ps : List Str} {F : FSX} (D : DefX P w K mg base PL j x st dvs kws ps F) (h : j ≤ k) : DefX P w K mg base PL k x st dvs kws ps F := by
  obtain ⟨f, fd, h1, h2, h3, h4⟩ := D.ex
  exact ⟨f, fd, h1.mono h, h2, h3, h4⟩

section
variable {X : Cx} {PL : PoolP} {W : WX}
abbrev DEX := CEnv → (Res → CEnv → Prop) → (Exn → CEnv → Prop) → Prop
def lEX (K : PySem.W.Frag) (PL : PoolP) (W : WX) (de : DEX) : TE := fun σ H Q => ∃ G B c Qd Zd, Conc K PL G B c σ H ∧ de c Qd Zd ∧ (∀ r c' B' H' v, Qd r c' → Same B B' → CR K PL G B' c' σ H' r v → Q v H') ∧
  ∀ ex c' B' H' cls d, Zd ex c' → Same B B' → Conc K PL G B' c' σ H' → ExnOk K B' ex cls d → W cls d σ H'
def lX (K : PySem.W.Frag) (PL : PoolP) (W : WX) (ds : DS) : TS := fun D σ H => ∃ G B c E, Conc K PL G B c σ H ∧ ds E c ∧ (∀ c' B' σ' H', E.nx c' → Same B B' → Conc K PL G B' c' σ' H' → D.nx σ' H') ∧
  (∀ r c' B' σ' H' v, E.rt r c' → CR K PL G B' c' σ' H' r v → D.rt v H') ∧ (∀ c' B' σ' H', E.bk c' → Same B B' → Conc K PL G B' c' σ' H' → D.bk σ' H') ∧ (∀ c' B' σ' H', E.ct c' → Same B B' → Conc K PL G B' c' σ' H' → D.ct σ' H') ∧
  ∀ ex c' B' σ' H' cls d, E.ra ex c' → Same B B' → Conc K PL G B' c' σ' H' → ExnOk K B' ex cls d → W cls d σ' H'
structure RE (X : Cx) (PL : PoolP) (W : WX) (e : Expr) (de : DEX) : Prop where
  pe : PE X e (lEX X.K PL W de)
structure RS (X : Cx) (PL : PoolP) (W : WX) (st : Stmt) (ds : DS) : Prop where
  ps : PS X st (lX X.K PL W ds)
structure RSs (X : Cx) (PL : PoolP) (W : WX) (st : List Stmt) (ds : DS) : Prop where
  pss : PSs X st (lX X.K PL W ds)
/-- what raises nothing -/
theorem rs_of {st : Stmt} {ds : DS} (h : QS X PL st ds) : RS X PL W st ds := ⟨PS.weak h.ps fun D σ H ⟨G, B, c, E, h1, h2, h3, h4, h5, h6, _⟩ => ⟨G, B, c, E, h1, h2, h3, h4, h5, h6⟩⟩
theorem rs_by {st : Stmt} {t : TS} {ds : DS} (h : PS X st t) (hw : ∀ G B c σ H E D, Conc X.K PL G B c σ H → ds E c → (∀ c' B' σ' H', E.nx c' → Same B B' → Conc X.K PL G B' c' σ' H' → D.nx σ' H') →
  (∀ r c' B' σ' H' v, E.rt r c' → CR X.K PL G B' c' σ' H' r v → D.rt v H') → (∀ c' B' σ' H', E.bk c' → Same B B' → Conc X.K PL G B' c' σ' H' → D.bk σ' H') → (∀ c' B' σ' H', E.ct c' → Same B B' → Conc X.K PL G B' c' σ' H' → D.ct σ' H') →
  (∀ ex c' B' σ' H' cls d, E.ra ex c' → Same B B' → Conc X.K PL G B' c' σ' H' → ExnOk X.K B' ex cls d → W cls d σ' H') → t D σ H) : RS X PL W st ds :=
  ⟨PS.weak h fun D σ H ⟨G, B, c, E, h1, h2, h3, h4, h5, h6, h7⟩ => hw G B c σ H E D h1 h2 h3 h4 h5 h6 h7⟩
theorem rss_of {st : List Stmt} {ds : DS} (h : QSs X PL st ds) : RSs X PL W st ds := ⟨PSs.weak h.pss fun D σ H ⟨G, B, c, E, h1, h2, h3, h4, h5, h6, _⟩ => ⟨G, B, c, E, h1, h2, h3, h4, h5, h6⟩⟩
theorem rss_nil : RSs X PL W [] dNext := rss_of qss_nil
theorem rss_one {st : Stmt} {s : DS} (h : RS X PL W st s) : RSs X PL W [st] s := ⟨pss_one h.ps⟩
theorem rss_cons {st : Stmt} {rest : List Stmt} {s t : DS} (h : RS X PL W st s) (h' : RSs X PL W rest t) : RSs X PL W (st :: rest) (dSeq s t) :=
  ⟨PSs.weak (pss_cons h.ps h'.pss) fun D σ H ⟨G, B, c, E, h1, h2, h3, h4, h5, h6, h7⟩ => ⟨G, B, c, { E with nx := t E }, h1, h2, fun c' B' σ' H' q e hc' => ⟨G, B', c', E, hc', q, fun c2 B2 σ2 H2 q2 e2 => h3 c2 B2 σ2 H2 q2 (e.trans e2), h4, fun c2 B2 σ2 H2 q2 e2 => h5 c2 B2 σ2 H2 q2 (e.trans e2), fun c2 B2 σ2 H2 q2 e2 => h6 c2 B2 σ2 H2 q2 (e.trans e2), fun ex c2 B2 σ2 H2 cls d q2 e2 => h7 ex c2 B2 σ2 H2 cls d q2 (e.trans e2)⟩, h4, h5, h6, h7⟩⟩
theorem rs_if {t : Expr} {a b : List Stmt} {pos : Pos} {dt : DT} {da db : DS} (ht : QT X PL t dt) (ha : RSs X PL W a da) (hb : RSs X PL W b db) : RS X PL W (.If t a b pos) (dIf dt da db) := by
  refine rs_by (ps_if ht.pt ha.pss hb.pss) fun G B c σ H E D h1 h2 h3 h4 h5 h6 h7 => ?_
  refine ⟨G, B, c, _, h1, h2, fun k c1 B1 H1 q e1 hc1 => ?_⟩
  cases k with
  | true =>
    rw [if_pos rfl]
    exact ⟨G, B1, c1, E, hc1, q, fun c2 B2 σ2 H2 q2 e2 => h3 c2 B2 σ2 H2 q2 (e1.trans e2), h4, fun c2 B2 σ2 H2 q2 e2 => h5 c2 B2 σ2 H2 q2 (e1.trans e2), fun c2 B2 σ2 H2 q2 e2 => h6 c2 B2 σ2 H2 q2 (e1.trans e2), fun ex c2 B2 σ2 H2 cls d q2 e2 => h7 ex c2 B2 σ2 H2 cls d q2 (e1.trans e2)⟩
  | false =>
    rw [if_neg Bool.false_ne_true]
    exact ⟨G, B1, c1, E, hc1, q, fun c2 B2 σ2 H2 q2 e2 => h3 c2 B2 σ2 H2 q2 (e1.trans e2), h4, fun c2 B2 σ2 H2 q2 e2 => h5 c2 B2 σ2 H2 q2 (e1.trans e2), fun c2 B2 σ2 H2 q2 e2 => h6 c2 B2 σ2 H2 q2 (e1.trans e2), fun ex c2 B2 σ2 H2 cls d q2 e2 => h7 ex c2 B2 σ2 H2 cls d q2 (e1.trans e2)⟩
theorem rs_for {tg iter : Expr} {body : List Stmt} {di : DI} {g : DG} {db : DS} {pos : Pos} (hi : QI X PL tg iter di) (hg : QG X PL tg g) (hb : RSs X PL W body db) (hp : PassesOwn (model X.prog X.w) X.A X.env X.xe) (hc : X.calm = true)
    (hs : ∀ x, foldedSetIterable iter X.env x = pure x := by intro _; rfl) : RS X PL W (.For tg iter body [] pos) (dFor di g db) := by
  refine rs_by (ps_for hp hc hi.pi hg.pg hb.pss hs) fun G B c σ H E D h1 h2 h3 h4 h5 h6 h7 => ?_
  refine ⟨G, B, c, _, h1, h2, fun ds c1 B1 H1 J ⟨I, i0, it, ie⟩ e1 hc1 HJ => ?_⟩
  refine ⟨fun i m σ' H' => m = ds.length - i ∧ i ≤ ds.length ∧ ∃ B2 c2, Same B1 B2 ∧ Conc X.K PL G B2 c2 σ' H' ∧ I i c2, ⟨_, rfl, Nat.zero_le _, B1, c1, Same.refl _, hc1, i0⟩, ?_⟩
  rintro i m σ' H' ⟨rfl, hil, B2, c2, e2, hc2, hI⟩
  by_cases hlt : i < ds.length
  · refine .inr ⟨HJ.go i H' (e2.trans hc2.same) hlt, fun σ2 H2 => ∃ B3 c3, Same B1 B3 ∧ Conc X.K PL G B3 c3 σ2 H2 ∧ I (i + 1) c3, fun σ2 H2 ⟨B3, c3, e3, hc3, hI3⟩ => ⟨ds.length - (i + 1), by omega, rfl, hlt, B3, c3, e3, hc3, hI3⟩, fun x H3 hy => ?_⟩
    obtain ⟨B3, d, hd3, e3, hc3, rd⟩ := HJ.yld i H' x H3 hlt hy G B2 c2 σ' e2 hc2
    refine ⟨G, B3, c2, d, _, hc3, rd, it i d c2 hd3 hI, fun c4 B4 σ4 H4 q4 e4 hc4 _ => ?_⟩
    have ee : Same B1 B4 := (e2.trans e3).trans e4
    exact ⟨G, B4, c4, _, hc4, q4, fun c5 B5 σ5 H5 q5 e5 hc5 => ⟨B5, c5, ee.trans e5, hc5, q5⟩, h4, fun c5 B5 σ5 H5 q5 e5 hc5 => h3 _ _ _ _ q5 ((e1.trans ee).trans e5) hc5, fun c5 B5 σ5 H5 q5 e5 hc5 => ⟨B5, c5, ee.trans e5, hc5, q5⟩, fun ex c5 B5 σ5 H5 cls d q5 e5 hc5 xo => h7 ex _ _ _ _ cls d q5 ((e1.trans ee).trans e5) hc5 xo⟩
  · have hie : i = ds.length := by omega
    subst hie
    exact .inl ⟨HJ.stop H' (e2.trans hc2.same), h3 _ _ _ _ (ie c2 hI) (e1.trans e2) hc2⟩
theorem rs_while {t : Expr} {body : List Stmt} {dt : DT} {db : DS} {pos : Pos} (ht : QT X PL t dt) (hb : RSs X PL W body db) (hp : PassesOwn (model X.prog X.w) X.A X.env X.xe) : RS X PL W (.While t body [] pos) (dWhile dt db) := by
  refine rs_by (ps_while hp ht.pt hb.pss) fun G B c σ H E D h1 h2 h3 h4 h5 h6 h7 => ?_
  obtain ⟨I, ⟨m0, i0⟩, it⟩ := h2
  refine ⟨fun m σ' H' => ∃ B2 c2, Same B B2 ∧ Conc X.K PL G B2 c2 σ' H' ∧ I m c2, ⟨m0, B, c, Same.refl _, h1, i0⟩, ?_⟩
  rintro m σ' H' ⟨B2, c2, e2, hc2, hI⟩
  refine ⟨G, B2, c2, _, hc2, it m c2 hI, fun b c3 B3 H3 q3 e3 hc3 => ?_⟩
  cases b with
  | true =>
    rw [if_pos rfl]
    refine ⟨fun σ4 H4 => ∃ m', m' < m ∧ ∃ B4 c4, Same B B4 ∧ Conc X.K PL G B4 c4 σ4 H4 ∧ I m' c4, fun σ4 H4 ⟨m', hm, r⟩ => ⟨m', hm, r⟩, ?_⟩
    exact ⟨G, B3, c3, _, hc3, q3, fun c5 B5 σ5 H5 ⟨m', hm, q5⟩ e5 hc5 => ⟨m', hm, B5, c5, (e2.trans e3).trans e5, hc5, q5⟩, h4, fun c5 B5 σ5 H5 q5 e5 hc5 => h3 _ _ _ _ q5 ((e2.trans e3).trans e5) hc5, fun c5 B5 σ5 H5 ⟨m', hm, q5⟩ e5 hc5 => ⟨m', hm, B5, c5, (e2.trans e3).trans e5, hc5, q5⟩, fun ex c5 B5 σ5 H5 cls d q5 e5 hc5 xo => h7 ex _ _ _ _ cls d q5 ((e2.trans e3).trans e5) hc5 xo⟩
  | false =>
    rw [if_neg Bool.false_ne_true]
    exact h3 _ _ _ _ q3 (e2.trans e3) hc3
/-! ### a call that may raise -/
theorem re_by {e : Expr} {t : TE} {de : DEX} (h : PE X e t) (hw : ∀ G B c σ H Qd Zd Q, Conc X.K PL G B c σ H → de c Qd Zd → (∀ r c' B' H' v, Qd r c' → Same B B' → CR X.K PL G B' c' σ H' r v → Q v H') → (∀ ex c' B' H' cls d, Zd ex c' → Same B B' → Conc X.K PL G B' c' σ H' → ExnOk X.K B' ex cls d → W cls d σ H') → t σ H Q) : RE X PL W e de :=
  ⟨PE.weak h fun σ H Q ⟨G, B, c, Qd, Zd, h1, h2, h3, h4⟩ => hw G B c σ H Qd Zd Q h1 h2 h3 h4⟩
theorem re_of {e : Expr} {de : DE} (h : QE X PL e de) : RE X PL W e (fun c Q _ => de c Q) := re_by h.pe fun G B c σ H Qd Zd Q h1 h2 h3 _ => ⟨G, B, c, Qd, h1, h2, h3⟩
def dCallX (n : Nat) (F : FSX) (dv : DV) : DEX := fun c Q Z => dv c fun avs c1 => avs.length = n ∧ nodupO avs = true ∧ lookQ avs c1 fun as => F as (fun r as' => retC r (putA avs as' 0 c1) Q) fun ex as' => Z ex (putA avs as' 0 c1)
theorem lookQ_ok {avs : List AV} {c : CEnv} {k : List AArg → Prop} (h : lookQ avs c k) : ∃ as, looks c avs = some as ∧ k as := by
  unfold lookQ at h
  cases g : looks c avs with
  | none => simp only [g] at h
  | some as =>
    simp only [g] at h
    exact ⟨as, rfl, h⟩
theorem re_call {P : Program} {w : World} {K : PySem.W.Frag} {mg : Str → Option Value} {base : Heap} {k : Nat} {x : Str} {st : Stmt} {ps : List Str} {F : FSX} {p pos : Pos} {e : Expr} {es : List Expr} {dv : DV} (D : DefX P w K mg base PL k x st [] [] ps F) (hP : X.prog = P) (hw : X.w = w) (hK : X.K = K) (hmg : X.mg = mg) (hb : X.base = base)
    (hbi : ∀ {f : Addr} {fd : FuncData}, FunD K x x (defArgs st) (defBody st) (defScope st) [] [] f fd → Binds K fd ps [])
    (ha : QV X PL (e :: es) dv) (hr : Room k X.A) (hg : Gl X x) (tk : L2N.Takes X W) (hdb : (x == ("__debug__" : Str)) = false := by decide) (he : starEach (e :: es) X.env = (false, eval e X.env) :: starEach es X.env := by rfl) (hpl : (backTo pos (starEach es X.env)).any (·.1) = false := by rfl) :
    RE X PL W (.Call (.Name x p) (e :: es) [] pos) (dCallX ps.length F dv) := by
  subst hP hw hK hmg hb
  obtain ⟨f, fd, hf, hm, hk, hfd⟩ := D.ex
  refine re_by (pe_callS (E := WE W) hf hr hg hm hk (hbi hfd) (L2N.passAt tk) ha.pa hdb he hpl) fun G B c σ H Qd Zd Q hc hd2 hq hz => ?_
  refine ⟨G, B, c, _, hc, hd2, fun avs c1 B1 H1 vs ⟨hn, nd, h1⟩ e1 hc1 hv => ?_⟩
  obtain ⟨as, g, hF⟩ := lookQ_ok h1
  obtain ⟨fs, q1, q2, q3, q4, q5⟩ := call_core hc1 hv hn nd g
  refine ⟨B1, as, fs, _, _, q1, q2, q3, q4, hF, ?_, ?_⟩
  · intro r as' B' H' v fs' hr sB nB sH fr kp ao ap mig kinds ro
    obtain ⟨_, z⟩ := q5 as' B' H' fs' sB nB sH fr kp ao ap mig kinds
    obtain ⟨r', z1, z2⟩ := z r v _ hr ro
    exact hq r' _ B' H' v z1 (e1.trans sB) z2
  · intro ex as' B' H' cls d fs' hz' sB nB sH fr kp ao ap mig kinds xo
    obtain ⟨z, _⟩ := q5 as' B' H' fs' sB nB sH fr kp ao ap mig kinds
    exact hz ex _ B' H' cls d hz' (e1.trans sB) z xo
def dDropX (de : DEX) : DS := fun E c => de c (fun _ c1 => E.nx c1) E.ra
theorem rs_expr {e : Expr} {pos : Pos} {de : DEX} (h : RE X PL W e de) (hs : swapsWith e none pos.line X.env = pure false := by rfl) : RS X PL W (.Expr e pos) (dDropX de) := by
  refine rs_by (ps_expr h.pe hs) fun G B c σ H E D h1 h2 h3 h4 h5 h6 h7 => ?_
  exact ⟨G, B, c, _, _, h1, h2, fun r c1 B1 H1 v q e1 cr => h3 _ _ _ _ q e1 cr.conc, fun ex c1 B1 H1 cls d q e1 hc1 xo => h7 ex _ _ _ _ cls d q e1 hc1 xo⟩
def dAsgX (i : Nat) (de : DEX) : DS := fun E c => de c (fun r c1 => put i r c1 E.nx) E.ra
theorem rs_set {i : Nat} {x : Str} {e : Expr} {de : DEX} {pos pos' : Pos} (h : RE X PL W e de) (hN : X.N.Nodup) (hi : X.N[i]? = some x) (hx : Loc X.env.scope x) (hs : swapsWith e (some (.Name x pos')) pos.line X.env = pure false := by rfl)
    (hf : X.fn x = true ∨ X.env.scope.names.lookup x = some .local := by first | exact .inl rfl | exact .inr rfl | assumption) : RS X PL W (.Assign [.Name x pos'] e pos) (dAsgX i de) := by
  refine rs_by (ps_set hN hi hx h.pe hs hf) fun G B c σ H E D h1 h2 h3 h4 h5 h6 h7 => ?_
  refine ⟨G, B, c, _, _, h1, h2, fun r c1 B1 H1 v q e1 cr => ?_, fun ex c1 B1 H1 cls d q e1 hc1 xo => h7 ex _ _ _ _ cls d q e1 hc1 xo⟩
  obtain ⟨B', c', q1, q0, q2⟩ := put_ok cr q
  exact h3 _ _ _ _ q1 (e1.trans q0) q2
def dAsgGX (g : DG) (de : DEX) : DS := fun E c => de c (fun r c1 => asD r c1 fun d c2 => g d c2 E.nx) E.ra
theorem rs_asg {tg e : Expr} {de : DEX} {g : DG} {pos : Pos} (he : RE X PL W e de) (hg : QG X PL tg g) (hs : swapsWithSole [tg] e pos.line X.env = pure false := by rfl) (hw : swappedStores [tg] e X.env = pure none := by rfl)
    (h1 : (assignEach [tg] X.env).map (·.2) = [assign tg X.env] := by rfl) : RS X PL W (.Assign [tg] e pos) (dAsgGX g de) := by
  refine rs_by (ps_asg he.pe hg.pg hs hw h1) fun G B c σ H E D h1 h2 h3 h4 h5 h6 h7 => ?_
  refine ⟨G, B, c, _, _, h1, h2, fun r c1 B1 H1 v q e1 cr => ?_, fun ex c1 B1 H1 cls d q e1 hc1 xo => h7 ex _ _ _ _ cls d q e1 hc1 xo⟩
  obtain ⟨B2, c2, d, e2, hc2, rd, q2⟩ := asD_ok cr q
  exact ⟨G, B2, c2, d, _, hc2, rd, q2, fun c3 B3 σ3 H3 q3 e3 hc3 _ => h3 _ _ _ _ q3 ((e1.trans e2).trans e3) hc3⟩
def dRetX (de : DEX) : DS := fun E c => de c (fun r c1 => toRet r c1 E.rt) E.ra
theorem rs_ret {e : Expr} {pos : Pos} {de : DEX} (h : RE X PL W e de) : RS X PL W (.Return (some e) pos) (dRetX de) := by
  refine rs_by (ps_ret h.pe) fun G B c σ H E D h1 h2 h3 h4 h5 h6 h7 => ?_
  refine ⟨G, B, c, _, _, h1, h2, fun r c1 B1 H1 v q e1 cr => ?_, fun ex c1 B1 H1 cls d q e1 hc1 xo => h7 ex _ _ _ _ cls d q e1 hc1 xo⟩
  cases r with
  | dat d => exact h4 _ _ _ _ _ _ q cr
  | new o => exact h4 _ _ _ _ _ _ q cr
  | sl i =>
    unfold toRet at q
    cases g : gt c1 i with
    | dat d =>
      simp only [g] at q
      obtain ⟨v', q1, q2⟩ := cr.1.getDat g
      have e := cr.2
      rw [q1] at e
      cases e
      exact h4 _ _ _ _ _ _ q ⟨cr.1, q2⟩
    | own o =>
      simp only [g] at q
      exact h4 _ _ _ _ _ _ q cr
    | no => simp only [g] at q
    | arg o => simp only [g] at q
/-! ### raise -/
theorem takes0N {X : Cx} : L2N.Takes X (fun _ _ _ _ => False) := fun _ _ x => by
  obtain ⟨_, _, _, _, _, _, _, _, _, _, _, _, _, _, _, _, z⟩ := x
  exact z.elim
/-- C(e, ..), its context None -/
theorem pmk_oexN {X : Cx} {CX : CXT} {x : Str} {e : Expr} {es : List Expr} {ta : TA} {p pos : Pos} {C fI : Addr} {k : Nat} {fd : FuncData} {ps : List Str} {sp : Sp} {ds : List Value} {dvs : List V} (T : OexC X.K C) (iC : PySem.W.findIn X.K (.ref C) "__init__" = some (some (.ref fI))) (tI : PySem.W.typeIn X.K (.ref fI) = some (.type "function"))
    (F1 : FnOk X.prog X.w X.K X.mg X.base CX k fI fd ps sp) (hr : Room (k + 1) X.A) (hb : Binds X.K fd ps ds) (hd : Vals dvs ds) (hx : Passes CX X (fun _ _ _ => False)) (hg : Gl X x) (hm : X.mg x = some (.ref C)) (ha : PA X (e :: es) ta)
    (hdb : (x == ("__debug__" : Str)) = false := by decide) (he : starEach (e :: es) X.env = (false, eval e X.env) :: starEach es X.env := by rfl) (hpl : (backTo pos (starEach es X.env)).any (·.1) = false := by rfl) :
    L2N.PMk X (.Call (.Name x p) (e :: es) [] pos) (tMkO C sp dvs ta) := by
  intro pins s σ H Q I h
  obtain ⟨nm, q, N, bs, bm, sn, sub, ab, col, dd, k0, k1, k2, k3, k5, hC, hbm⟩ := T.cls
  refine wpAny_Call_Name_kw (ld_glob I hg hm ?_ hdb)
  refine PySem.W.callWith_K (h₀ := X.base) I.ok.mod.kin T.kC (thn (ha.run pos pins s σ H _ I h) fun us s1 ⟨vs, H1, I1, r1, hz, q1⟩ => ⟨I1.kIn, ?_⟩) he hpl
  show wpAny _ _ (call (.ref C) us) _ _ _
  obtain ⟨hp, g, dr, tk, os⟩ := s1
  have hsz : hp.objs.size ≤ hp.objs.size + 1 := Nat.le_succ _
  have hn : H1 (hp.objs.size + 1) = none := I1.hok.fresh hsz
  have hq := q1 (hp.objs.size + 1) hn
  have kk : ∀ b o, hp.get? b = some o → ((hp.push (PySem.W.kdv_tup us)).push (PySem.HandSPX.excO C hp.objs.size)).get? b = some o := fun b o e => Heap.get?_push_of_some _ (Heap.get?_push_of_some _ e)
  have hget : ((hp.push (PySem.W.kdv_tup us)).push (PySem.HandSPX.excO C hp.objs.size)).get? (hp.objs.size + 1) = some (PySem.HandSPX.excO C hp.objs.size) := by heap_get
  have I2 : Inv X pins σ (upd H1 (hp.objs.size + 1) (exo (hp.objs.size + 1) C none)) ⟨(hp.push (PySem.W.kdv_tup us)).push (PySem.HandSPX.excO C hp.objs.size), g, dr, tk, os⟩ :=
    I1.laid (t' := tk) (a := hp.objs.size + 1) (o := exo (hp.objs.size + 1) C none) (h' := (hp.push (PySem.W.kdv_tup us)).push (PySem.HandSPX.excO C hp.objs.size)) kk hsz (exo_ok hget)
  have r2 : Vals (V.ref (hp.objs.size + 1) :: (vs ++ dvs)) (Value.ref (hp.objs.size + 1) :: (us ++ ds)) := .cons rfl (r1.append hd)
  have hl : (Value.ref (hp.objs.size + 1) :: us ++ ds).length = ps.length := by
    have e := r2.length
    rw [F1.len _ _ _ _ hq] at e
    exact e.symm
  have hus : us.length ≤ sizeLine := by
    rw [← Paired.length r1, sizeLine_eq]
    omega
  refine wpAny_call (PySem.HandSPX.call_own F.excBase_ValueError (fun Y => PySem.HandSPX.refsVE_contains Y bm hbm) (I1.kIn _ _ hC) (PySem.W.looks_findIn I1.kIn iC) (fun self => PySem.W.bind_fn I1.kIn self tI) hus
    (codeAny_mono (F1.run _ X.stack _ _ ⟨Value.ref (hp.objs.size + 1) :: us, []⟩ (Value.ref (hp.objs.size + 1) :: (us ++ ds)) _ _ (fun _ _ _ => False) (hr.make C us []) (I2.env0.make C us []) (hb _ (Value.ref (hp.objs.size + 1) :: us) I2.kIn hl) r2 hq) fun r s' hq' => ?_))
  cases r with
  | error er => exact hx pins σ _ _ er s' I2 hq'
  | ok fl =>
    cases fl with
    | ret u =>
      obtain ⟨v, H2, os2, bare2, un2, hok2, rv, ev, d, fs, ea, ed, hd1, q2⟩ := hq'
      subst ev
      obtain ⟨h2, g2, d2, t2, os'⟩ := s'
      obtain ⟨t0, G, J, kG, ge, hoe, na⟩ := mk_end0 (d2 := d2) (t2 := t2) I1 hsz kk un2 hok2 os2 bare2 ea ed hd1
      refine ⟨rv, ⟨hp.objs.size + 1, _, _, ⟨G, g2, d2, t2, os'⟩, _, .ref C, some d, rfl, J, kG, ge, hoe, ⟨rfl, rfl, fun vs hv => ?_⟩, rfl, rfl, na, rfl, bare2, raises_own T.exC T.tyC, q2⟩⟩
      cases hv
      rfl
    | next => exact False.elim hq'
    | brk => exact False.elim hq'
    | cont => exact False.elim hq'
/-- an own exception class whose __init__ stores its arguments under the names ns -/
structure ExcC (K : PySem.W.Frag) (C : Addr) (f : Str) : Prop where
  oex : OexC K C
  no : PySem.W.findIn K (.ref C) f = some none
/-- what such an __init__ does, with one argument -/
def spI1 (K : PySem.W.Frag) (f : Str) : Sp := fun vs H Q _ => ∃ (a C : Addr) (y : V), vs = [.ref a, y] ∧ OexC K C ∧ PySem.W.findIn K (.ref C) f = some none ∧ H a = some (exo a C none) ∧ ∀ dx, H dx = none → dx ≠ a → Q .non (upd (upd H dx (exd dx [(f, y)])) a (exo a C (some dx)))
structure IniX (P : Program) (w : World) (K : PySem.W.Frag) (mg : Str → Option Value) (base : Heap) (k : Nat) (x f : Str) : Prop where
  ex : ∃ (fI : Addr) (fd : FuncData) (ps : List Str), FnOk P w K mg base CX0 k fI fd ps (spI1 K f) ∧ ps.length = 2 ∧ Binds K fd ps [] ∧ PySem.W.findIn K (.ref (He.ga K x)) "__init__" = some (some (.ref fI)) ∧ PySem.W.typeIn K (.ref fI) = some (.type "function") ∧ OexC K (He.ga K x) ∧ PySem.W.findIn K (.ref (He.ga K x)) f = some none ∧ mg x = some (.ref (He.ga K x))
def dRaise (x : Str) (ns : List Str) (da : DL) : DS := fun E c => da c fun ds c1 => ds.length = ns.length ∧ E.ra ⟨x, ns, ds⟩ c1
theorem upd_raise {H1 : Hp} {a dx C : Addr} {f : Str} {y : V} (ha : H1 a = none) (hne : dx ≠ a) : upd (del (upd (upd (upd H1 a (exo a C none)) dx (exd dx [(f, y)])) a (exo a C (some dx))) a) dx (.xd [(f, y)]) = upd H1 dx (.xd [(f, y)]) := by
  funext b
  by_cases hb : b = dx
  · rw [hb, upd_same, upd_same]
  · rw [upd_ne hb, upd_ne hb]
    by_cases hba : b = a
    · rw [hba, del_same, ha]
    · rw [del_ne hba, upd_ne hba, upd_ne hb, upd_ne hba]
theorem rs_raise1 {P : Program} {w : World} {K : PySem.W.Frag} {mg : Str → Option Value} {base : Heap} {k : Nat} {x f : Str} {p pos pos' : Pos} {e : Expr} {da : DL} (D : IniX P w K mg base k x f) (hP : X.prog = P) (hw : X.w = w) (hK : X.K = K) (hmg : X.mg = mg) (hb : X.base = base)
    (hc : X.calm = true) (ha : QL X PL [e] da) (hr : Room (k + 1) X.A) (hg : Gl X x) (tk : L2N.Takes X W) (hdb : (x == ("__debug__" : Str)) = false := by decide) (he : starEach [e] X.env = (false, eval e X.env) :: starEach [] X.env := by rfl) (hpl : (backTo pos (starEach [] X.env)).any (·.1) = false := by rfl) :
    RS X PL W (.Raise (some (.Call (.Name x p) [e] [] pos)) none pos') (dRaise x [f] da) := by
  subst hP hw hK hmg hb
  obtain ⟨fI, fd, ps, hf, hps, hbd, h1, h2, h3, h4, h5⟩ := D.ex
  refine rs_by (L2N.ps_raise hc tk (pmk_oexN h3 h1 h2 hf hr hbd .nil pass0 hg h5 ha.pa hdb he hpl)) fun G B c σ H E D h1' h2' _ _ _ _ h7 => ?_
  refine ⟨G, B, c, _, h1', h2', fun ds c1 B1 H1 vs ⟨hl, hra⟩ e1 hc1 rl => ?_⟩
  match ds, hl, hra, rl with
  | [d], _, hra, rl =>
    unfold RepL at rl
    obtain ⟨v, r, rfl, r1, r2⟩ := rl
    unfold RepL at r2
    subst r2
    refine ⟨by show 1 ≤ 1000; decide, fun a hna => ⟨a, He.ga X.K x, v, rfl, h3, h4, upd_same, fun dx hdx hne => ⟨rfl, dx, [(f, v)], upd_same, by rw [upd_ne hne, upd_same], by rw [upd_ne hne] at hdx; exact hdx, ?_⟩⟩⟩
    rw [upd_raise hna hne]
    have hdx1 : H1 dx = none := by rw [upd_ne hne] at hdx; exact hdx
    obtain ⟨hc2, s2⟩ := Conc.dat (o := .xd [(f, v)]) hc1 hdx1
    refine h7 _ _ _ _ _ _ _ hra (e1.trans s2) hc2 ⟨rfl, dx, [v], rfl, upd_same, rfl, ?_⟩
    exact RepL.one (r1.mono s2)
/-! ### try .. except C as e: .. -/
/-- the clause's own exception as a datum, the suite behind it -/
def catchX (i : Nat) (mt : Str → Bool) (suite : Addr → Str → Addr → DS) (E : CEnds) (ex : Exn) (c : CEnv) : Prop := mt ex.cls = true ∧ ∀ a dd, suite a ex.cls dd { nx := fun c => E.nx (c.set i .no), rt := E.rt, bk := fun c => E.bk (c.set i .no), ct := fun c => E.ct (c.set i .no) } (c.set i (.dat (.exc a ex.cls dd ex.ns ex.fs)))
def dTry (i : Nat) (mt : Str → Bool) (body : DS) (suite : Addr → Str → Addr → DS) : DS := fun E c => body { E with ra := catchX i mt suite E } c
theorem qs_try {x n : Str} {cV : Value} {i : Nat} {body suite : List Stmt} {b₀ : Stmt} {np pos pos' : Pos} {mt : Str → Bool} {db : DS} {dsu : Addr → Str → Addr → DS} (hs : X.stack = X.env :: X.outer) (hf : X.env.frame = some X.env.locals) (hN : X.N.Nodup) (hi : X.N[i]? = some n) (hln : X.env.kindOf n = some .local) (hc : Names X x cV)
    (hm : ∀ y, mt y = true → PySem.W.exmOne X.K (.ref (He.ga X.K y)) cV = some true)
    (hb : ∀ (W : WX) (pn : List (Addr × Obj)) (xe : Value → Shared → Prop), L2N.Takes (X.tr pn xe) W → PassesOwn (model X.prog X.w) X.A X.env xe → RSs (X.tr pn xe) PL W body db)
    (hsu : ∀ (a : Addr) (oe : Obj) (y : Str) (dd : Addr) (pn : List (Addr × Obj)), mt y = true → L2N.Zn (.ref (He.ga X.K y)) (some dd) oe → (∃ vs, oe.data = .fields vs) → QSs (X.suite a ((a, oe) :: pn)) PL (b₀ :: suite) (dsu a y dd)) :
    QS X.nox PL (.Try body [.ExceptHandler (some (.Name x np)) (some n) (b₀ :: suite) pos'] [] [] pos) (dTry i mt db dsu) := by
  refine qs_of (X := X.nox) (L2N.ps_try_as (X := X.nox) (Wout := fun _ _ _ _ => False) (tb := fun W => lX X.K PL W db) (ts := fun a cls d D σ H => ∃ (y : Str) (dd : Addr), cls = .ref (He.ga X.K y) ∧ d = some dd ∧ mt y = true ∧ lS X.K PL (dsu a y dd) D σ H) hs hf hN hi hln hc takes0N
    (fun W pn xe tk hp => (hb W pn xe tk hp).pss) fun a oe cls d pn hz hd => ⟨fun pins s σ H D I ⟨y, dd, e1, e2, hmt, q⟩ => ?_⟩) fun G B c σ H E D h1 h2 h3 h4 h5 h6 => ?_
  · subst e1 e2
    exact ((hsu a oe y dd pn hmt hz hd).pss).run pins s σ H D I q
  · refine ⟨G, B, c, _, h1, h2, h3, h4, h5, h6, fun ex c1 B1 σ1 H1 cls d ⟨hmt, hra⟩ e1 hc1 xo => ?_⟩
    obtain ⟨z1, dd, xs, z2, z3, z4, z5⟩ := xo
    subst z1 z2
    refine ⟨true, hm _ hmt, fun _ a ha => ⟨ex.cls, dd, rfl, rfl, hmt, ?_⟩, fun z => by cases z⟩
    have rx : Rep X.K B1 (.exc a ex.cls dd ex.ns ex.fs) (.ref a) := by
      unfold Rep
      exact ⟨rfl, xs, z3, z4, z5⟩
    refine ⟨G, B1, _, _, hc1.setDat (i := i) rx, hra a dd, fun c2 B2 σ2 H2 q2 e2 hc2 => h3 _ _ _ _ q2 (e1.trans e2) (hc2.setNo none), h4, fun c2 B2 σ2 H2 q2 e2 hc2 => h5 _ _ _ _ q2 (e1.trans e2) (hc2.setNo none), fun c2 B2 σ2 H2 q2 e2 hc2 => h6 _ _ _ _ q2 (e1.trans e2) (hc2.setNo none)⟩
/-- a field of the caught exception -/
def lookF (n : Str) : List Str → List Dt → (Dt → Prop) → Prop
  | x :: xs, d :: ds, k => if n = x then k d else lookF n xs ds k
  | _, _, _ => False
theorem lookF_ok {K : PySem.W.Frag} {B : Hp} {n : Str} : ∀ {ns : List Str} {ds : List Dt} {xs : List V} {k : Dt → Prop}, RepL K B ds xs → xs.length = ns.length → lookF n ns ds k → ∃ d v, (ns.zip xs).lookup n = some v ∧ Rep K B d v ∧ k d
  | [], ds, xs, k, _, _, h => by cases ds <;> exact h.elim
  | x :: ns, [], xs, k, _, _, h => h.elim
  | x :: ns, d :: ds, xs, k, r, hl, h => by
    unfold RepL at r
    obtain ⟨v, q, rfl, r1, r2⟩ := r
    unfold lookF at h
    by_cases e : n = x
    · rw [if_pos e] at h
      subst e
      exact ⟨d, v, by simp [List.lookup], r1, h⟩
    · rw [if_neg e] at h
      obtain ⟨d', v', h1, h2, h3⟩ := lookF_ok r2 (by simpa using hl) h
      have : (n == x) = false := by simpa using e
      exact ⟨d', v', by rw [List.zip_cons_cons, List.lookup, this]; exact h1, h2, h3⟩
def fieldX (a : Addr) (y : Str) (dd : Addr) (ok : List Str) (n : Str) (x : Dt) (k : Dt → Prop) : Prop := match x with
  | .exc a' y' dd' ns fs => a' = a ∧ y' = y ∧ dd' = dd ∧ y ∈ ok ∧ lookF n ns fs k
  | _ => False
def dFld (a : Addr) (y : Str) (dd : Addr) (ok : List Str) (n : Str) (de : DE) : DE := fun c Q => de c fun r c1 => asD r c1 fun x c2 => fieldX a y dd ok n x fun d => Q (.dat d) c2
theorem qe_fld {a dd : Addr} {y n : Str} {ok : List Str} {oe : Obj} {pn : List (Addr × Obj)} {e : Expr} {de : DE} {pos : Pos} (hok : ∀ y ∈ ok, XfC X.K (He.ga X.K y) ∧ PySem.W.findIn X.K (.ref (He.ga X.K y)) n = some none)
    (hz : L2N.Zn (.ref (He.ga X.K y)) (some dd) oe) (hf : ∃ vs, oe.data = .fields vs) (he : QE (X.suite a ((a, oe) :: pn)) PL e de) (hy : y ∈ ok) (hb : attributeBase e n X.env (eval e X.env) = eval e X.env := by rfl) :
    QE (X.suite a ((a, oe) :: pn)) PL (.Attribute e n pos) (dFld a y dd ok n de) := by
  refine q_of (X := X.suite a ((a, oe) :: pn)) (pe_xf (X := X) (hok y hy).1 (hok y hy).2 hz.zc hf he.pe hb) fun G B c σ H Qd Q hc hd2 hq => ?_
  refine ⟨G, B, c, _, hc, hd2, fun r c1 B1 H1 v q e1 cr => ?_⟩
  obtain ⟨B2, c2, x, e2, hc2, rx, q2⟩ := asD_ok cr q
  cases x with
  | exc a' y' dd' ns fs =>
    obtain ⟨rfl, rfl, rfl, _, q3⟩ := q2
    unfold Rep at rx
    obtain ⟨rfl, xs, z1, z2, z3⟩ := rx
    obtain ⟨d, v, w1, w2, w3⟩ := lookF_ok z3 z2 q3
    exact ⟨rfl, rfl, _, _, v, rfl, hc2.same _ _ z1, w1, hq _ _ B2 H1 v w3 (e1.trans e2) ⟨hc2, w2⟩⟩
  | _ => exact q2.elim
end
end Cl

namespace Cl
open PySem PySem.Spec PyProof.Rows L2
variable {PL : PoolP}
/-! ### a def that may raise, by its body -/
def fnEndsX (as : List AArg) (R : Res → List AArg → Prop) (Z : Exn → List AArg → Prop) : CEnds := { nx := fun c => bk as c (R (.dat .non)), rt := retB as R, ra := fun ex c => bk as c (Z ex) }
theorem fnX {P : Program} {w : World} {K : PySem.W.Frag} {mg : Str → Option Value} {base : Heap} {x qual : Str} {st : Stmt} {dvs : List V} {kws : List (Str × V)} {f : Addr} {fd : FuncData} {N ps : List Str} {k : Nat} {F : FSX} {ds : DS} (Fn : FunD K x qual (defArgs st) (defBody st) (defScope st) dvs kws f fd) (Sc : FnScope N ps (defScope st))
    (body : ∀ (cdv : Value) (A : Around) (outer : List Env) (s : Shared) (H : Hp) (E : XK), Room k (A.deeper (envOfC qual (defScope st) s.heap.objs.size f cdv)) → RSs (cxOf (L2N.CX P w) P w K mg base N qual (defScope st) f cdv A outer s H E) PL (fun cls d _ H => E cls d H) (defBody st) ds)
    (red : ∀ as R Z, as.length = ps.length → F as R Z → ds (fnEndsX as R Z) (c0 as N.length)) : FnOk P w K mg base (L2N.CX P w) (k + 1) f fd ps (spX K PL ps.length F) := by
  have hN : ps.length ≤ N.length := by
    have := congrArg List.length Sc.pre
    rw [List.length_take] at this
    omega
  refine Fn.ok Sc (fun vs H Q E h => ?_) fun cdv A outer s H vs Q E hr h => ?_
  · obtain ⟨B, as, fs, R, Z, h1, _, h3, _⟩ := h
    rw [← h3.1, h1]
  · obtain ⟨B, as, fs, R, Z, hn, sB, ao, ap, hF, q, qz⟩ := h
    have fin : ∀ (G : Ent), G.B = B → G.H = H → G.fp = fs → (∀ i o, as[i]? = some (.ob o) → ∀ p, G.ow i = some p → vs[i]? = some (.ref p)) → ∀ (r : Res) (c' : CEnv) (B' : Hp) (σ' : L2.St) (H' : Hp) (v : V), retB as R r c' → CR K PL G B' c' σ' H' r v → Q v H' := by
      intro G g1 g2 g3 g4 r c' B' σ' H' v hr' cr
      cases r with
      | dat d =>
        obtain ⟨as', b1, b2⟩ := bk_ok (show bk as c' (R (.dat d)) from hr')
        obtain ⟨⟨F', C⟩, rd⟩ := cr
        obtain ⟨fs', m0, m1, m2, m3, m4, m5, m6, m7, m8, m9⟩ := conc_back hn g1 g2 g3 g4 ao C b1
        exact q _ as' B' H' v fs' b2 m1 m2 m3 m4 m5 m6 m7 m8 m9 rd
      | new o =>
        obtain ⟨as', b1, b2⟩ := bk_ok (show bk as c' (R (.new o)) from hr')
        obtain ⟨F2, C2⟩ := (show Conc K PL G B' (c' ++ [.own o]) (σ' ++ [some v]) H' from cr)
        have C := C2.pop
        obtain ⟨fs', m0, m1, m2, m3, m4, m5, m6, m7, m8, m9⟩ := conc_back hn g1 g2 g3 g4 ao C b1
        have hl : c'.length = σ'.length := by simpa using C2.len
        obtain ⟨y, s1, p, s2, s3, s4⟩ := C2.slots c'.length (.own o) (by rw [List.getElem?_append_right (Nat.le_refl _)]; simp)
        rw [hl, List.getElem?_append_right (Nat.le_refl _)] at s1
        have ey : y = some v := by simpa using s1.symm
        subst ey
        have ev : v = .ref p := Option.some.inj s2
        refine q _ as' B' H' v fs' b2 m1 m2 m3 m4 m5 m6 m7 m8 m9 ⟨p, F2 c'.length, ev, s3, fun b hb => ⟨C2.off _ b hb, by rw [← g2]; exact s4 b hb, fun k hk => ?_⟩⟩
        obtain ⟨z1, o2, z2⟩ := m0 k b hk
        have hk2 : k < c'.length := (List.getElem?_eq_some_iff.mp z2).1
        simp only [hk2, if_true] at z1
        exact C2.disj k c'.length (by omega) b z1 hb
      | sl i =>
        have hr2 : (match gt c' i with
          | .own o => bk as c' (R (.new o))
          | _ => False) := hr'
        cases g : gt c' i with
        | no => simp only [g] at hr2
        | dat d => simp only [g] at hr2
        | arg o => simp only [g] at hr2
        | own o =>
          simp only [g] at hr2
          obtain ⟨as', b1, b2⟩ := bk_ok hr2
          obtain ⟨⟨F', C⟩, rv⟩ := cr
          obtain ⟨fs', m0, m1, m2, m3, m4, m5, m6, m7, m8, m9⟩ := conc_back hn g1 g2 g3 g4 ao C b1
          have gi := gt_get g (by simp)
          obtain ⟨y, s1, p, s2, s3, s4⟩ := C.slots i _ gi
          rw [rv] at s1
          cases s1
          cases s2
          refine q _ as' B' H' _ fs' b2 m1 m2 m3 m4 m5 m6 m7 m8 m9 ⟨p, F' i, rfl, s3, fun b hb => ⟨C.off _ b hb, by rw [← g2]; exact s4 b hb, fun k hk => ?_⟩⟩
          obtain ⟨z1, o2, z2⟩ := m0 k b hk
          have hki : k ≠ i := fun e => by
            rw [e, gi] at z2
            cases z2
          exact C.disj k i hki b z1 hb
    refine ⟨_, (body cdv A outer s H E hr).pss, _, B, _, _, ⟨_, conc_start hn (by omega) sB ao ap⟩, red as R Z hn hF, ?_, ?_, ?_, ?_, ?_⟩
    · intro c' B' σ' H' hx e hc
      exact fin _ rfl rfl rfl (fun i o e1 p e2 => by
        have e3 : (match as[i]?, vs[i]? with
          | some (.ob _), some (.ref p) => some p
          | _, _ => none) = some p := e2
        rw [e1] at e3
        cases g : vs[i]? with
        | none => rw [g] at e3; cases e3
        | some u =>
          rw [g] at e3
          cases u with
          | ref a => rw [show a = p from Option.some.inj e3]
          | _ => cases e3) (.dat .non) c' B' σ' H' .non hx ⟨hc, by unfold Rep; rfl⟩
    · intro r c' B' σ' H' v hx cr
      exact fin _ rfl rfl rfl (fun i o e1 p e2 => by
        have e3 : (match as[i]?, vs[i]? with
          | some (.ob _), some (.ref p) => some p
          | _, _ => none) = some p := e2
        rw [e1] at e3
        cases g : vs[i]? with
        | none => rw [g] at e3; cases e3
        | some u =>
          rw [g] at e3
          cases u with
          | ref a => rw [show a = p from Option.some.inj e3]
          | _ => cases e3) r c' B' σ' H' v hx cr
    · intro c' B' σ' H' hx e hc
      exact hx.elim
    · intro c' B' σ' H' hx e hc
      exact hx.elim
    · intro ex c' B' σ' H' cls d hx e hc xo
      obtain ⟨as', b1, b2⟩ := bk_ok (show bk as c' (Z ex) from hx)
      obtain ⟨F', C⟩ := hc
      obtain ⟨fs', m0, m1, m2, m3, m4, m5, m6, m7, m8, m9⟩ := conc_back hn rfl rfl rfl (fun i o e1 p e2 => by
        have e3 : (match as[i]?, vs[i]? with
          | some (.ob _), some (.ref p) => some p
          | _, _ => none) = some p := e2
        rw [e1] at e3
        cases g : vs[i]? with
        | none => rw [g] at e3; cases e3
        | some u =>
          rw [g] at e3
          cases u with
          | ref a => rw [show a = p from Option.some.inj e3]
          | _ => cases e3) ao C b1
      exact qz ex as' B' H' cls d fs' b2 m1 m2 m3 m4 m5 m6 m7 m8 m9 xo
theorem takesC {P : Program} {w : World} {K : PySem.W.Frag} {mg : Str → Option Value} {base : Heap} {N : List Str} {qual : Str} {sc : Scope} {f : Addr} {cdv : Value} {A : Around} {outer : List Env} {s : Shared} {H : Hp} {E : XK} : L2N.Takes (cxOf (L2N.CX P w) P w K mg base N qual sc f cdv A outer s H E) (fun cls d _ H => E cls d H) :=
  L2N.takes_of rfl rfl rfl rfl
theorem passesC {P : Program} {w : World} {K : PySem.W.Frag} {mg : Str → Option Value} {base : Heap} {N : List Str} {qual : Str} {sc : Scope} {f : Addr} {cdv : Value} {A : Around} {outer : List Env} {s : Shared} {H : Hp} {E : XK} : PassesOwn (model P w) (cxOf (L2N.CX P w) P w K mg base N qual sc f cdv A outer s H E).A (cxOf (L2N.CX P w) P w K mg base N qual sc f cdv A outer s H E).env (cxOf (L2N.CX P w) P w K mg base N qual sc f cdv A outer s H E).xe :=
  passes_of (X := cxOf (L2N.CX P w) P w K mg base N qual sc f cdv A outer s H E) rfl
/-! ### an own exception class: what is asked of the written part -/
def oexB (K : PySem.W.Frag) (C : Addr) : Bool := (match K.lookup C with
  | some ⟨.type "type", _, .cls cd, sl⟩ => (match cd.mro, sl.toList with
    | .ref C' :: bm, [_, _, _, _, some (.builtin n), _] => C' == C && n == "ValueError.__new__" && !cd.hasDel && cd.hasDict && PySem.HandSPX.refsVE bm
    | _, _ => false)
  | _ => false) && (decide (PySem.W.findIn K (.ref C) "__setattr__" = some (some (.builtin "object.__setattr__"))) && (decide (PySem.W.subIn K (.ref C) (.type "BaseException") = some true) && (decide (PySem.W.typeIn K (.ref C) = some (.type "type")) && PySem.W.keepIn K (.ref C))))
theorem oexB_ok {K : PySem.W.Frag} {C : Addr} (h : oexB K C = true) : OexC K C := by
  unfold oexB at h
  obtain ⟨q, h⟩ := He.ba h
  obtain ⟨h1, h⟩ := He.ba h
  obtain ⟨h2, h⟩ := He.ba h
  obtain ⟨h3, h4⟩ := He.ba h
  refine ⟨?_, of_decide_eq_true h1, of_decide_eq_true h2, of_decide_eq_true h3, h4⟩
  split at q
  · rename_i dd cd sl ho
    split at q
    · rename_i C' bm k0 k1 k2 k3 n k5 hm hs
      simp only [Bool.and_eq_true, beq_iff_eq, Bool.not_eq_true'] at q
      obtain ⟨⟨⟨⟨rfl, rfl⟩, hdel⟩, hdt⟩, ht⟩ := q
      obtain ⟨nm, bs, mro, ns, qn, hd, sn, sub, ab, col, del⟩ := cd
      dsimp only at hm hdel hdt
      subst hm hdel hdt
      have hsl : sl = #[k0, k1, k2, k3, some (.builtin "ValueError.__new__"), k5] := by
        obtain ⟨l⟩ := sl
        simp only at hs
        rw [hs]
      subst hsl
      exact ⟨nm, qn, ns, bs, bm, sn, sub, ab, col, dd, k0, k1, k2, k3, k5, ho, ht⟩
    · cases q
  · cases q
/-- all that is asked of the class x whose __init__ stores one argument under f -/
def exc1B (x f : Str) (K : PySem.W.Frag) : Bool := oexB K (He.ga K x) && (He.eqO (PySem.W.findIn K (.ref (He.ga K x)) f) (some none) && (He.eqO (PySem.W.findIn K (.ref (He.ga K x)) "__init__") (some (some (.ref (He.fAd K (x, some "__init__"))))) && (decide (PySem.W.typeIn K (.ref (He.fAd K (x, some "__init__"))) = some (.type "function")) && xfB K (He.ga K x))))
structure Exc1 (x f : Str) (K : PySem.W.Frag) : Prop where
  oex : OexC K (He.ga K x)
  no : PySem.W.findIn K (.ref (He.ga K x)) f = some none
  ini : PySem.W.findIn K (.ref (He.ga K x)) "__init__" = some (some (.ref (He.fAd K (x, some "__init__"))))
  fn : PySem.W.typeIn K (.ref (He.fAd K (x, some "__init__"))) = some (.type "function")
  xf : XfC K (He.ga K x)
theorem exc1_ok {x f : Str} {K : PySem.W.Frag} (h : exc1B x f K = true) : Exc1 x f K := by
  obtain ⟨h1, h⟩ := He.ba h
  obtain ⟨h2, h⟩ := He.ba h
  obtain ⟨h3, h⟩ := He.ba h
  obtain ⟨h4, h5⟩ := He.ba h
  exact ⟨oexB_ok h1, He.eqO_ok h2, He.eqO_ok h3, of_decide_eq_true h4, xfB_ok h5⟩
theorem ini_sp {K : PySem.W.Frag} {N : List Str} {f : Str} {vs : List V} {H : Hp} {Q : VK} {E : XK} (h : spI1 K f vs H Q E) : tOst K f (tVar 0) (tVar 1) { nx := fun _ H' => Q .non H', rt := Q } (L2.start N vs) H := by
  obtain ⟨a, C, y, rfl, h1, h2, h3, h4⟩ := h
  exact ⟨y, start_get rfl, .ref a, start_get rfl, a, C, rfl, h1, h2, .inl ⟨h3, h4⟩⟩
theorem binds0 {K : PySem.W.Frag} {fd : FuncData} {ps : List Str} (h : ∃ ws ds, Vals ws ds ∧ (∀ B, RepL K B [] ws) ∧ Binds K fd ps ds) : Binds K fd ps [] := by
  obtain ⟨ws, ds, h1, h2, h3⟩ := h
  have e : ws = [] := by
    have := h2 fun _ => none
    unfold RepL at this
    exact this
  subst e
  cases h1
  exact h3
theorem inix {P : Program} {w : World} {K : PySem.W.Frag} {mg : Str → Option Value} {base : Heap} {k : Nat} {x f : Str} {fd : FuncData} {ps : List Str} (hf : FnOk P w K mg base CX0 k (He.fAd K (x, some "__init__")) fd ps (spI1 K f)) (hl : ps.length = 2) (hb : Binds K fd ps []) (h : Exc1 x f K) (hm : mg x = some (.ref (He.ga K x))) : IniX P w K mg base k x f :=
  ⟨_, fd, ps, hf, hl, hb, h.ini, h.fn, h.oex, h.no, hm⟩
def clsS (s : Stmt) (j : Nat) : Stmt := match s with
  | .ClassDef _ _ _ b _ _ _ _ _ _ _ => b.getD j (.Pass ⟨0, 0, 0, 0⟩)
  | s => s
def mtL (l : List Str) (y : Str) : Bool := l.contains y
theorem mtL_mem {l : List Str} {y : Str} (h : mtL l y = true) : y ∈ l := by
  unfold mtL at h
  simpa using h
/-! ### readings -/
theorem c_endsX_rt {as : List AArg} {R : Res → List AArg → Prop} {Z : Exn → List AArg → Prop} {r : Res} {c : CEnv} : (fnEndsX as R Z).rt r c = retB as R r c := rfl
theorem c_endsX_nx {as : List AArg} {R : Res → List AArg → Prop} {Z : Exn → List AArg → Prop} {c : CEnv} : (fnEndsX as R Z).nx c = bk as c (R (.dat .non)) := rfl
theorem c_endsX_ra {as : List AArg} {R : Res → List AArg → Prop} {Z : Exn → List AArg → Prop} {ex : Exn} {c : CEnv} : (fnEndsX as R Z).ra ex c = bk as c (Z ex) := rfl
theorem e_dCallX {n : Nat} {F : FSX} {dv : DV} {c : CEnv} {Q : Res → CEnv → Prop} {Z : Exn → CEnv → Prop} : dCallX n F dv c Q Z = (dv c fun avs c1 => avs.length = n ∧ nodupO avs = true ∧ lookQ avs c1 fun as => F as (fun r as' => retC r (putA avs as' 0 c1) Q) fun ex as' => Z ex (putA avs as' 0 c1)) := propext Iff.rfl
theorem e_dDropX {de : DEX} {E : CEnds} {c : CEnv} : dDropX de E c = de c (fun _ c1 => E.nx c1) E.ra := propext Iff.rfl
theorem e_dAsgX {i : Nat} {de : DEX} {E : CEnds} {c : CEnv} : dAsgX i de E c = de c (fun r c1 => put i r c1 E.nx) E.ra := propext Iff.rfl
theorem e_dAsgGX {g : DG} {de : DEX} {E : CEnds} {c : CEnv} : dAsgGX g de E c = de c (fun r c1 => asD r c1 fun d c2 => g d c2 E.nx) E.ra := propext Iff.rfl
theorem e_dRetX {de : DEX} {E : CEnds} {c : CEnv} : dRetX de E c = de c (fun r c1 => toRet r c1 E.rt) E.ra := propext Iff.rfl
theorem e_dRaise {x : Str} {ns : List Str} {da : DL} {E : CEnds} {c : CEnv} : dRaise x ns da E c = (da c fun ds c1 => ds.length = ns.length ∧ E.ra ⟨x, ns, ds⟩ c1) := propext Iff.rfl
theorem e_dTry {i : Nat} {mt : Str → Bool} {body : DS} {suite : Addr → Str → Addr → DS} {E : CEnds} {c : CEnv} : dTry i mt body suite E c = body { E with ra := catchX i mt suite E } c := propext Iff.rfl
theorem c_catchX {i : Nat} {mt : Str → Bool} {suite : Addr → Str → Addr → DS} {E : CEnds} {x : Str} {ns : List Str} {fs : List Dt} {c : CEnv} : catchX i mt suite E ⟨x, ns, fs⟩ c = (mt x = true ∧ ∀ a dd, suite a x dd { nx := fun c => E.nx (c.set i .no), rt := E.rt, bk := fun c => E.bk (c.set i .no), ct := fun c => E.ct (c.set i .no) } (c.set i (.dat (.exc a x dd ns fs)))) := propext Iff.rfl
theorem e_dFld {a dd : Addr} {y n : Str} {ok : List Str} {de : DE} {c : CEnv} {Q : Res → CEnv → Prop} : dFld a y dd ok n de c Q = (de c fun r c1 => asD r c1 fun x c2 => fieldX a y dd ok n x fun d => Q (.dat d) c2) := propext Iff.rfl
theorem c_fieldX {a dd : Addr} {y n : Str} {ok ns : List Str} {fs : List Dt} {k : Dt → Prop} : fieldX a y dd ok n (.exc a y dd ns fs) k = (y ∈ ok ∧ lookF n ns fs k) := by
  unfold fieldX
  simp
theorem c_lookF {n : Str} {ns : List Str} {d : Dt} {ds : List Dt} {k : Dt → Prop} : lookF n (n :: ns) (d :: ds) k = k d := if_pos rfl
theorem c_mtL1 {x : Str} : (mtL [x] x = true) = True := by simp [mtL]
theorem c_in1 {x : Str} : (x ∈ [x]) = True := by simp
/-- {} -/
def dEmp : DE := fun c Q => Q (.dat .emp) c
theorem qe_emp {X : Cx} {pos : Pos} : QE X PL (.Dict [] [] pos) dEmp := by
  refine q_of pe_dnewK fun G B c σ H Qd Q hc hd2 hq => ?_
  intro l hl
  obtain ⟨hc2, s2⟩ := Conc.dat (o := .dK []) hc hl
  refine hq _ _ _ _ _ hd2 s2 ⟨hc2, ?_⟩
  unfold Rep
  exact ⟨l, rfl, upd_same⟩
theorem e_dEmp {c : CEnv} {Q : Res → CEnv → Prop} : dEmp c Q = Q (.dat .emp) c := propext Iff.rfl
/-- o[i] as a target, o an own list -/
def gSubI (i : Nat) (dx : DE) : DG := fun d c Q => obL c i fun _ => dx c fun rx c3 => ixQ rx c3 i d Q
theorem qg_sub {X : Cx} {i : Nat} {x : Str} {xpos spos : Pos} {ix : Expr} {dx : DE} (ho : PE X (.Name x xpos) (tVar i)) (hi : QE X PL ix dx)
    (ha : ∀ v, assign (.Subscript (.Name x xpos) ix spos) X.env v = (do
      let ov ← holding [v] (eval (.Name x xpos) X.env)
      let iv ← holding [v, ov] (eval ix X.env)
      standAt spos
      holding [v, ov, iv] (setItem ov iv v)
      release [v, ov, iv] []) := by intro _; rfl) : QG X PL (.Subscript (.Name x xpos) ix spos) (gSubI i dx) := by
  refine ⟨PG.weak (pg_sub ho hi.pe set_list ha) fun v σ H Q ⟨G, B, c, d, Qd, h1, h2, h3, h4⟩ => ?_⟩
  obtain ⟨l, hs', q3⟩ := obL_ok h3
  obtain ⟨a, fp, g1, _⟩ := h1.getOb hs'
  refine ⟨.ref a, g1, G, B, c, _, h1, q3, fun rx c3 B3 H3 w q4 e3 cr3 => ?_⟩
  cases rx with
  | dat dd =>
    cases dd with
    | int j =>
      obtain ⟨hc3, r3⟩ := cr3
      unfold Rep at r3
      subst r3
      obtain ⟨m, hs3, q5⟩ := obL_ok q4
      obtain ⟨a', fp', e5, _, xs, e6, e7⟩ := hc3.getOb hs3
      rw [g1] at e5
      cases e5
      unfold setN at q5
      cases g : ixN m.length j with
      | none => simp only [g] at q5
      | some n =>
        simp only [g] at q5
        refine ⟨a, xs, j, n, rfl, rfl, e6, by rw [e7.length]; exact g, ?_⟩
        obtain ⟨hc4, _⟩ := hc3.write hs3 g1 (e7.set (h2.mono e3) n)
        exact h4 _ _ _ _ q5 e3 hc4 rfl
    | _ => exact q4.elim
  | _ => exact q4.elim
theorem c_gSubI {i : Nat} {dx : DE} {d : Dt} {c : CEnv} {Q : CEnv → Prop} : gSubI i dx d c Q = (obS (gt c i) fun _ => dx c fun rx c3 => ixQ rx c3 i d Q) := propext Iff.rfl
theorem c_isi_dict_bool : isiB "dict" "bool" = false := by decide
theorem c_isi_dict_int : isiB "dict" "int" = false := by decide
theorem c_isi_dict_str : isiB "dict" "str" = false := by decide
theorem c_isi_dict_tuple : isiB "dict" "tuple" = false := by decide
theorem c_isi_dict_list : isiB "dict" "list" = false := by decide
theorem c_isi_dict_dict : isiB "dict" "dict" = true := by decide
end Cl

/-! min of three ints; min of a list of tuples of four ints -/
namespace Cl
open PySem PySem.Spec PyProof.Rows L2
variable {PL : PoolP}
def fMin3 : CallF := fun xs k => match xs with
  | [.int i, .int j, .int l] => k (.dat (.int (min (min i j) l)))
  | _ => False
theorem fMin3_ok {xs : List Dt} {k : Res → Prop} (h : fMin3 xs k) : ∃ i j l, xs = [.int i, .int j, .int l] ∧ k (.dat (.int (min (min i j) l))) := by
  unfold fMin3 at h
  split at h
  · exact ⟨_, _, _, rfl, h⟩
  · exact h.elim
theorem nuMin2_int (i j : Int) : nuMin2 (.int i) (.int j) = some (.int (min i j)) := by
  show some (if decide (j < i) = true then V.int j else V.int i) = _
  by_cases h : j < i
  · rw [if_pos (decide_eq_true h), show min i j = j by omega]
  · rw [if_neg (by simpa using h), show min i j = i by omega]
theorem cd_min3 {K : PySem.W.Frag} : CallD K PL (rNuC3 nuMin3) fMin3 := by
  intro G B c σ H xs vs k Q hc rx hf hq
  obtain ⟨i, j, l, rfl, hf⟩ := fMin3_ok hf
  obtain ⟨v, ws, rfl, h1, h2⟩ := rx
  obtain ⟨u, w, rfl, h3, h4⟩ := repHs2 h2
  have e : v = .int i := h1
  have e2 : u = .int j := h3
  have e3 : w = .int l := h4
  subst e e2 e3
  refine ⟨_, _, _, .int (min (min i j) l), rfl, ?_, hq _ _ B H hf (Same.refl B) ⟨hc, by unfold Rep; rfl⟩⟩
  unfold nuMin3
  rw [nuMin2_int]
  exact nuMin2_int _ _
/-! ### tuples of four ints -/
abbrev Q4 := Int × Int × Int × Int
def L4 (p q : Q4) : Prop := p.1 < q.1 ∨ (p.1 = q.1 ∧ (p.2.1 < q.2.1 ∨ (p.2.1 = q.2.1 ∧ (p.2.2.1 < q.2.2.1 ∨ (p.2.2.1 = q.2.2.1 ∧ p.2.2.2 < q.2.2.2)))))
instance (p q : Q4) : Decidable (L4 p q) := by unfold L4; infer_instance
def q4L (p : Q4) : List Int := [p.1, p.2.1, p.2.2.1, p.2.2.2]
def q4D (p : Q4) : Dt := .tup [.int p.1, .int p.2.1, .int p.2.2.1, .int p.2.2.2]
theorem L4.irr (p : Q4) : ¬ L4 p p := by
  unfold L4
  omega
theorem L4.trans {p q r : Q4} (h : L4 p q) (h2 : L4 q r) : L4 p r := by
  unfold L4 at *
  omega
theorem best_min (f : Nat → Q4) : ∀ k, argBest (fun i j => decide (L4 (f i) (f j))) k ≤ k ∧ ∀ j, j ≤ k → ¬ L4 (f j) (f (argBest (fun i j => decide (L4 (f i) (f j))) k))
  | 0 => ⟨Nat.le_refl _, fun j hj => by
    obtain rfl : j = 0 := by omega
    exact L4.irr _⟩
  | k + 1 => by
    obtain ⟨h1, h2⟩ := best_min f k
    simp only [argBest]
    by_cases hc : L4 (f (k + 1)) (f (argBest (fun i j => decide (L4 (f i) (f j))) k))
    · rw [if_pos (decide_eq_true hc)]
      refine ⟨Nat.le_refl _, fun j hj hl => ?_⟩
      rcases Nat.lt_or_ge j (k + 1) with hlt | hge
      · exact h2 j (by omega) (hl.trans hc)
      · obtain rfl : j = k + 1 := by omega
        exact L4.irr _ hl
    · rw [if_neg (by simpa using hc)]
      refine ⟨by omega, fun j hj => ?_⟩
      rcases Nat.lt_or_ge j (k + 1) with hlt | hge
      · exact h2 j (by omega)
      · obtain rfl : j = k + 1 := by omega
        exact hc
theorem vals_getV {xs : List V} {us : List Value} {i : Nat} {u : Value} (h : Vals xs us) (e : us[i]? = some u) : ∃ x, xs[i]? = some x ∧ RelV x u := by
  have hi : i < xs.length := by
    rw [h.length]
    exact (List.getElem?_eq_some_iff.mp e).1
  obtain ⟨u', e1, e2⟩ := Vals.get h (List.getElem?_eq_getElem hi)
  rw [e] at e1
  cases e1
  exact ⟨_, List.getElem?_eq_getElem hi, e2⟩
theorem lex4 (p q : Q4) : Ob.lexAt (fun j => decide ((q4L p).getD j 0 = (q4L q).getD j 0)) (fun j => decide ((q4L p).getD j 0 < (q4L q).getD j 0)) (decide ((q4L p).length < (q4L q).length)) 0 (min (q4L p).length (q4L q).length) = decide (L4 p q) := by
  obtain ⟨a, b, c, d⟩ := p
  obtain ⟨a', b', c', d'⟩ := q
  show Ob.lexAt _ _ (decide (4 < 4)) 0 4 = _
  simp only [Ob.lexAt_succ, Ob.lexAt_zero, q4L, L4, List.getD_cons_zero, List.getD_cons_succ, Nat.reduceAdd]
  by_cases h1 : a = a'
  · by_cases h2 : b = b'
    · by_cases h3 : c = c'
      · by_cases h4 : d = d'
        · simp [h1, h2, h3, h4]
        · simp [h1, h2, h3, h4]
      · simp [h1, h2, h3]
    · simp [h1, h2]
  · simp [h1]
theorem lt_q4 {prog : Program} {w : World} {A : Around} {s : Shared} {l b : Addr} {its its2 : List Value} {p q : Q4} (r1 : IntsAre its (q4L p)) (r2 : IntsAre its2 (q4L q)) (p1 : s.heap.IsTuple l its.toArray) (p2 : s.heap.IsTuple b its2.toArray) (hu : A.units < cLine)
    {E : Value → Shared → Prop} {Q : Value → Shared → Prop} (h : Q (.bool (decide (L4 p q))) s) : wpAny (model prog w) A (richCompare .Lt (.ref l) (.ref b)) Q E s := by
  have e1 : its.toArray.size = (q4L p).length := by rw [List.size_toArray]; exact r1.length
  have e2 : its2.toArray.size = (q4L q).length := by rw [List.size_toArray]; exact r2.length
  have at1 : ∀ j (h1 : j < its.toArray.size), ∃ t, its.toArray[j] = .int ((q4L p).getD j 0) t := fun j h1 => PyProof.Rows.IntsAre.int_at r1 _ _ (by simp at h1; simp [h1])
  have at2 : ∀ j (h1 : j < its2.toArray.size), ∃ t, its2.toArray[j] = .int ((q4L q).getD j 0) t := fun j h1 => PyProof.Rows.IntsAre.int_at r2 _ _ (by simp at h1; simp [h1])
  have R := Ob.RcOp.tuples_lt (A := A) (s := s) (e := fun j => decide ((q4L p).getD j 0 = (q4L q).getD j 0)) (r := fun j => decide ((q4L p).getD j 0 < (q4L q).getD j 0)) p1 p2 hu (fun j h1 h2 => by
    obtain ⟨t, et⟩ := at1 j h1
    obtain ⟨t', et'⟩ := at2 j h2
    rw [et, et']
    have z : ((q4L p).getD j 0 == (q4L q).getD j 0) = decide ((q4L p).getD j 0 = (q4L q).getD j 0) := by
      by_cases q' : (q4L p).getD j 0 = (q4L q).getD j 0
      · rw [decide_eq_true q']; exact beq_iff_eq.mpr q'
      · rw [decide_eq_false q']; exact beq_eq_false_iff_ne.mpr q'
    rw [← z]
    exact SeqAt.EqAt.int_int _ _ _ _) (fun j h1 h2 _ => by
    obtain ⟨t, et⟩ := at1 j h1
    obtain ⟨t', et'⟩ := at2 j h2
    rw [et, et']
    exact Ob.RcOp.lt_int _ _ _ _)
  rw [e1, e2, lex4] at R
  exact R prog w E Q h
def rMinT (K : PySem.W.Frag) : List V → Hp → VK → Prop := fun vs H Q => ∃ (a : Addr) (xs : List V) (f : Nat → Q4), vs = [V.ref a] ∧ SqL K H a xs ∧ 0 < xs.length ∧ (∀ i x, xs[i]? = some x → ∃ t, x = .ref t ∧ SqT K H t ((q4L (f i)).map V.int)) ∧
  ∀ i x, xs[i]? = some x → (∀ j, j < xs.length → ¬ L4 (f j) (f i)) → Q x H
theorem cr_minT {X : Cx} (hc : X.calm = true) (hu : X.A.units + 64 < cLine) : CallR X (.builtin "min") (rMinT X.K) := by
  intro pins s σ H vs us Q I r h
  obtain ⟨a, xs, f, rfl, hs, hne, hx, q⟩ := h
  obtain ⟨its, rv, hl, _⟩ := I.list hs
  rw [Vals.ref1 r]
  have hn : its.toArray.size = xs.length := by rw [List.size_toArray]; exact rv.length.symm
  refine call_min_walkH (PySem.W.iter_listW (A := X.A.in1) (I.ok.hd hc) hl.isList fun s₂ e W st hfp hw hk => ?_)
  refine ⟨_, _, _, _, _, _, _, s.heap, fun i j => decide (L4 (f i) (f j)), rfl, W, st, hfp, by omega, hw, hk, ?_, fun v s' hP m => ?_⟩
  · intro i j vi vj s' Q E hk hi hj hq
    have hi' : its[i]? = some vi := by simpa using hi
    have hj' : its[j]? = some vj := by simpa using hj
    obtain ⟨x, ex, rx⟩ := vals_getV rv hi'
    obtain ⟨y, ey, ry⟩ := vals_getV rv hj'
    obtain ⟨t, rfl, ht⟩ := hx i x ex
    obtain ⟨t', rfl, ht'⟩ := hx j y ey
    cases rx
    cases ry
    obtain ⟨it1, r1, p1, _⟩ := I.tuple ht
    obtain ⟨it2, r2, p2, _⟩ := I.tuple ht'
    obtain ⟨o1, g1, z1⟩ := p1
    obtain ⟨o2, g2, z2⟩ := p2
    exact lt_q4 (Vals.ints r1) (Vals.ints r2) ⟨o1, hk _ _ g1, z1⟩ ⟨o2, hk _ _ g2, z2⟩ (by show X.A.units + 1 < _; omega) hq
  · obtain ⟨h', tk, rfl, hk'⟩ := PySem.W.moved_old e rfl m
    have hv' : its[argBest (fun i j => decide (L4 (f i) (f j))) (its.toArray.size - 1)]? = some v := by simpa using hP
    obtain ⟨x, ex, rx⟩ := vals_getV rv hv'
    obtain ⟨b1, b2⟩ := best_min f (its.toArray.size - 1)
    exact ⟨x, H, I.kept hk', rx, q _ x ex fun j hj => b2 j (by omega)⟩
def minT4 (x : Dt) (k : Res → Prop) : Prop := match x with
  | .lst l => ∃ f : Nat → Q4, 0 < l.length ∧ (∀ i d, l[i]? = some d → d = q4D (f i)) ∧ ∀ i, i < l.length → (∀ j, j < l.length → ¬ L4 (f j) (f i)) → k (.dat (q4D (f i)))
  | _ => False
def fMinT : CallF := arg1 minT4
theorem rep_q4 {K : PySem.W.Frag} {B : Hp} {p : Q4} {x : V} (h : Rep K B (q4D p) x) : ∃ t, x = .ref t ∧ SqT K B t ((q4L p).map V.int) := by
  unfold q4D Rep at h
  obtain ⟨a, xs, rfl, h1, h2⟩ := h
  refine ⟨a, rfl, ?_⟩
  have e : xs = (q4L p).map V.int := by
    simp only [RepL, Rep] at h2
    obtain ⟨x1, r1, rfl, rfl, x2, r2, rfl, rfl, x3, r3, rfl, rfl, x4, r4, rfl, rfl, rfl⟩ := h2
    rfl
  rw [← e]
  exact h1
theorem cd_minT {K : PySem.W.Frag} : CallD K PL (rMinT K) fMinT := by
  intro G B c σ H xs vs k Q hc rx hf hq
  obtain ⟨x, rfl, hf⟩ := arg1_ok hf
  cases x with
  | lst l =>
    obtain ⟨v, rfl, a, ys, rfl, h1, h2⟩ := repHs1 rx
    obtain ⟨f, hl, hx, hk⟩ := hf
    refine ⟨a, ys, f, rfl, .of h1, by rw [h2.length]; exact hl, fun i x ex => ?_, fun i x ex hm => ?_⟩
    · obtain ⟨d, ed, rd⟩ := h2.getV ex
      rw [hx i d ed] at rd
      obtain ⟨t, e, ht⟩ := rep_q4 rd
      exact ⟨t, e, sameT hc.same ht⟩
    · obtain ⟨d, ed, rd⟩ := h2.getV ex
      rw [hx i d ed] at rd
      refine hq _ _ B H (hk i (List.getElem?_eq_some_iff.mp ed).1 fun j hj => hm j (by rw [h2.length]; exact hj)) (Same.refl B) ⟨hc, rd⟩
  | _ => exact hf.elim
theorem c_min3 {i j l : Int} {k : Res → Prop} : fMin3 [.int i, .int j, .int l] k = k (.dat (.int (min (min i j) l))) := rfl
theorem c_minT {l : List Dt} {k : Res → Prop} : fMinT [.lst l] k = minT4 (.lst l) k := rfl
end Cl

/-! text[::-1] -/
namespace Cl
open PySem PySem.Spec PyProof.Rows L2
variable {X : Cx} {PL : PoolP}
def revStr (z : Str) : Str := ⟨z.cps.toList.reverse.toArray⟩
theorem pick_rev (z : Str) : ((Builtin.Str.strSliceIndices none none (-1) z.length).filterMap (z.cps[·]?)).toArray = z.cps.toList.reverse.toArray := by
  rw [picked_rev]
  show (((List.range z.cps.size).map fun k => z.cps.size - 1 - k).filterMap (z.cps[·]?)).toArray = _
  rw [PySem.W.krv_range, List.filterMap_reverse, PySem.W.krv_all]
theorem revStr_len (z : Str) : (revStr z).length = z.length := by
  show z.cps.toList.reverse.toArray.size = z.cps.size
  rw [List.size_toArray, List.length_reverse, Array.length_toList]
def tRevS (te : TE) : TE := fun σ H Q => te σ H fun x H1 => ∃ z, x = .str z ∧ z.length ≤ sizeLine ∧ Q (.str (revStr z)) H1
theorem pe_revS {e : Expr} {te : TE} {k : Nat} {p1 p2 p3 pos : Pos} (he : PE X e te) : PE X (.Subscript e (.Slice none none (some (.UnaryOp .USub (.Constant (.int 1) k p1) p2)) p3) pos) (tRevS te) := by
  refine ⟨fun pins s σ H Q I h => ?_⟩
  refine Subscript_ (thn (he.run pins s σ H _ I h) fun v s1 ⟨x, H1, I1, r1, q1⟩ => ?_)
  obtain ⟨z, ex, hz, q⟩ := q1
  subst ex
  obtain ⟨t, rfl⟩ := r1
  have hst : PO X (some (.UnaryOp .USub (.Constant (.int 1) k p1) p2)) (tPart (tUn (rU fun i => .int (-i)) (tC (.int 1)))) := po_some (pe_un un_neg pe_int)
  refine wpAny_Slice (thn (po_none.run pins s1 σ H1 (fun o H2 => o = none ∧ H2 = H1) I1 ⟨rfl, rfl⟩) fun vl s2 ⟨l, H2, I2, pl, el, e2⟩ => ?_)
  subst el e2
  refine thn (po_none.run pins s2 σ H2 (fun o H3 => o = none ∧ H3 = H2) I2 ⟨rfl, rfl⟩) fun vu s3 ⟨u, H3, I3, pu, eu, e3⟩ => ?_
  subst eu e3
  refine thn (hst.run pins s3 σ H3 (fun o H4 => o = some (-1) ∧ H4 = H3) I3 ⟨1, rfl, -1, rfl, rfl, rfl⟩) fun vs s4 ⟨o, H4, I4, ps, eo, e4⟩ => ?_
  subst eo e4
  have I5 : Inv X pins σ H4 { s4 with heap := s4.heap.push { cls := .type "slice", data := .fields #[vl, vu, vs] } } := I4.kept (t' := s4.toks) fun b ob q => Heap.get?_push_of_some _ q
  obtain ⟨l', rfl, el⟩ := IsPart.raw pl
  obtain ⟨u', rfl, eu⟩ := IsPart.raw pu
  obtain ⟨st, rfl, est⟩ := IsPart.raw ps
  show wpAny (model X.prog X.w) X.A (subscriptTail e (.Slice none none (some (.UnaryOp .USub (.Constant (.int 1) k p1) p2)) p3) (.str z t) (.ref s4.heap.objs.size)) (EP X pins σ Q) X.xe { s4 with heap := s4.heap.push { cls := .type "slice", data := .fields #[_, _, _] } }
  refine tail_any (ops := [.ref s4.heap.objs.size, .str z t]) (typeIs_str _ _ _) PySem.F.slot_str_getitem.lookup ?_ (by with_unfolding_all rfl)
  refine wpAny_getItem_str_slice (l := l') (u := u') (st := st) ⟨_, Heap.get?_push_size _ rfl, rfl, rfl⟩ (by rw [est]; rfl) ?_
  cases l' with
  | some _ => cases el
  | none =>
  cases u' with
  | some _ => cases eu
  | none =>
  cases st with
  | none => cases est
  | some p =>
  obtain ⟨i, u⟩ := p
  obtain rfl : i = -1 := Option.some.inj est
  show Made.post (if ((-1 : Int) == 1 && (Builtin.Str.strSliceIndices none none (-1) z.length).length == z.length) = true then Made.val (.str z t) else Made.str ⟨((Builtin.Str.strSliceIndices none none (-1) z.length).filterMap (z.cps[·]?)).toArray⟩) (EP X pins σ Q) _
  rw [if_neg (by intro c; rw [Bool.and_eq_true] at c; exact absurd c.1 (by decide)), pick_rev]
  exact ⟨by have := revStr_len z; unfold revStr at this; omega, .str _, _, I5.tok _, ⟨_, rfl⟩, q⟩
def fRvS (x : Dt) (k : Res → Prop) : Prop := ∃ t : List Nat, x = .str t ∧ t.length ≤ 10000000 ∧ k (.dat (.str t.reverse))
def dRvS (da : DE) : DE := fun c Q => da c fun r c1 => on1 (hd r) c1 fun x => fRvS x fun z => Q z c1
theorem e_dRvS {da : DE} {c : CEnv} {Q : Res → CEnv → Prop} : dRvS da c Q = (da c fun r c1 => on1 (hd r) c1 fun x => fRvS x fun z => Q z c1) := propext Iff.rfl
theorem c_rvS {l : List Nat} {k : Res → Prop} : fRvS (.str l) k = (l.length ≤ 10000000 ∧ k (.dat (.str l.reverse))) := propext ⟨fun ⟨_, e, h⟩ => by cases e; exact h, fun h => ⟨_, rfl, h⟩⟩
theorem qe_rvS {e : Expr} {k : Nat} {p1 p2 p3 pos : Pos} {da : DE} (h : QE X PL e da) : QE X PL (.Subscript e (.Slice none none (some (.UnaryOp .USub (.Constant (.int 1) k p1) p2)) p3) pos) (dRvS da) := by
  refine q_of (pe_revS h.pe) fun G B c σ H Qd Q hc hd2 hq => ?_
  refine ⟨G, B, c, _, hc, hd2, fun r c1 B1 H1 v g1 e1 cr => ?_⟩
  obtain ⟨B2, e2, hc2, hh⟩ := cr.hold
  obtain ⟨x, rx, hf⟩ := on1_ok hc2 hh g1
  obtain ⟨t, rfl, hl, hf⟩ := hf
  have e3 : v = .str (S t) := rx
  subst e3
  refine ⟨S t, rfl, by rw [S_len]; exact sz7 hl, ?_⟩
  exact hq _ _ _ _ _ hf (e1.trans e2) ⟨hc2, by unfold Rep; rfl⟩
end Cl

/-! one sign in a text: where, how often, what lies between -/
namespace Cl
open PySem PySem.Spec PyProof.Rows L2 Builtin Builtin.Str
variable {PL : PoolP}
def occs (s : List Nat) (ch lo hi : Nat) : List Nat := (List.range' lo (hi - lo)).filter fun i => decide (s[i]? = some ch)
theorem occ_run {s : List Nat} {ch hi limit : Nat} (hh : hi ≤ s.length) : ∀ (n a : Nat) (found : Array Nat) (free : Nat), free ≤ a →
    (forIn (List.range' a n) (found, free) (StrLaws.occBody (S s) (S [ch]) hi limit)).run.fst.toList = found.toList ++ ((List.range' a n).filter fun i => decide (i < hi ∧ s[i]? = some ch)).take (limit - found.size)
  | 0, a, found, free, _ => by simp
  | n + 1, a, found, free, hf => by
    have e1 : (S [ch]).length = 1 := rfl
    have at1 := at_one (ch := ch) (i := a) hh
    rw [List.range'_succ, List.forIn_cons]
    unfold StrLaws.occBody
    by_cases hp : a < hi ∧ s[a]? = some ch
    · have hA : a + (S [ch]).length ≤ hi ∧ subAt (S s) (S [ch]) a = true := at1.mpr hp
      rw [List.filter_cons_of_pos (by simpa using hp)]
      by_cases hl : found.size < limit
      · rw [if_pos ⟨⟨⟨hl, hf⟩, hA.1⟩, hA.2⟩]
        have ih := occ_run (ch := ch) (limit := limit) hh n (a + 1) (found.push a) (a + (S [ch]).length) (by omega)
        have e2 : limit - found.size = (limit - (found.push a).size) + 1 := by
          rw [Array.size_push]
          omega
        rw [e2, List.take_succ_cons]
        show (forIn (List.range' (a + 1) n) (found.push a, a + (S [ch]).length) (StrLaws.occBody (S s) (S [ch]) hi limit)).run.fst.toList = _
        rw [ih, Array.toList_push, List.append_assoc]
        rfl
      · rw [if_neg fun c => hl c.1.1.1]
        have ih := occ_run (ch := ch) (limit := limit) hh n (a + 1) found free (by omega)
        show (forIn (List.range' (a + 1) n) (found, free) (StrLaws.occBody (S s) (S [ch]) hi limit)).run.fst.toList = _
        rw [ih, show limit - found.size = 0 by omega, List.take_zero, List.take_zero]
    · rw [if_neg fun c => hp (at1.mp ⟨c.1.2, c.2⟩), List.filter_cons_of_neg (by simpa using hp)]
      have ih := occ_run (ch := ch) (limit := limit) hh n (a + 1) found free (by omega)
      exact ih
theorem occ_one {s : List Nat} {ch lo hi limit : Nat} (hh : hi ≤ s.length) : occurrences (S s) (S [ch]) lo hi limit = (occs s ch lo hi).take limit := by
  rw [StrLaws.occ_eq, occ_run hh _ _ _ _ (Nat.le_refl _)]
  show [] ++ _ = _
  rw [List.nil_append]
  show List.take (limit - 0) _ = _
  rw [Nat.sub_zero]
  congr 1
  unfold occs
  rcases Nat.lt_or_ge hi lo with h | h
  · rw [show hi + 1 - lo = 0 by omega, show hi - lo = 0 by omega]
    rfl
  · rw [show hi + 1 - lo = (hi - lo) + 1 by omega, List.range'_concat, List.filter_append, show lo + 1 * (hi - lo) = hi by omega]
    have e : ([hi].filter fun i => decide (i < hi ∧ s[i]? = some ch)) = [] := by simp
    rw [e, List.append_nil]
    refine List.filter_congr fun i hi' => ?_
    rw [List.mem_range'_1] at hi'
    have : i < hi := by omega
    simp [this]
theorem occs_len {s : List Nat} {ch lo hi : Nat} : (occs s ch lo hi).length ≤ hi - lo := by
  unfold occs
  exact Nat.le_trans (List.length_filter_le _ _) (by rw [List.length_range']; exact Nat.le_refl _)
theorem occs_mem {s : List Nat} {ch lo hi i : Nat} : i ∈ occs s ch lo hi ↔ lo ≤ i ∧ i < hi ∧ s[i]? = some ch := by
  unfold occs
  rw [List.mem_filter, List.mem_range'_1, decide_eq_true_eq]
  exact ⟨fun ⟨⟨h1, h2⟩, h3⟩ => ⟨h1, by omega, h3⟩, fun ⟨h1, h2, h3⟩ => ⟨⟨h1, by omega⟩, h3⟩⟩
/-- how often -/
theorem occs_count (s : List Nat) (ch : Nat) : ∀ k : Nat, k ≤ s.length → (occs s ch 0 k).length = (s.take k).count ch
  | 0, _ => rfl
  | k + 1, h => by
    have ih := occs_count s ch k (by omega)
    have e : occs s ch 0 (k + 1) = occs s ch 0 k ++ [k].filter fun i => decide (s[i]? = some ch) := by
      unfold occs
      rw [Nat.sub_zero, Nat.sub_zero, List.range'_concat, List.filter_append, show 0 + 1 * k = k by omega]
    have hk : k < s.length := by omega
    rw [e, List.length_append, ih, List.take_add_one, List.getElem?_eq_getElem hk, List.count_append]
    congr 1
    by_cases hc : s[k] = ch
    · subst hc
      simp [List.getElem?_eq_getElem hk]
    · simp [List.getElem?_eq_getElem hk, hc]
/-- the first from lo on -/
def IsFirst (s : List Nat) (ch lo : Nat) (r : Int) : Prop := (r = -1 ∧ ∀ i : Nat, lo ≤ i → s[i]? ≠ some ch) ∨ ∃ n : Nat, r = (n : Int) ∧ lo ≤ n ∧ s[n]? = some ch ∧ ∀ m : Nat, lo ≤ m → m < n → s[m]? ≠ some ch
theorem occs_first {s : List Nat} {ch lo : Nat} : IsFirst s ch lo (match (occs s ch lo s.length).take 1 with | k :: _ => (k : Int) | [] => -1) := by
  cases q : occs s ch lo s.length with
  | nil =>
    refine .inl ⟨rfl, fun i hi hc => ?_⟩
    have hl := (List.getElem?_eq_some_iff.mp hc).1
    have : i ∈ occs s ch lo s.length := occs_mem.mpr ⟨hi, hl, hc⟩
    rw [q] at this
    cases this
  | cons k r =>
    have hk : k ∈ occs s ch lo s.length := by rw [q]; exact List.mem_cons_self ..
    obtain ⟨h1, h2, h3⟩ := occs_mem.mp hk
    refine .inr ⟨k, rfl, h1, h3, fun m hm hmk hc => ?_⟩
    have : m ∈ occs s ch lo s.length := occs_mem.mpr ⟨hm, by omega, hc⟩
    rw [q] at this
    rcases List.mem_cons.mp this with e | hmr
    · omega
    · have hp : (occs s ch lo s.length).Pairwise (· < ·) := by
        unfold occs
        exact (List.pairwise_lt_range' _).sublist (List.filter_sublist ..)
      rw [q] at hp
      have := (List.pairwise_cons.mp hp).1 m hmr
      omega
end Cl

/-! a call gives a token out; f(..).replace(c, d) -/
namespace L2
open PySem PySem.Spec PyProof.Rows
/-- a def's promise, and that a token is out behind the call -/
structure FnOkT (P : Program) (w : World) (K : PySem.W.Frag) (mg : Str → Option Value) (base : Heap) (CX : CXT) (k : Nat) (f : Addr) (fd : FuncData) (ps : List Str) (sp : Sp) : Prop where
  len : ∀ vs H Q E, sp vs H Q E → vs.length = ps.length
  run : ∀ (A : Around) (outer : List Env) (s : Shared) (H : Hp) (args : Args) (us : List Value) (vs : List V) (Q : VK) (E : XK), Room k A → Env0 P w K mg base A outer s H → BindsTo s fd args (ps.zip us) → Vals vs us → sp vs H Q E →
    codeAny (model P w) A (.call (.ref f) args) (fun r s' => 1 ≤ s'.toks ∧ CR CX outer P w H s Q E r s') s
theorem FnOkT.fnOk {P : Program} {w : World} {K : PySem.W.Frag} {mg : Str → Option Value} {base : Heap} {CX : CXT} {k : Nat} {f : Addr} {fd : FuncData} {ps : List Str} {sp : Sp} (F : FnOkT P w K mg base CX k f fd ps sp) : FnOk P w K mg base CX k f fd ps sp :=
  ⟨F.len, fun A outer s H args us vs Q E hr e0 hb r hsp => codeAny_mono (F.run A outer s H args us vs Q E hr e0 hb r hsp) fun _ _ h => h.2⟩
theorem FnOkT.mono {P : Program} {w : World} {K : PySem.W.Frag} {mg : Str → Option Value} {base : Heap} {CX : CXT} {j k : Nat} {f : Addr} {fd : FuncData} {ps : List Str} {sp : Sp} (F : FnOkT P w K mg base CX j f fd ps sp) (h : j ≤ k) : FnOkT P w K mg base CX k f fd ps sp :=
  ⟨F.len, fun A outer s H args us vs Q E hr => F.run A outer s H args us vs Q E (hr.mono h)⟩
theorem fn_okT {CX : CXT} {P : Program} {w : World} {K : PySem.W.Frag} {mg : Str → Option Value} {base : Heap} {k : Nat} {f : Addr} {name qual : Str} {params : Arguments} {body : List Stmt} {scope : Scope} {dV kV doc pm cdv ct oc : Value} {an od : Option Addr}
    {osl : Array (Option Value)} {N ps : List Str} {sp : Sp} (lk : K.lookup f = some ⟨oc, od, .func (PySem.W.fnOf name qual params body scope dV kV doc pm an cdv ct), osl⟩) (hcd : PySem.W.codeIn K cdv qual = true) (S : FnScope N ps scope)
    (hnc : ∀ y ∈ scope.names, y.2 ≠ .cell) (hps : 1 ≤ ps.length) (len : ∀ vs H Q E, sp vs H Q E → vs.length = ps.length)
    (hbody : ∀ (A : Around) (outer : List Env) (s : Shared) (H : Hp) (vs : List V) (Q : VK) (E : XK), Room k (A.deeper (envOfC qual scope s.heap.objs.size f cdv)) → sp vs H Q E →
      ∃ t, PSs (cxOf CX P w K mg base N qual scope f cdv A outer s H E) body t ∧ t { nx := fun _ H' => Q .non H', rt := Q } (start N vs) H) :
    FnOkT P w K mg base CX (k + 1) f (PySem.W.fnOf name qual params body scope dV kV doc pm an cdv ct) ps sp := by
  refine ⟨len, fun A outer s H args us vs Q E hr e0 hb r hsp => ?_⟩
  have hl := len _ _ _ _ hsp
  have hul : us.length = ps.length := by rw [← r.length, hl]
  have KX : K.In s.heap := e0.mod.kin.keeps fun b o e => (e0.bs b o e).1
  have lim : s.heap.NoLimit := e0.mod.nolimit.keeps fun b o e => (e0.bs b o e).1
  have hloc : ∀ y ∈ ps.zip us, scope.names.lookup y.1 = some .local := fun ⟨n, v⟩ hy => by
    rcases S.par n (List.of_mem_zip hy).1 with q | q
    · exact q
    · exact absurd rfl (hnc _ (PySem.mem_of_lookup q))
  refine codeAny_call_function hr.depth (KX _ _ lk) rfl S.co S.gen rfl (PySem.W.codeRec_of KX hcd) (hb _ _ _ _ ?_)
  refine wpAny_newFunctionEnv hnc hloc (fun h1 hns hsb => ?_) S.kind
  have hz : (ps.zip us).length = ps.length := by rw [List.length_zip, hul, Nat.min_self]
  have keep : ∀ b o, s.heap.get? b = some o → h1.get? b = some o := fun b o e => hsb.extBut b o (Nat.ne_of_lt (Heap.lt_size e)) (Heap.get?_push_of_some _ e)
  have hcl : cellsFrom (s.heap.objs.size + 1) scope.names [] = [] := cells_none _ _ _ hnc
  have hkl : ∀ y ∈ ps.zip us, (envOfC qual scope s.heap.objs.size f cdv).kindOf y.1 = some .local := fun y hy => by
    first
    | exact hloc y hy
    | (simp only [Env.kindOf]; exact hloc y hy)
    | (unfold Env.kindOf; rw [if_pos S.kind]; exact hloc y hy)
    | simpa [Env.kindOf, envOfC, newEnv, S.kind] using hloc y hy
  have hm : (bindL (envOfC qual scope s.heap.objs.size f cdv).kindOf (ps.zip us) fun _ => none) = fun x => (ps.zip us).reverse.lookup x := by
    funext y
    rw [bindL_loc _ _ hkl y]
    cases (ps.zip us).reverse.lookup y <;> rfl
  have x : InCallC s s.heap.objs.size (bindL (envOfC qual scope s.heap.objs.size f cdv).kindOf (ps.zip us) fun _ => none) (cellsFrom (s.heap.objs.size + 1) scope.names [])
      (bindC (envOfC qual scope s.heap.objs.size f cdv).kindOf (ps.zip us) fun _ => none) ({ s with heap := h1, toks := s.toks + (ps.zip us).length } : Shared) := by
    rw [hm, hcl]
    exact ⟨⟨⟨_, _, rfl⟩, hns, keep, Nat.le_refl _⟩, fun n c hc => absurd hc (by simp), .nil, fun n c hc => absurd hc (by simp)⟩
  have henv : newEnv scope s.heap.objs.size mainGlobals [] (qual ++ ".<locals>.") (some f) cdv none builtinsNs = envOfC qual scope s.heap.objs.size f cdv := by
    unfold envOfC
    rw [hcl] <;> rfl
  have hto : 1 ≤ ({ s with heap := h1, toks := s.toks + (ps.zip us).length } : Shared).toks := by
    show 1 ≤ s.toks + (ps.zip us).length
    omega
  show ({ s with heap := h1, toks := s.toks + (ps.zip us).length } : Shared).heap.NoLimit ∧ codeAny (model P w) A (.func body (newEnv scope s.heap.objs.size mainGlobals [] (qual ++ ".<locals>.") (some f) cdv none builtinsNs)) _ ({ s with heap := h1, toks := s.toks + (ps.zip us).length } : Shared)
  rw [henv]
  generalize ({ s with heap := h1, toks := s.toks + (ps.zip us).length } : Shared) = s1 at x hto ⊢
  refine ⟨lim.keeps x.toInCall.keep, codeAny_func ?_⟩
  obtain ⟨t, ht, hq⟩ := hbody A outer s H vs Q E (hr.deeper _) hsp
  have I : Inv (cxOf CX P w K mg base N qual scope f cdv A outer s H E) [] (start N vs) H s1 := inv_start S hr.hd e0 hl r x
  refine wpAny_mono (PySem.wpAny_toks_of hto (ht.run [] s1 (start N vs) H _ I hq)) (fun fl s' hs => ?_) fun e s' hs => PySem.wpAny_toks_of hs.1 hs.2
  obtain ⟨hk, hs⟩ := hs
  refine ⟨hk, ?_⟩
  have fin : ∀ {σ' : St} {H' : Hp} {v : V} {u : Value}, Inv (cxOf CX P w K mg base N qual scope f cdv A outer s H E) [] σ' H' s' → RelV v u → Q v H' → CE outer P w H s Q u s' :=
    fun {σ' H' v u} J rv q => ⟨v, H', J.os, J.bare, J.base, J.hok, rv, q⟩
  cases fl with
  | ret u =>
    obtain ⟨v, σ', H', J, rv, q⟩ := hs
    exact fin J rv q
  | next =>
    obtain ⟨σ', H', J, q⟩ := hs
    exact fin (v := V.non) (u := Value.none) J rfl q
  | brk =>
    obtain ⟨_, _, _, q⟩ := hs
    exact False.elim q
  | cont =>
    obtain ⟨_, _, _, q⟩ := hs
    exact False.elim q
theorem okT {x qual : Str} {params : Arguments} {body : List Stmt} {scope : Scope} {dvs : List V} {kws : List (Str × V)} {f : Addr} {fd : FuncData} {P : Program} {w : World} {K : PySem.W.Frag} {mg : Str → Option Value} {base : Heap} {CX : CXT} {N ps : List Str} {k : Nat} {sp : Sp} (F : FunD K x qual params body scope dvs kws f fd) (S : FnScope N ps scope) (hnc : ∀ y ∈ scope.names, y.2 ≠ .cell) (hps : 1 ≤ ps.length) (len : ∀ vs H Q E, sp vs H Q E → vs.length = ps.length)
    (hbody : ∀ (cdv : Value) (A : Around) (outer : List Env) (s : Shared) (H : Hp) (vs : List V) (Q : VK) (E : XK), Room k (A.deeper (envOfC qual scope s.heap.objs.size f cdv)) → sp vs H Q E →
      ∃ t, PSs (cxOf CX P w K mg base N qual scope f cdv A outer s H E) body t ∧ t { nx := fun _ H' => Q .non H', rt := Q } (start N vs) H) : FnOkT P w K mg base CX (k + 1) f fd ps sp := by
  obtain ⟨oc, od, dV, kV, doc, pm, an, cdv, ct, osl, rfl, lk, hcd, _, _⟩ := F.ex
  exact fn_okT lk hcd S hnc hps len fun A outer s H vs Q E hr hsp => hbody cdv A outer s H vs Q E hr hsp
section
variable {X : Cx} {CX : CXT} {k : Nat} {f : Addr} {fd : FuncData} {ps : List Str} {sp : Sp} {dvs : List V} {ds : List Value} {E : XK} {x : Str} {p pos apos pos2 : Pos} {e : Expr} {es : List Expr} {t : TA}
theorem run_fnT {pins : List (Addr × Obj)} {σ : St} {H : Hp} {s : Shared} {Q : VK} {us : List Value} {vs : List V} (F : FnOkT X.prog X.w X.K X.mg X.base CX k f fd ps sp) (hr : Room k X.A) (hb : Binds X.K fd ps ds) (hd : Vals dvs ds) (hx : Passes CX X E)
    (I : Inv X pins σ H s) (r : Vals vs us) (h : sp (vs ++ dvs) H Q E) : wpAny (model X.prog X.w) X.A (call (.ref f) us) (fun u s' => 1 ≤ s'.toks ∧ EP X pins σ Q u s') X.xe s := by
  have r2 : Vals (vs ++ dvs) (us ++ ds) := r.append hd
  have hl : (us ++ ds).length = ps.length := by rw [← r2.length]; exact F.len _ _ _ _ h
  refine wpAny_call (codeAny_mono (F.run X.A X.stack s H ⟨us, []⟩ (us ++ ds) (vs ++ dvs) Q E hr I.env0 (hb s us I.kIn hl) r2 h) fun r s' hq => ?_)
  obtain ⟨hk, hq⟩ := hq
  cases r with
  | error e => exact hx pins σ H s e s' I hq
  | ok fl =>
    cases fl with
    | ret u => exact ⟨hk, I.after hq⟩
    | next => exact False.elim hq
    | brk => exact False.elim hq
    | cont => exact False.elim hq
theorem call_T (F : FnOkT X.prog X.w X.K X.mg X.base CX k f fd ps sp) (hr : Room k X.A) (hg : Gl X x) (hm : X.mg x = some (.ref f)) (hk : PySem.W.keepIn X.K (.ref f) = true) (hb : Binds X.K fd ps ds) (hd : Vals dvs ds) (hx : Passes CX X E)
    (ha : PA X (e :: es) t) (hdb : (x == ("__debug__" : Str)) = false := by decide) (he : starEach (e :: es) X.env = (false, eval e X.env) :: starEach es X.env := by rfl) (hpl : (backTo pos (starEach es X.env)).any (·.1) = false := by rfl)
    {pins : List (Addr × Obj)} {s : Shared} {σ : St} {H : Hp} {Q : VK} (I : Inv X pins σ H s) (h : tCall sp dvs E t σ H Q) :
    wpAny (model X.prog X.w) X.A (eval (.Call (.Name x p) (e :: es) [] pos) X.env) (fun u s' => 1 ≤ s'.toks ∧ EP X pins σ Q u s') X.xe s := by
  refine wpAny_Call_Name_kw (ld_glob I hg hm ?_ hdb)
  refine PySem.W.callWith_K (h₀ := X.base) I.ok.mod.kin hk (thn (ha.run pos pins s σ H _ I h) fun us s1 ⟨vs, H1, I1, r, q⟩ => ⟨I1.kIn, ?_⟩) he hpl
  exact run_fnT F hr hb hd hx I1 r q
/-- f(..).replace(c, d) -/
theorem pe_replT {y z : Str} {j j2 : Nat} {c0 c1 : Pos} (F : FnOkT X.prog X.w X.K X.mg X.base CX k f fd ps sp) (hr : Room k X.A) (hg : Gl X x) (hm : X.mg x = some (.ref f)) (hk : PySem.W.keepIn X.K (.ref f) = true) (hb : Binds X.K fd ps ds) (hd : Vals dvs ds) (hx : Passes CX X E)
    (ha : PA X (e :: es) t) (hyz : (y == z) = false := by decide) (hdb : (x == ("__debug__" : Str)) = false := by decide) (he : starEach (e :: es) X.env = (false, eval e X.env) :: starEach es X.env := by rfl) (hpl : (backTo pos (starEach es X.env)).any (·.1) = false := by rfl)
    (hst : starEach [.Constant (.str y) j c0, .Constant (.str z) j2 c1] X.env = [(false, eval (.Constant (.str y) j c0) X.env), (false, eval (.Constant (.str z) j2 c1) X.env)] := by rfl)
    (hbase : attributeBase (.Call (.Name x p) (e :: es) [] pos) "replace" X.env (eval (.Call (.Name x p) (e :: es) [] pos) X.env) = eval (.Call (.Name x p) (e :: es) [] pos) X.env := by rfl) (hline : (apos.endLine == pos2.line) = true := by rfl) :
    PE X (.Call (.Attribute (.Call (.Name x p) (e :: es) [] pos) "replace" apos) [.Constant (.str y) j c0, .Constant (.str z) j2 c1] [] pos2) (CwR.tReplC (tCall sp dvs E t) y z) := by
  refine ⟨fun pins s σ H Q I h => ?_⟩
  refine PySem.Call_method2 hbase hst hline (wpAny_mono (call_T F hr hg hm hk hb hd hx ha hdb he hpl I h) (fun v s1 q => ?_) fun _ _ z => z)
  obtain ⟨hk, v', H1, I1, r1, x, e1, hb, q⟩ := q
  subst e1
  obtain ⟨tx, e2⟩ := r1
  subst e2
  refine ⟨"str", _, PySem.F.plainAttrs_str, PySem.F.slot_str_replace, PySem.F.type_str_replace, typeIs_str _ _ _, (fun _ e => nomatch e), Calls.callWith_builtin rfl (Calls.evalArgs_plain (Calls.spliced_cons ?_))⟩
  refine Calls.Constant_str (Calls.spliced_cons (Calls.Constant_str (Calls.spliced_nil ?_)))
  exact PySem.SC.replace (by show s1.toks ≠ 0; omega) (by show s1.toks + 1 ≠ 0; omega) (by show s1.toks ≠ s1.toks + 1; omega) hyz hb fun t' k => ⟨.str (Txt.replace _ y z), H1, I1.tok k, ⟨t', rfl⟩, q⟩
end
end L2
namespace Cl
open PySem PySem.Spec PyProof.Rows L2
section
variable {PL : PoolP}
theorem fnCT {P : Program} {w : World} {K : PySem.W.Frag} {mg : Str → Option Value} {base : Heap} {x qual : Str} {st : Stmt} {dvs : List V} {kws : List (Str × V)} {f : Addr} {fd : FuncData} {N ps : List Str} {k : Nat} {F : FS} {ds : DS} (Fn : FunD K x qual (defArgs st) (defBody st) (defScope st) dvs kws f fd) (Sc : FnScope N ps (defScope st))
    (body : ∀ (cdv : Value) (A : Around) (outer : List Env) (s : Shared) (H : Hp) (E : XK), Room k (A.deeper (envOfC qual (defScope st) s.heap.objs.size f cdv)) → QSs (cxOf CX0 P w K mg base N qual (defScope st) f cdv A outer s H E).nox PL (defBody st) ds)
    (hnc : ∀ y ∈ (defScope st).names, y.2 ≠ .cell) (hps : 1 ≤ ps.length) (red : ∀ as R, as.length = ps.length → F as R → ds (fnEnds as R) (c0 as N.length)) : FnOkT P w K mg base CX0 (k + 1) f fd ps (spC K PL ps.length F) := by
  have hN : ps.length ≤ N.length := by
    have := congrArg List.length Sc.pre
    rw [List.length_take] at this
    omega
  refine okT Fn Sc hnc hps (fun vs H Q E h => ?_) fun cdv A outer s H vs Q E hr h => ?_
  · obtain ⟨B, as, fs, R, h1, _, h3, _⟩ := h
    rw [← h3.1, h1]
  · obtain ⟨B, as, fs, R, hn, sB, ao, ap, hF, q⟩ := h
    have fin : ∀ (G : Ent), G.B = B → G.H = H → G.fp = fs → (∀ i o, as[i]? = some (.ob o) → ∀ p, G.ow i = some p → vs[i]? = some (.ref p)) → ∀ (r : Res) (c' : CEnv) (B' : Hp) (σ' : L2.St) (H' : Hp) (v : V), retB as R r c' → CR K PL G B' c' σ' H' r v → Q v H' := by
      intro G g1 g2 g3 g4 r c' B' σ' H' v hr' cr
      cases r with
      | dat d =>
        obtain ⟨as', b1, b2⟩ := bk_ok (show bk as c' (R (.dat d)) from hr')
        obtain ⟨⟨F', C⟩, rd⟩ := cr
        obtain ⟨fs', m0, m1, m2, m3, m4, m5, m6, m7, m8, m9⟩ := conc_back hn g1 g2 g3 g4 ao C b1
        exact q _ as' B' H' v fs' b2 m1 m2 m3 m4 m5 m6 m7 m8 m9 rd
      | new o =>
        obtain ⟨as', b1, b2⟩ := bk_ok (show bk as c' (R (.new o)) from hr')
        obtain ⟨F2, C2⟩ := (show Conc K PL G B' (c' ++ [.own o]) (σ' ++ [some v]) H' from cr)
        have C := C2.pop
        obtain ⟨fs', m0, m1, m2, m3, m4, m5, m6, m7, m8, m9⟩ := conc_back hn g1 g2 g3 g4 ao C b1
        have hl : c'.length = σ'.length := by simpa using C2.len
        obtain ⟨y, s1, p, s2, s3, s4⟩ := C2.slots c'.length (.own o) (by rw [List.getElem?_append_right (Nat.le_refl _)]; simp)
        rw [hl, List.getElem?_append_right (Nat.le_refl _)] at s1
        have ey : y = some v := by simpa using s1.symm
        subst ey
        have ev : v = .ref p := Option.some.inj s2
        refine q _ as' B' H' v fs' b2 m1 m2 m3 m4 m5 m6 m7 m8 m9 ⟨p, F2 c'.length, ev, s3, fun b hb => ⟨C2.off _ b hb, by rw [← g2]; exact s4 b hb, fun k hk => ?_⟩⟩
        obtain ⟨z1, o2, z2⟩ := m0 k b hk
        have hk2 : k < c'.length := (List.getElem?_eq_some_iff.mp z2).1
        simp only [hk2, if_true] at z1
        exact C2.disj k c'.length (by omega) b z1 hb
      | sl i =>
        have hr2 : (match gt c' i with
          | .own o => bk as c' (R (.new o))
          | _ => False) := hr'
        cases g : gt c' i with
        | no => simp only [g] at hr2
        | dat d => simp only [g] at hr2
        | arg o => simp only [g] at hr2
        | own o =>
          simp only [g] at hr2
          obtain ⟨as', b1, b2⟩ := bk_ok hr2
          obtain ⟨⟨F', C⟩, rv⟩ := cr
          obtain ⟨fs', m0, m1, m2, m3, m4, m5, m6, m7, m8, m9⟩ := conc_back hn g1 g2 g3 g4 ao C b1
          have gi := gt_get g (by simp)
          obtain ⟨y, s1, p, s2, s3, s4⟩ := C.slots i _ gi
          rw [rv] at s1
          cases s1
          cases s2
          refine q _ as' B' H' _ fs' b2 m1 m2 m3 m4 m5 m6 m7 m8 m9 ⟨p, F' i, rfl, s3, fun b hb => ⟨C.off _ b hb, by rw [← g2]; exact s4 b hb, fun k hk => ?_⟩⟩
          obtain ⟨z1, o2, z2⟩ := m0 k b hk
          have hki : k ≠ i := fun e => by
            rw [e, gi] at z2
            cases z2
          exact C.disj k i hki b z1 hb
    refine ⟨_, (body cdv A outer s H E hr).pss.nox, _, B, _, _, ⟨_, conc_start hn (by omega) sB ao ap⟩, red as R hn hF, ?_, ?_, ?_, ?_⟩
    · intro c' B' σ' H' hx e hc
      exact fin _ rfl rfl rfl (fun i o e1 p e2 => by
        have e3 : (match as[i]?, vs[i]? with
          | some (.ob _), some (.ref p) => some p
          | _, _ => none) = some p := e2
        rw [e1] at e3
        cases g : vs[i]? with
        | none => rw [g] at e3; cases e3
        | some u =>
          rw [g] at e3
          cases u with
          | ref a => rw [show a = p from Option.some.inj e3]
          | _ => cases e3) (.dat .non) c' B' σ' H' .non hx ⟨hc, by unfold Rep; rfl⟩
    · intro r c' B' σ' H' v hx cr
      exact fin _ rfl rfl rfl (fun i o e1 p e2 => by
        have e3 : (match as[i]?, vs[i]? with
          | some (.ob _), some (.ref p) => some p
          | _, _ => none) = some p := e2
        rw [e1] at e3
        cases g : vs[i]? with
        | none => rw [g] at e3; cases e3
        | some u =>
          rw [g] at e3
          cases u with
          | ref a => rw [show a = p from Option.some.inj e3]
          | _ => cases e3) r c' B' σ' H' v hx cr
    · intro c' B' σ' H' hx e hc
      exact hx.elim
    · intro c' B' σ' H' hx e hc
      exact hx.elim
end
end Cl

/-! parting a text at one sign; replacing one sign; counting and finding one -/
namespace Cl
open PySem PySem.Spec PyProof.Rows L2 Builtin Builtin.Str
variable {PL : PoolP}
def splitL (ch : Nat) : List Nat → List (List Nat)
  | [] => [[]]
  | a :: s => if a = ch then [] :: splitL ch s else match splitL ch s with
    | r :: rs => (a :: r) :: rs
    | [] => [[a]]
theorem splitL_ne (ch : Nat) : ∀ s : List Nat, splitL ch s ≠ []
  | [] => List.cons_ne_nil _ _
  | a :: s => by
    unfold splitL
    split
    · exact List.cons_ne_nil _ _
    · split
      · exact List.cons_ne_nil _ _
      · exact List.cons_ne_nil _ _
def partsN (s : List Nat) : Nat → List Nat → List (List Nat)
  | b, [] => [(s.drop b).take (s.length - b)]
  | b, c :: cs => (s.drop b).take (c - b) :: partsN s (c + 1) cs
theorem sub_S (s : List Nat) (i j : Nat) : strSub (S s) i j = S ((s.drop i).take (j - i)) := by
  unfold strSub S
  congr 1
  apply Array.ext'
  simp
theorem parts_S (s : List Nat) : ∀ (cs : List Nat) (b : Nat), (((b :: cs.map (· + 1)).zip (cs ++ [(S s).length])).map fun (i, j) => strSub (S s) i j) = (partsN s b cs).map S
  | [], b => by
    show [strSub (S s) b (S s).length] = [S _]
    rw [sub_S, S_len]
  | c :: cs, b => by
    have ih := parts_S s cs (c + 1)
    show strSub (S s) b c :: (((c + 1) :: cs.map (· + 1)).zip (cs ++ [(S s).length])).map (fun (i, j) => strSub (S s) i j) = S _ :: (partsN s (c + 1) cs).map S
    rw [ih, sub_S]
theorem occs_next {s : List Nat} {ch a : Nat} (h : a < s.length) : occs s ch a s.length = if s[a]? = some ch then a :: occs s ch (a + 1) s.length else occs s ch (a + 1) s.length := by
  unfold occs
  rw [show s.length - a = (s.length - (a + 1)) + 1 by omega, List.range'_succ, List.filter_cons]
  by_cases hc : s[a]? = some ch
  · rw [if_pos hc, if_pos (decide_eq_true hc)]
  · rw [if_neg hc, if_neg (by simpa using hc)]
theorem parts_split {s : List Nat} {ch : Nat} : ∀ (n a b : Nat) (r : List Nat) (rs : List (List Nat)), n = s.length - a → b ≤ a → a ≤ s.length → splitL ch (s.drop a) = r :: rs → partsN s b (occs s ch a s.length) = ((s.drop b).take (a - b) ++ r) :: rs
  | 0, a, b, r, rs, hn, hb, ha, h => by
    have e : a = s.length := by omega
    subst e
    rw [List.drop_length] at h
    have h : [[]] = r :: rs := h
    injection h with h1 h2
    subst h1 h2
    have eo : occs s ch s.length s.length = [] := by
      unfold occs
      rw [Nat.sub_self]
      rfl
    rw [eo, List.append_nil]
    rfl
  | n + 1, a, b, r, rs, hn, hb, ha, h => by
    have hlt : a < s.length := by omega
    rw [List.drop_eq_getElem_cons hlt] at h
    rw [occs_next hlt, List.getElem?_eq_getElem hlt]
    unfold splitL at h
    by_cases hc : s[a] = ch
    · rw [if_pos hc] at h
      injection h with h1 h2
      subst h1
      rw [if_pos (by rw [hc])]
      cases q : splitL ch (s.drop (a + 1)) with
      | nil => exact absurd q (splitL_ne ch _)
      | cons r' rs' =>
        have ih := parts_split n (a + 1) (a + 1) r' rs' (by omega) (Nat.le_refl _) (by omega) q
        show (s.drop b).take (a - b) :: partsN s (a + 1) (occs s ch (a + 1) s.length) = _
        rw [ih, Nat.sub_self, List.take_zero, List.nil_append, List.append_nil, ← h2, q]
    · rw [if_neg hc] at h
      rw [if_neg (by intro z; exact hc (Option.some.inj z))]
      cases q : splitL ch (s.drop (a + 1)) with
      | nil => exact absurd q (splitL_ne ch _)
      | cons r' rs' =>
        rw [q] at h
        have h : (s[a] :: r') :: rs' = r :: rs := h
        injection h with h1 h2
        subst h1 h2
        have ih := parts_split n (a + 1) b r' rs' (by omega) (by omega) (by omega) q
        rw [ih]
        congr 1
        rw [show a + 1 - b = (a - b) + 1 by omega, List.take_add_one, List.getElem?_drop, show b + (a - b) = a by omega, List.getElem?_eq_getElem hlt, List.append_assoc]
        rfl
theorem between_S (s : List Nat) (ch : Nat) : partsBetween (S s) (occs s ch 0 s.length) 1 = (splitL ch s).map S := by
  unfold partsBetween
  rw [parts_S]
  congr 1
  cases q : splitL ch s with
  | nil => exact absurd q (splitL_ne ch _)
  | cons r rs =>
    have := parts_split (s := s) (ch := ch) s.length 0 0 r rs (by omega) (Nat.le_refl _) (Nat.zero_le _) (by rw [List.drop_zero]; exact q)
    rw [this]
    rfl
theorem occ_all (s : List Nat) (ch : Nat) : occurrences (S s) (S [ch]) 0 (S s).length ((S s).length + 1) = occs s ch 0 s.length := by
  rw [S_len, occ_one (Nat.le_refl _), List.take_of_length_le]
  have := occs_len (s := s) (ch := ch) (lo := 0) (hi := s.length)
  omega
theorem split_none {s : List Nat} {ch : Nat} (h : occs s ch 0 s.length = []) : splitL ch s = [s] := by
  cases q : splitL ch s with
  | nil => exact absurd q (splitL_ne ch _)
  | cons r rs =>
    have := parts_split (s := s) (ch := ch) s.length 0 0 r rs (by omega) (Nat.le_refl _) (Nat.zero_le _) (by rw [List.drop_zero]; exact q)
    rw [h] at this
    have this : [(s.drop 0).take (s.length - 0)] = ((s.drop 0).take (0 - 0) ++ r) :: rs := this
    rw [List.drop_zero, Nat.sub_zero, List.take_length, Nat.sub_self, List.take_zero, List.nil_append] at this
    exact this.symm
theorem split_S {s : List Nat} {ch : Nat} (hc : ch < 256) : Txt.split (S s) (S [ch]) = (splitL ch s).map S := by
  have hk : strKind (S [ch]) = 1 := by
    unfold Builtin.Str.strKind
    rw [if_pos (by simp [S, hc])]
  have hk2 : 1 ≤ strKind (S s) := by
    unfold Builtin.Str.strKind
    split
    · exact Nat.le_refl _
    · split <;> omega
  have ho := occ_all s ch
  unfold Txt.split
  by_cases h0 : s = []
  · subst h0
    rfl
  · have hl : 1 ≤ s.length := List.length_pos_iff.mpr h0
    have c : ¬ (decide ((S s).length < (S [ch]).length) || decide (strKind (S s) < strKind (S [ch]))) = true := by
      rw [S_len, S_len, hk]
      simp only [Bool.or_eq_true, decide_eq_true_eq, List.length_singleton]
      omega
    rw [if_neg c, ho]
    by_cases he : occs s ch 0 s.length = []
    · rw [he, split_none he]
      rfl
    · rw [if_neg (by simpa using he)]
      exact between_S s ch
def replL (ch : Nat) (z : List Nat) : List Nat → List Nat
  | [] => []
  | a :: s => if a = ch then z ++ replL ch z s else a :: replL ch z s
theorem join_split (ch : Nat) (z : List Nat) : ∀ s : List Nat, joinN z (splitL ch s) = replL ch z s
  | [] => rfl
  | a :: s => by
    have ih := join_split ch z s
    unfold splitL replL
    cases q : splitL ch s with
    | nil => exact absurd q (splitL_ne ch _)
    | cons r rs =>
      rw [q] at ih
      by_cases hc : a = ch
      · rw [if_pos hc, if_pos hc, ← ih]
        cases rs <;> rfl
      · rw [if_neg hc, if_neg hc, ← ih]
        cases rs <;> rfl
theorem replL_none {s : List Nat} {ch : Nat} {z : List Nat} (h : occs s ch 0 s.length = []) : replL ch z s = s := by
  rw [← join_split, split_none h]
  rfl
theorem repl_S (s : List Nat) (ch : Nat) (z : List Nat) : Txt.replace (S s) (S [ch]) (S z) = S (replL ch z s) := by
  unfold Txt.replace
  rw [occ_all s ch]
  by_cases he : occs s ch 0 s.length = []
  · rw [he, replL_none he]
    rfl
  · rw [if_neg (by
      intro c
      rw [Bool.or_eq_true, Bool.and_eq_true] at c
      rcases c with c | c
      · exact he (by simpa using c)
      · exact absurd c.1 (by rw [S_len]; exact fun z => by cases z))]
    have hj := join_S z (splitL ch s)
    rw [join_split] at hj
    rw [S_len, show ([ch] : List Nat).length = 1 from rfl, between_S]
    exact hj
/-! ### the methods -/
def splitD (s : List Nat) (x : Dt) (k : Res → Prop) : Prop := match x with
  | .str t => one1 t fun ch => (ch < 256 ∧ s.length ≤ 9000000) ∧ k (.new (.lst ((splitL ch s).map Dt.str)))
  | _ => False
def fSplit : MtF := strM fun s => arg1 (splitD s)
theorem rep_strs {K : PySem.W.Frag} {B : Hp} : ∀ l : List (List Nat), RepL K B (l.map Dt.str) ((l.map S).map V.str)
  | [] => .nil
  | t :: l => .cons (by unfold Rep; rfl) (rep_strs l)
theorem mtd_split {K : PySem.W.Frag} : MtD K PL (fun x xs H Q => ∃ a b, x = .str a ∧ xs = [.str b] ∧ (b.length == 0) = false ∧ a.length + 2 ≤ sizeLine ∧ rNewStrs (Txt.split a b) H Q) fSplit := by
  intro G B c σ H s xs vs k Q hc rx hf hq
  obtain ⟨x, rfl, hf⟩ := arg1_ok hf
  cases x with
  | str t =>
    obtain ⟨ch, rfl, ⟨h0, h1⟩, h2⟩ := one1_ok (show one1 t _ from hf)
    obtain ⟨v, rfl, h3⟩ := repHs1 rx
    have e : v = .str (S [ch]) := h3
    subst e
    refine ⟨S s, S [ch], rfl, rfl, rfl, by rw [S_len]; exact sz7 (by omega), fun p hp => ?_⟩
    rw [split_S h0]
    exact hq _ _ _ _ h2 (Same.refl B) (conc_lst hc hp (rep_strs _))
  | _ => exact hf.elim
def count4D (s : List Nat) (xs : List Dt) (k : Res → Prop) : Prop := match xs with
  | .str t :: r => one1 t fun ch => cints2 r fun lo hi => (lo = 0 ∧ 0 ≤ hi ∧ hi ≤ s.length) ∧ k (.dat (.int (((s.take hi.toNat).count ch : Nat) : Int)))
  | _ => False
def fCount4 : MtF := strM count4D
theorem mtd_count4 {K : PySem.W.Frag} : MtD K PL (fun x xs H Q => ∃ (a b : Str) (i j : Int), x = .str a ∧ xs = [.str b, .int i, .int j] ∧ Q (.int (Txt.countIn a b i j)) H) fCount4 := by
  intro G B c σ H s xs vs k Q hc rx hf hq
  have hf2 : count4D s xs k := hf
  cases xs with
  | nil => exact hf2.elim
  | cons x r =>
    cases x with
    | str t =>
      obtain ⟨ch, rfl, h1⟩ := one1_ok (show one1 t _ from hf2)
      obtain ⟨lo, hi, rfl, ⟨z0, z1, z2⟩, h2⟩ := cints2_ok h1
      subst z0
      have e := repHs3 rx
      refine ⟨S s, S [ch], 0, hi, rfl, e, ?_⟩
      have e1 : fromIndex (S s).length 0 = 0 := by
        unfold fromIndex
        simp
      have e2 : toIndexW (S s).length hi = hi.toNat := by
        rw [S_len]
        simp only [toIndexW]
        omega
      have ec : Txt.countIn (S s) (S [ch]) 0 hi = (((s.take hi.toNat).count ch : Nat) : Int) := by
        unfold Txt.countIn
        rw [e1, e2, occ_one (by omega), List.take_of_length_le, occs_count s ch hi.toNat (by omega)]
        have := occs_len (s := s) (ch := ch) (lo := 0) (hi := hi.toNat)
        rw [S_len]
        omega
      rw [ec]
      exact hq _ _ B H h2 (Same.refl B) ⟨hc, by unfold Rep; rfl⟩
    | _ => exact hf2.elim
def find3D (s : List Nat) (xs : List Dt) (k : Res → Prop) : Prop := match xs with
  | [.str t, .int lo] => one1 t fun ch => 0 ≤ lo ∧ ∀ v, IsFirst s ch lo.toNat v → k (.dat (.int v))
  | _ => False
def fFind3 : MtF := strM find3D
theorem find3D_ok {s : List Nat} {xs : List Dt} {k : Res → Prop} (h : find3D s xs k) : ∃ ch lo, xs = [.str [ch], .int lo] ∧ 0 ≤ lo ∧ ∀ v, IsFirst s ch lo.toNat v → k (.dat (.int v)) := by
  unfold find3D at h
  split at h
  · obtain ⟨ch, rfl, h1, h2⟩ := one1_ok h
    exact ⟨ch, _, rfl, h1, h2⟩
  · exact h.elim
theorem first_min {s : List Nat} {ch lo : Nat} {v : Int} (h : IsFirst s ch (min lo s.length) v) : IsFirst s ch lo v := by
  rcases h with ⟨h1, h2⟩ | ⟨n, h1, h2, h3, h4⟩
  · exact .inl ⟨h1, fun i hi => h2 i (by omega)⟩
  · have hn := (List.getElem?_eq_some_iff.mp h3).1
    exact .inr ⟨n, h1, by omega, h3, fun m hm hmn => h4 m (by omega) hmn⟩
theorem mtd_find3 {K : PySem.W.Frag} : MtD K PL (fun x xs H Q => ∃ (a b : Str) (i : Int), x = .str a ∧ xs = [.str b, .int i] ∧ Q (.int (Txt.find3 a b i)) H) fFind3 := by
  intro G B c σ H s xs vs k Q hc rx hf hq
  obtain ⟨ch, lo, rfl, h0, h2⟩ := find3D_ok (show find3D s xs k from hf)
  obtain ⟨v, u, rfl, r1, r2⟩ := repHs2 rx
  have e : v = .str (S [ch]) := r1
  have e2 : u = .int lo := r2
  subst e e2
  refine ⟨S s, S [ch], lo, rfl, rfl, hq _ _ B H (h2 _ ?_) (Same.refl B) ⟨hc, by unfold Rep; rfl⟩⟩
  have e1 : fromIndex (S s).length lo = lo.toNat := by
    unfold fromIndex
    have : ¬ lo < 0 := by omega
    simp only [this, if_false]
    omega
  unfold Txt.find3
  rw [e1, S_len, occ_one (Nat.le_refl _)]
  exact occs_first
def findD (s : List Nat) (x : Dt) (k : Res → Prop) : Prop := match x with
  | .str t => one1 t fun ch => ∀ v, IsFirst s ch 0 v → k (.dat (.int v))
  | _ => False
def fFind : MtF := strM fun s => arg1 (findD s)
theorem mtd_find {K : PySem.W.Frag} : MtD K PL (fun x xs H Q => ∃ a b, x = .str a ∧ xs = [.str b] ∧ Q (.int (Txt.find a b)) H) fFind := by
  intro G B c σ H s xs vs k Q hc rx hf hq
  obtain ⟨x, rfl, hf⟩ := arg1_ok hf
  cases x with
  | str t =>
    obtain ⟨ch, rfl, h2⟩ := one1_ok (show one1 t _ from hf)
    obtain ⟨v, rfl, h3⟩ := repHs1 rx
    have e : v = .str (S [ch]) := h3
    subst e
    refine ⟨S s, S [ch], rfl, rfl, hq _ _ B H (h2 _ ?_) (Same.refl B) ⟨hc, by unfold Rep; rfl⟩⟩
    unfold Txt.find
    rw [S_len, occ_one (Nat.le_refl _)]
    exact occs_first
  | _ => exact hf.elim
end Cl

/-! several clauses, each with its own name; a def that raises, called where it does not; f(..).replace(c, d) -/
namespace L2
open PySem PySem.Spec PyProof.Rows
def wAsL (K : PySem.W.Frag) (Wout : WX) (D : Ends) : List (Value × Nat × (Addr → Value → Option Addr → TS)) → WX
  | [] => Wout
  | (c, i, ts) :: r => fun cls d σ H => ∃ b, PySem.W.exmOne K cls c = some b ∧ (b = true → ∀ a, H a = none → ts a cls d { nx := fun σ' H' => D.nx (σ'.set i none) H', rt := D.rt, bk := fun σ' H' => D.bk (σ'.set i none) H', ct := fun σ' H' => D.ct (σ'.set i none) H' } (σ.set i (some (.ref a))) H) ∧ (b = false → wAsL K Wout D r cls d σ H)
inductive AsOk (X : Cx) : List ExceptHandler → List (Value × Nat × (Addr → Value → Option Addr → TS)) → Prop
  | nil : AsOk X [] []
  | cons {x n : Str} {c : Value} {i : Nat} {ts : Addr → Value → Option Addr → TS} {b₀ : Stmt} {suite : List Stmt} {np pos' : Pos} {hds : List ExceptHandler} {l : List (Value × Nat × (Addr → Value → Option Addr → TS))} (hi : X.N[i]? = some n) (hln : X.env.kindOf n = some .local) (hc : Names X x c)
      (hsu : ∀ (a : Addr) (oe : Obj) (cls : Value) (d : Option Addr) (pn : List (Addr × Obj)), L2N.Zn cls d oe → (∃ vs, oe.data = .fields vs) → PSs (X.suite a ((a, oe) :: pn)) (b₀ :: suite) (ts a cls d)) (r : AsOk X hds l) :
      AsOk X (.ExceptHandler (some (.Name x np)) (some n) (b₀ :: suite) pos' :: hds) ((c, i, ts) :: l)
section
variable {X : Cx} {body : List Stmt} {h₀ : ExceptHandler} {hds : List ExceptHandler} {l : List (Value × Nat × (Addr → Value → Option Addr → TS))} {pos : Pos} {tb : WX → TS} {Wout : WX}
theorem ps_try_asL (hs : X.stack = X.env :: X.outer) (hf : X.env.frame = some X.env.locals) (hN : X.N.Nodup) (tk : L2N.Takes X Wout)
    (hb : ∀ (W : WX) (pn : List (Addr × Obj)) (xe : Value → Shared → Prop), L2N.Takes (X.tr pn xe) W → PassesOwn (model X.prog X.w) X.A X.env xe → PSs (X.tr pn xe) body (tb W))
    (hh : AsOk X (h₀ :: hds) l) : PS X (.Try body (h₀ :: hds) [] [] pos) (fun D σ H => tb (wAsL X.K Wout D l) D σ H) := by
  refine ⟨fun pins s σ H D I h => ?_⟩
  have ok := I.ok
  have hfr : X.A.frames = some (X.env :: X.outer) := by rw [ok.frames, hs]
  refine wpAny_Try_except ?_
  refine wpAny_mono ((hb (wAsL X.K Wout D l) (X.pn ++ pins) (fun e s₁ => wpAny (model X.prog X.w) X.A (noteFrame e X.env) (fun _ s₂ => wpAny (model X.prog X.w) X.A (setFlight e none) (fun _ s₃ =>
    wpAny (model X.prog X.w) X.A (handleBy e X.env (h₀ :: hds)) (SP X pins D) X.xe s₃) X.xe s₂) X.xe s₁) (fun u s' xx => ?_) PassesOwn.looking).run [] s σ H D (I.toTry _) h) (fun f s1 hsp => ?_) (fun e s1 he => he)
  · -- the catch
    obtain ⟨a, B, sI, pins', σ', H', cls, d, rfl, J', nb, up, sky, na, os, ag, w⟩ := xx
    have J : Inv X pins σ' H' sI := J'.ofTry ok
    have sky' : Sky B (X.env :: X.outer) a (L2N.Zn cls d) X.env.locals s'.heap := by rw [← hs]; exact sky
    show wpAny (model X.prog X.w) X.A (noteFrame (.ref a) X.env) _ _ _
    refine L2N.Sky.land L2N.Zn.steady hfr hf sky' fun h3 fl3 up3 => ?_
    have J3 : Inv X pins σ' H' { s' with heap := h3 } := J.landed nb fl3.1 (up.trans up3) os ag
    obtain ⟨oe3, vs3, he3, hz3, hd3⟩ := fl3.there
    have notFr : ∀ {h : Heap} {o : Obj} {vs : Array Value}, h.FunFrames B (X.env :: X.outer) → h.get? a = some o → o.data = .fields vs → a ∉ frs (X.env :: X.outer) := fun {h o vs} ff e dd hm => by
      obtain ⟨_, o', e', hnf⟩ := ff.mem hm
      rw [e] at e'; cases e'
      exact hnf _ dd
    have nfr := notFr fl3.2.2.1 he3 hd3
    have nL : a ≠ X.env.locals := fun z => nfr (List.mem_filterMap.mpr ⟨X.env, List.mem_cons_self, by rw [hf, z]⟩)
    have nF : a ∉ X.fs := fun hm => by
      obtain ⟨e, he, q⟩ := List.mem_filterMap.mp hm
      exact nfr (List.mem_filterMap.mpr ⟨e, List.mem_cons_of_mem _ he, q⟩)
    have S3 := J3.suite he3 hd3 na nL nF
    have go : ∀ {hds' : List ExceptHandler} {l' : List (Value × Nat × (Addr → Value → Option Addr → TS))}, AsOk X hds' l' → wAsL X.K Wout D l' cls d σ' H' →
        wpAny (model X.prog X.w) X.A (handleBy (.ref a) X.env hds') (SP X pins D) X.xe { s' with heap := h3 } := by
      intro hds' l' hk
      induction hk with
      | nil =>
        intro w
        refine wpAny_handleBy_nil ?_
        obtain ⟨k1, k2, k3, oe, vs, T, oT, ts', he, hz, hd, h1, hr⟩ := id fl3
        unfold PySem.passOn
        refine wpAny_bind (wpAny_field he hd h1 ?_)
        rw [if_neg (show ¬ ((Value.ref T == Value.none) = true) from by simp)]
        have fin : wpAny (model X.prog X.w) X.A (setFlight (.ref a) X.env.frame) (fun _ s4 => wpAny (model X.prog X.w) X.A (throw (.ref a) : Sem Flow) (SP X pins D) X.xe s4) X.xe { s' with heap := h3 } := by
          rw [hf]
          refine HandSPX.setFlight_upZ fl3 fun h4 hh4 up4 => wpAny_throw (tk _ _ ?_)
          exact ⟨a, B, sI, pins, σ', H', cls, d, rfl, J, nb, (up.trans up3).trans up4, .inr (.inr (by rw [hs]; exact hh4)), na, os, ag, w⟩
        first
          | exact wpAny_bind (wpAny_pure (wpAny_bind fin))
          | exact wpAny_bind fin
      | @cons x n c i ts b₀ suite np pos' hds2 l2 hi hln hc hsu r ih =>
        intro w
        have hloc : Loc X.env.scope n := .inl hln
        obtain ⟨b, hb1, hyes, hno⟩ := w
        refine wpAny_handleBy_cons (codeAny_handlers_test ?_) (by intro q; cases q)
        have LT : PySem.W.Looks (model X.prog X.w) h3 (typeOf (.ref a)) cls := fun A Q E s k q => wpAny_typeOf_ref (k _ _ he3) (by rw [hz3.1]; exact q)
        have LM := PySem.W.exm_one (M := model X.prog X.w) (J3.kIn) LT hb1
        have test : ∀ {Q : Value → Shared → Prop} {E : Value → Shared → Prop}, Q c { s' with heap := h3 } → wpAny (model X.prog X.w) (X.A.mark (some (.ref a))) (eval (.Name x np) X.env) Q E { s' with heap := h3 } := fun {Q E} q => by
          obtain ⟨hg, hdbg, hm | ⟨hm, hv, hnn⟩⟩ := hc
          · exact ld_glob (X := X.suite a ((a, oe3) :: (X.pn ++ pins))) S3 hg hm q hdbg
          · exact ld_blt (X := X.suite a ((a, oe3) :: (X.pn ++ pins))) S3 hg hm hv q hnn hdbg
        refine test (LM.here ?_)
        cases b with
        | true =>
          refine codeAny_handlers_suite_as ?_
          refine HandSPX.lands_againZ fl3 fun h4 fl4 up4 => ?_
          have J4 : Inv X pins σ' H' { s' with heap := h4 } := J.landed nb fl4.1 ((up.trans up3).trans up4) os ag
          obtain ⟨oe4, vs4, he4, hz4, hd4⟩ := fl4.there
          have S4 := J4.suite he4 hd4 na nL nF
          refine store_ok (X := X.suite a ((a, oe4) :: (X.pn ++ pins))) (v := .ref a) S4 hN hi hloc rfl (fun s5 S5 => ?_) (.inr hln)
          refine wpAny_mono ((hsu a oe4 cls d (X.pn ++ pins) hz4 ⟨_, hd4⟩).run [] s5 _ H' _ S5 (hyes rfl a na)) (fun f s6 hsp => ?_) (fun _ _ z => False.elim z)
          have end_ : ∀ {σ6 : St} {H6 : Hp} {Q : Shared → Prop}, Inv (X.suite a ((a, oe4) :: (X.pn ++ pins))) [] σ6 H6 s6 → (∀ s7, Inv X pins (σ6.set i none) H6 s7 → Q s7) →
              wpAny (model X.prog X.w) X.A (do bindName X.env n .none; unbindBehindTheSuite X.env n pos') (fun _ s7 => Q s7) X.xe s6 := fun {σ6 H6 Q} S6 hq => gone_ok (S6.unsuite ok) hN hi hln hq
          cases f with
          | next =>
            obtain ⟨σ6, H6, S6, q6⟩ := hsp
            exact end_ S6 fun s7 J7 => ⟨_, _, J7, q6⟩
          | brk =>
            obtain ⟨σ6, H6, S6, q6⟩ := hsp
            exact end_ S6 fun s7 J7 => ⟨_, _, J7, q6⟩
          | cont =>
            obtain ⟨σ6, H6, S6, q6⟩ := hsp
            exact end_ S6 fun s7 J7 => ⟨_, _, J7, q6⟩
          | ret u =>
            obtain ⟨v6, σ6, H6, S6, r6, q6⟩ := hsp
            exact end_ S6 fun s7 J7 => ⟨_, _, _, J7, r6, q6⟩
        | false => exact ih (hno rfl)
    exact go hh w
  · cases f with
    | next =>
      obtain ⟨σ', H', J', q⟩ := hsp
      exact wpAny_execs_nil ⟨σ', H', J'.ofTry ok, q⟩
    | brk =>
      obtain ⟨σ', H', J', q⟩ := hsp
      exact ⟨σ', H', J'.ofTry ok, q⟩
    | cont =>
      obtain ⟨σ', H', J', q⟩ := hsp
      exact ⟨σ', H', J'.ofTry ok, q⟩
    | ret u =>
      obtain ⟨v, σ', H', J', r, q⟩ := hsp
      exact ⟨v, σ', H', J'.ofTry ok, r, q⟩
end
end L2
namespace Cl
open PySem PySem.Spec PyProof.Rows L2
variable {PL : PoolP}
/-! ### several clauses -/
abbrev Cla := Nat × (Str → Bool) × (Str → Bool) × (Addr → Str → Addr → DS)
def catchL (E : CEnds) (ex : Exn) (c : CEnv) : List Cla → Prop
  | [] => False
  | (i, mt, mn, su) :: r => (mt ex.cls = true → ∀ a dd, su a ex.cls dd { nx := fun c => E.nx (c.set i .no), rt := E.rt, bk := fun c => E.bk (c.set i .no), ct := fun c => E.ct (c.set i .no) } (c.set i (.dat (.exc a ex.cls dd ex.ns ex.fs)))) ∧
    (mt ex.cls = false → mn ex.cls = true ∧ catchL E ex c r)
def dTryL (cl : List Cla) (body : DS) : DS := fun E c => body { E with ra := fun ex c => catchL E ex c cl } c
def tsOf (K : PySem.W.Frag) (PL : PoolP) (q : Cla) : Addr → Value → Option Addr → TS := fun a cls d D σ H => ∃ (y : Str) (dd : Addr), cls = .ref (He.ga K y) ∧ d = some dd ∧ q.2.1 y = true ∧ lS K PL (q.2.2.2 a y dd) D σ H
inductive ClsOk (X : Cx) (PL : PoolP) : List ExceptHandler → List Cla → List (Value × Nat × (Addr → Value → Option Addr → TS)) → Prop
  | nil : ClsOk X PL [] [] []
  | cons {x n : Str} {cV : Value} {i : Nat} {mt mn : Str → Bool} {dsu : Addr → Str → Addr → DS} {b₀ : Stmt} {suite : List Stmt} {np pos' : Pos} {hds : List ExceptHandler} {cl : List Cla} {l : List (Value × Nat × (Addr → Value → Option Addr → TS))}
      (hi : X.N[i]? = some n) (hln : X.env.kindOf n = some .local) (hc : Names X x cV) (hm : ∀ y, mt y = true → PySem.W.exmOne X.K (.ref (He.ga X.K y)) cV = some true) (hn : ∀ y, mn y = true → PySem.W.exmOne X.K (.ref (He.ga X.K y)) cV = some false)
      (hsu : ∀ (a : Addr) (oe : Obj) (y : Str) (dd : Addr) (pn : List (Addr × Obj)), mt y = true → L2N.Zn (.ref (He.ga X.K y)) (some dd) oe → (∃ vs, oe.data = .fields vs) → QSs (X.suite a ((a, oe) :: pn)) PL (b₀ :: suite) (dsu a y dd)) (r : ClsOk X PL hds cl l) :
      ClsOk X PL (.ExceptHandler (some (.Name x np)) (some n) (b₀ :: suite) pos' :: hds) ((i, mt, mn, dsu) :: cl) ((cV, i, tsOf X.K PL (i, mt, mn, dsu)) :: l)
variable {X : Cx}
theorem ClsOk.asOk {hds : List ExceptHandler} {cl : List Cla} {l : List (Value × Nat × (Addr → Value → Option Addr → TS))} (h : ClsOk X PL hds cl l) : AsOk X.nox hds l := by
  induction h with
  | nil => exact .nil
  | cons hi hln hc hm hn hsu r ih =>
    refine .cons hi hln hc (fun a oe cls d pn hz hd => ⟨fun pins s σ H D I ⟨y, dd, e1, e2, hmt, q⟩ => ?_⟩) ih
    subst e1 e2
    exact ((hsu a oe y dd pn hmt hz hd).pss).run pins s σ H D I q
theorem ClsOk.catch {hds : List ExceptHandler} {cl : List Cla} {l : List (Value × Nat × (Addr → Value → Option Addr → TS))} (h : ClsOk X PL hds cl l) {E : CEnds} {ex : Exn} {c1 : CEnv} {G : Ent} {B B1 : Hp} {σ1 : L2.St} {H1 : Hp} {dd : Addr} {D : Ends}
    (h3 : ∀ c' B' σ' H', E.nx c' → Same B B' → Conc X.K PL G B' c' σ' H' → D.nx σ' H') (h4 : ∀ r c' B' σ' H' v, E.rt r c' → CR X.K PL G B' c' σ' H' r v → D.rt v H')
    (h5 : ∀ c' B' σ' H', E.bk c' → Same B B' → Conc X.K PL G B' c' σ' H' → D.bk σ' H') (h6 : ∀ c' B' σ' H', E.ct c' → Same B B' → Conc X.K PL G B' c' σ' H' → D.ct σ' H')
    (e1 : Same B B1) (hc1 : Conc X.K PL G B1 c1 σ1 H1) (rx : ∀ a, Rep X.K B1 (.exc a ex.cls dd ex.ns ex.fs) (.ref a)) (hcat : catchL E ex c1 cl) :
    wAsL X.K (fun _ _ _ _ => False) D l (.ref (He.ga X.K ex.cls)) (some dd) σ1 H1 := by
  induction h with
  | nil => exact hcat.elim
  | @cons x n cV i mt mn dsu b₀ suite np pos' hds cl l hi hln hc hm hn hsu r ih =>
    obtain ⟨q1, q2⟩ := hcat
    cases hmt : mt ex.cls with
    | true =>
      refine ⟨true, hm _ hmt, fun _ a ha => ⟨ex.cls, dd, rfl, rfl, hmt, ?_⟩, fun z => by cases z⟩
      exact ⟨G, B1, _, _, hc1.setDat (i := i) (rx a), q1 hmt a dd, fun c2 B2 σ2 H2 g1 g2 hc2 => h3 _ _ _ _ g1 (e1.trans g2) (hc2.setNo none), h4, fun c2 B2 σ2 H2 g1 g2 hc2 => h5 _ _ _ _ g1 (e1.trans g2) (hc2.setNo none), fun c2 B2 σ2 H2 g1 g2 hc2 => h6 _ _ _ _ g1 (e1.trans g2) (hc2.setNo none)⟩
    | false =>
      obtain ⟨q3, q4⟩ := q2 hmt
      exact ⟨false, hn _ q3, fun z => (by cases z), fun _ => ih q4⟩
theorem qs_tryL {h₀ : ExceptHandler} {hds : List ExceptHandler} {cl : List Cla} {l : List (Value × Nat × (Addr → Value → Option Addr → TS))} {body : List Stmt} {pos : Pos} {db : DS} (hs : X.stack = X.env :: X.outer) (hf : X.env.frame = some X.env.locals) (hN : X.N.Nodup)
    (hb : ∀ (W : WX) (pn : List (Addr × Obj)) (xe : Value → Shared → Prop), L2N.Takes (X.tr pn xe) W → PassesOwn (model X.prog X.w) X.A X.env xe → RSs (X.tr pn xe) PL W body db)
    (hh : ClsOk X PL (h₀ :: hds) cl l) : QS X.nox PL (.Try body (h₀ :: hds) [] [] pos) (dTryL cl db) := by
  refine qs_of (X := X.nox) (ps_try_asL (X := X.nox) (Wout := fun _ _ _ _ => False) (tb := fun W => lX X.K PL W db) hs hf hN takes0N
    (fun W pn xe tk hp => (hb W pn xe tk hp).pss) hh.asOk) fun G B c σ H E D h1 h2 h3 h4 h5 h6 => ?_
  refine ⟨G, B, c, _, h1, h2, h3, h4, h5, h6, fun ex c1 B1 σ1 H1 cls d hra e1 hc1 xo => ?_⟩
  obtain ⟨z1, dd, xs, z2, z3, z4, z5⟩ := xo
  subst z1 z2
  exact hh.catch (D := D) h3 h4 h5 h6 e1 hc1 (fun a => by
    unfold Rep
    exact ⟨rfl, xs, z3, z4, z5⟩) hra
theorem e_dTryL {cl : List Cla} {body : DS} {E : CEnds} {c : CEnv} : dTryL cl body E c = body { E with ra := fun ex c => catchL E ex c cl } c := rfl
theorem c_catchL {i : Nat} {mt mn : Str → Bool} {su : Addr → Str → Addr → DS} {r : List Cla} {E : CEnds} {ex : Exn} {c : CEnv} : catchL E ex c ((i, mt, mn, su) :: r) = ((mt ex.cls = true → ∀ a dd, su a ex.cls dd { nx := fun c => E.nx (c.set i .no), rt := E.rt, bk := fun c => E.bk (c.set i .no), ct := fun c => E.ct (c.set i .no) } (c.set i (.dat (.exc a ex.cls dd ex.ns ex.fs)))) ∧
    (mt ex.cls = false → mn ex.cls = true ∧ catchL E ex c r)) := rfl
/-! ### a def that raises, where it does not -/
def F0 (F : FSX) : FS := fun as R => F as R fun _ _ => False
theorem DefX.toDef {P : Program} {w : World} {K : PySem.W.Frag} {mg : Str → Option Value} {base : Heap} {k : Nat} {x : Str} {st : Stmt} {dvs : List V} {kws : List (Str × V)} {ps : List Str} {F : FSX} (D : DefX P w K mg base PL k x st dvs kws ps F) : Def P w K mg base PL CX0 k x st dvs kws ps (F0 F) := by
  obtain ⟨f, fd, h1, h2, h3, h4⟩ := D.ex
  refine ⟨f, fd, ⟨fun vs H Q E h => ?_, fun A outer s H args us vs Q E hr e0 hb hv h => ?_⟩, h2, h3, h4⟩
  · obtain ⟨B, as, fs, R, hn, sB, ao, ap, hF, q⟩ := h
    exact h1.len vs H Q (fun _ _ _ => False) ⟨B, as, fs, R, _, hn, sB, ao, ap, hF, q, fun _ _ _ _ _ _ _ z => z.elim⟩
  · obtain ⟨B, as, fs, R, hn, sB, ao, ap, hF, q⟩ := h
    refine codeAny_mono (h1.run A outer s H args us vs Q (fun _ _ _ => False) hr e0 hb hv ⟨B, as, fs, R, _, hn, sB, ao, ap, hF, q, fun _ _ _ _ _ _ _ z => z.elim⟩) fun r s' hc => ?_
    cases r with
    | error e =>
      obtain ⟨_, _, _, _, _, _, _, _, _, _, _, _, z⟩ := hc
      exact z.elim
    | ok fl =>
      cases fl with
      | ret u => exact hc
      | next => exact hc
      | brk => exact hc
      | cont => exact hc
/-! ### f(..).replace(c, d) -/
structure DefT (P : Program) (w : World) (K : PySem.W.Frag) (mg : Str → Option Value) (base : Heap) (PL : PoolP) (CX : CXT) (k : Nat) (x : Str) (st : Stmt) (dvs : List V) (kws : List (Str × V)) (ps : List Str) (F : FS) : Prop where
  ex : ∃ f fd, FnOkT P w K mg base CX k f fd ps (spC K PL ps.length F) ∧ mg x = some (.ref f) ∧ PySem.W.keepIn K (.ref f) = true ∧ FunD K x x (defArgs st) (defBody st) (defScope st) dvs kws f fd
theorem DefT.toDef {P : Program} {w : World} {K : PySem.W.Frag} {mg : Str → Option Value} {base : Heap} {CX : CXT} {k : Nat} {x : Str} {st : Stmt} {dvs : List V} {kws : List (Str × V)} {ps : List Str} {F : FS} (D : DefT P w K mg base PL CX k x st dvs kws ps F) : Def P w K mg base PL CX k x st dvs kws ps F := by
  obtain ⟨f, fd, h1, h2, h3, h4⟩ := D.ex
  exact ⟨f, fd, h1.fnOk, h2, h3, h4⟩
def replD (ch : Nat) (z : List Nat) (x : Dt) (k : Res → Prop) : Prop := match x with
  | .str t => t.length + (t.length + 1) * z.length ≤ 16777216 ∧ k (.dat (.str (replL ch z t)))
  | _ => False
theorem replD_ok {ch : Nat} {z : List Nat} {x : Dt} {k : Res → Prop} (h : replD ch z x k) : ∃ t, x = .str t ∧ t.length + (t.length + 1) * z.length ≤ 16777216 ∧ k (.dat (.str (replL ch z t))) := by
  cases x with
  | str t => exact ⟨t, rfl, h⟩
  | _ => exact h.elim
def dRepl (ch : Nat) (z : List Nat) (de : DE) : DE := fun c Q => de c fun r c1 => on1 (hd r) c1 fun x => replD ch z x fun y => Q y c1
theorem e_dRepl {ch : Nat} {z : List Nat} {de : DE} {c : CEnv} {Q : Res → CEnv → Prop} : dRepl ch z de c Q = (de c fun r c1 => on1 (hd r) c1 fun x => replD ch z x fun y => Q y c1) := propext Iff.rfl
theorem c_replD {ch : Nat} {z t : List Nat} {k : Res → Prop} : replD ch z (.str t) k = (t.length + (t.length + 1) * z.length ≤ 16777216 ∧ k (.dat (.str (replL ch z t)))) := propext Iff.rfl
theorem qe_repl {P : Program} {w : World} {K : PySem.W.Frag} {mg : Str → Option Value} {base : Heap} {CX : CXT} {k : Nat} {x : Str} {st : Stmt} {dvs : List V} {kws : List (Str × V)} {ps : List Str} {F : FS} {p pos apos pos2 c0 c1 : Pos} {e : Expr} {es : List Expr} {dv : DV} {dds : List Dt} {E : XK} {y z : Str} {j j2 ch : Nat} {zl : List Nat} (D : DefT P w K mg base PL CX k x st dvs kws ps F) (hP : X.prog = P) (hw : X.w = w) (hK : X.K = K) (hmg : X.mg = mg) (hb : X.base = base)
    (hbi : ∀ {f : Addr} {fd : FuncData}, FunD K x x (defArgs st) (defBody st) (defScope st) dvs kws f fd → ∃ ws ds, Vals ws ds ∧ (∀ B, RepL K B dds ws) ∧ Binds K fd ps ds)
    (ha : QV X PL (e :: es) dv) (hr : Room k X.A) (hg : Gl X x) (hx : Passes CX X E) (hy : y = S [ch]) (hz : z = S zl) (hyz : (y == z) = false) (hdb : (x == ("__debug__" : Str)) = false := by decide) (he : starEach (e :: es) X.env = (false, eval e X.env) :: starEach es X.env := by rfl) (hpl : (backTo pos (starEach es X.env)).any (·.1) = false := by rfl)
    (hst : starEach [.Constant (.str y) j c0, .Constant (.str z) j2 c1] X.env = [(false, eval (.Constant (.str y) j c0) X.env), (false, eval (.Constant (.str z) j2 c1) X.env)] := by rfl)
    (hbase : attributeBase (.Call (.Name x p) (e :: es) [] pos) "replace" X.env (eval (.Call (.Name x p) (e :: es) [] pos) X.env) = eval (.Call (.Name x p) (e :: es) [] pos) X.env := by rfl) (hline : (apos.endLine == pos2.line) = true := by rfl) :
    QE X PL (.Call (.Attribute (.Call (.Name x p) (e :: es) [] pos) "replace" apos) [.Constant (.str y) j c0, .Constant (.str z) j2 c1] [] pos2) (dRepl ch zl (dCall ps.length F dds dv)) := by
  subst hP hw hK hmg hb
  obtain ⟨f, fd, hf, hm, hk, hfd⟩ := D.ex
  obtain ⟨ws, ds, hv, hrep, hbd⟩ := hbi hfd
  refine q_of (pe_replT hf hr hg hm hk hbd hv hx ha.pa hyz hdb he hpl hst hbase hline) fun G B c σ H Qd Q hc hd2 hq => ?_
  refine ⟨G, B, c, _, hc, hd2, fun avs c1 B1 H1 vs ⟨hn, h1⟩ e1 hc1 hv => ?_⟩
  refine call_ok hc1 (hv.app (AVOk.dats (hrep B1))) hn h1 fun r c' B' H' v q e2 cr => ?_
  obtain ⟨B2, e3, hc2, hh⟩ := cr.hold
  obtain ⟨d, rd, hf2⟩ := on1_ok hc2 hh q
  obtain ⟨t, rfl, hl, hk2⟩ := replD_ok hf2
  have e4 : v = .str (S t) := rd
  subst e4 hy hz
  refine ⟨S t, rfl, by rw [S_len, S_len]; exact hl, ?_⟩
  rw [repl_S]
  exact hq _ _ _ _ _ hk2 ((e1.trans e2).trans e3) ⟨hc2, by unfold Rep; rfl⟩
end Cl

/-! list(text), tuple(text) -/
namespace Cl
open PySem PySem.Spec PyProof.Rows L2
variable {PL : PoolP} {X : Cx}
def sgV (t : List Nat) : List V := (t.map fun c => [c]).map fun z => V.str (S z)
theorem vals_signsL : ∀ {t : List Nat} {l : List Value}, l.length = t.length → (∀ (j : Nat) (v : Value), l[j]? = some v → ∃ c u, t[j]? = some c ∧ v = .str ⟨#[c]⟩ u) → Vals (sgV t) l
  | [], l, hl, _ => by
    obtain rfl : l = [] := List.length_eq_zero_iff.mp hl
    exact .nil
  | a :: t, [], hl, _ => by cases hl
  | a :: t, v :: l, hl, h => by
    obtain ⟨c, u, e1, e2⟩ := h 0 v rfl
    cases e1
    subst e2
    exact .cons ⟨u, rfl⟩ (vals_signsL (by simpa using hl) fun j w e => h (j + 1) w e)
theorem vals_signs {t : List Nat} {acc : Array Value} (hl : acc.size = t.length) (h : ∀ (j : Nat) (v : Value), acc[j]? = some v → ∃ c u, t[j]? = some c ∧ v = .str ⟨#[c]⟩ u) : Vals (sgV t) acc.toList :=
  vals_signsL (by rw [Array.length_toList]; exact hl) fun j v e => h j v (by simpa using e)
theorem signs_of {t : List Nat} {acc : Array Value} (h : PySem.ItemsOf (SignAt (S t)) acc (S t).cps.size) : Vals (sgV t) acc.toList := by
  refine vals_signs (by rw [h.1]; rfl) fun j v hv => ?_
  obtain ⟨c, u, hc, rfl⟩ := h.2 j v hv
  exact ⟨c, u, by simpa [S] using hc, rfl⟩
theorem sg_rep {K : PySem.W.Frag} {B : Hp} : ∀ t : List Nat, RepL K B (t.map fun c => Dt.str [c]) (sgV t)
  | [] => .nil
  | c :: t => .cons (by unfold Rep; rfl) (sg_rep t)
def rSign (q : List V → Hp → VK → Prop) : List V → Hp → VK → Prop := fun xs H Q => ∃ t : List Nat, xs = [.str (S t)] ∧ t.length ≤ sizeLine ∧ q (sgV t) H Q
theorem call_listS (hc : X.calm = true) : CallR X (.type "list") (rSign fun ys H Q => ∀ l, H l = none → Q (.ref l) (upd H l (.lst ys))) := by
  intro pins s σ H xs us Q I r h
  obtain ⟨t, rfl, hz, q⟩ := h
  obtain ⟨u, rfl, rx⟩ := vals1 r
  obtain ⟨tk, rfl⟩ := rx
  refine call_list_str (I.ok.hd hc) (S t) tk (fun h' tk' acc c' hk hS hacc => ?_) (by show t.toArray.size ≤ _; rw [List.size_toArray]; exact hz)
  have hv := signs_of hacc
  exact ⟨.ref s.heap.objs.size, _, I.laid (t' := tk') hk (Nat.le_refl _) (show ObjOk X.prog X.w _ h' _ (.lst (sgV t)) from ⟨by unfold sgV; rw [List.length_map, List.length_map]; exact hz, acc.toList, c', hv, by simpa using hS⟩), rfl, q _ (I.hok.fresh (Nat.le_refl _))⟩
theorem call_tupleS (hc : X.calm = true) : CallR X (.type "tuple") (rSign fun ys H Q => ∀ l, H l = none → Q (.ref l) (upd H l (.tup ys))) := by
  intro pins s σ H xs us Q I r h
  obtain ⟨t, rfl, hz, q⟩ := h
  obtain ⟨u, rfl, rx⟩ := vals1 r
  obtain ⟨tk, rfl⟩ := rx
  refine call_tuple_str (I.ok.hd hc) (S t) tk (fun h' tk' acc hk hacc => ?_) (by show t.toArray.size ≤ _; rw [List.size_toArray]; exact hz)
  have hv := signs_of hacc
  have I1 : Inv X pins σ H { s with heap := h', toks := tk' } := I.kept (t' := tk') hk
  refine ⟨.ref h'.objs.size, _, I1.laid (t' := tk') (o := .tup (sgV t)) (fun b o e => Heap.get?_push_of_some _ e) (Nat.le_refl _) ?_, rfl, q _ (I1.hok.fresh (Nat.le_refl _))⟩
  exact ⟨by unfold sgV; rw [List.length_map, List.length_map]; exact hz, acc.toList, hv, by simpa using IsTup.new _ _⟩
def listSD (x : Dt) (k : Res → Prop) : Prop := match x with
  | .str t => t.length ≤ 9000000 ∧ k (.new (.lst (t.map fun c => Dt.str [c])))
  | _ => False
def tupleSD (x : Dt) (k : Res → Prop) : Prop := match x with
  | .str t => t.length ≤ 9000000 ∧ k (.dat (.tup (t.map fun c => Dt.str [c])))
  | _ => False
def fListS : CallF := arg1 listSD
def fTupleS : CallF := arg1 tupleSD
theorem cd_listS {K : PySem.W.Frag} : CallD K PL (rSign fun ys H Q => ∀ l, H l = none → Q (.ref l) (upd H l (.lst ys))) fListS := by
  intro G B c σ H xs vs k Q hc rx hf hq
  obtain ⟨x, rfl, hf⟩ := arg1_ok hf
  cases x with
  | str t =>
    obtain ⟨v, rfl, h1⟩ := repHs1 rx
    have e : v = .str (S t) := h1
    subst e
    exact ⟨t, rfl, sz7 (by have := hf.1; omega), fun p hp => hq _ _ _ _ hf.2 (Same.refl B) (conc_lst hc hp (sg_rep t))⟩
  | _ => exact hf.elim
theorem cd_tupleS {K : PySem.W.Frag} : CallD K PL (rSign fun ys H Q => ∀ l, H l = none → Q (.ref l) (upd H l (.tup ys))) fTupleS := by
  intro G B c σ H xs vs k Q hc rx hf hq
  obtain ⟨x, rfl, hf⟩ := arg1_ok hf
  cases x with
  | str t =>
    obtain ⟨v, rfl, h1⟩ := repHs1 rx
    have e : v = .str (S t) := h1
    subst e
    refine ⟨t, rfl, sz7 (by have := hf.1; omega), fun p hp => ?_⟩
    obtain ⟨e2, cr⟩ := conc_tup hc hp (sg_rep (K := K) (B := B) t)
    exact hq _ _ _ _ hf.2 e2 cr
  | _ => exact hf.elim
theorem c_listS {t : List Nat} {k : Res → Prop} : fListS [.str t] k = (t.length ≤ 9000000 ∧ k (.new (.lst (t.map fun c => Dt.str [c])))) := rfl
theorem c_tupleS {t : List Nat} {k : Res → Prop} : fTupleS [.str t] k = (t.length ≤ 9000000 ∧ k (.dat (.tup (t.map fun c => Dt.str [c])))) := rfl
/-! ### readings of the new methods -/
theorem c_split {s : List Nat} {ch : Nat} {k : Res → Prop} : fSplit (.str s) [.str [ch]] k = ((ch < 256 ∧ s.length ≤ 9000000) ∧ k (.new (.lst ((splitL ch s).map Dt.str)))) := rfl
theorem c_count4 {s : List Nat} {ch : Nat} {lo hi : Int} {k : Res → Prop} : fCount4 (.str s) [.str [ch], .int lo, .int hi] k = ((lo = 0 ∧ 0 ≤ hi ∧ hi ≤ s.length) ∧ k (.dat (.int (((s.take hi.toNat).count ch : Nat) : Int)))) := rfl
theorem c_find3 {s : List Nat} {ch : Nat} {lo : Int} {k : Res → Prop} : fFind3 (.str s) [.str [ch], .int lo] k = (0 ≤ lo ∧ ∀ v, IsFirst s ch lo.toNat v → k (.dat (.int v))) := rfl
theorem c_find {s : List Nat} {ch : Nat} {k : Res → Prop} : fFind (.str s) [.str [ch]] k = (∀ v, IsFirst s ch 0 v → k (.dat (.int v))) := rfl
end Cl

/-! a quoting def; int(text); f(..).replace of written texts -/
namespace Cl
open PySem PySem.Spec PyProof.Rows L2
variable {PL : PoolP}
def quoteL (t : List Nat) : List Nat := [34] ++ replL 10 [92, 110] (replL 34 [92, 34] (replL 92 [92, 92] t)) ++ [34]
def F_quoteG : FS := fun as R => ∃ t : List Nat, as = [.dat (.str t)] ∧ t.length ≤ 3000 ∧ R (.dat (.str (quoteL t))) as
theorem replL_len (ch : Nat) (z : List Nat) : ∀ t : List Nat, (replL ch z t).length ≤ t.length * (z.length + 1)
  | [] => Nat.zero_le _
  | a :: t => by
    have ih := replL_len ch z t
    unfold replL
    rw [List.length_cons, Nat.succ_mul]
    split
    · rw [List.length_append]
      omega
    · rw [List.length_cons]
      omega
abbrev rAddS : V → V → Hp → VK → Prop := fun x y H Q => ∃ i j, x = .str i ∧ y = .str j ∧ i.length + j.length ≤ sizeLine ∧ Q (.str (i ++ j)) H
def tQ (q1 q2 a1 b1 a2 b2 a3 b3 : Str) : TS := tSeq (tRet (tOp rAddS (tOp rAddS (tC (.str q1)) (CwR.tReplC (CwR.tReplC (CwR.tReplC (tVar 0) a1 b1) a2 b2) a3 b3)) (tC (.str q2)))) tNext
theorem fn_quote {P : Program} {w : World} {K : PySem.W.Frag} {mg : Str → Option Value} {base : Heap} {x qual : Str} {params : Arguments} {body : List Stmt} {scope : Scope} {f : Addr} {fd : FuncData} {q1 q2 a1 b1 a2 b2 a3 b3 : Str} (Fn : FunD K x qual params body scope [] [] f fd) (Sc : FnScope ["text"] ["text"] scope) (hnc : ∀ y ∈ scope.names, y.2 ≠ .cell)
    (hb : ∀ (cdv : Value) (A : Around) (outer : List Env) (s : Shared) (H : Hp) (E : XK), PSsT (cxOf CX0 P w K mg base ["text"] qual scope f cdv A outer s H E) body (tQ q1 q2 a1 b1 a2 b2 a3 b3))
    (e1 : q1 = S [34]) (e2 : q2 = S [34]) (e3 : a1 = S [92]) (e4 : b1 = S [92, 92]) (e5 : a2 = S [34]) (e6 : b2 = S [92, 34]) (e7 : a3 = S [10]) (e8 : b3 = S [92, 110]) :
    FnOk P w K mg base CX0 1 f fd ["text"] (spC K PL 1 F_quoteG) := by
  obtain ⟨oc, od, dV, kV, doc, pm, an, cdv, ct, osl, rfl, lk, hcd, _, _⟩ := Fn.ex
  refine fn_ofT lk hcd Sc hnc (by decide) (fun vs H Q E h => ?_) fun A outer s H vs Q E hr h => ⟨_, hb cdv A outer s H E, ?_⟩
  · obtain ⟨B, as, fs, R, h1, _, h3, _⟩ := h
    rw [← h3.1, h1]
    rfl
  · obtain ⟨B, as, fs, R, hn, sB, ao, ap, hF, q⟩ := h
    obtain ⟨t, rfl, hl, hR⟩ := hF
    obtain ⟨v, ev, rv⟩ := ao.2 0 _ rfl
    have hlen := ao.1
    have evs : vs = [v] := by
      cases vs with
      | nil => cases ev
      | cons u r =>
        cases r with
        | nil =>
          cases ev
          rfl
        | cons u2 r => cases hlen
    subst evs
    obtain ⟨_, rv⟩ := rv
    have ev2 : v = .str (S t) := rv
    subst ev2 e1 e2 e3 e4 e5 e6 e7 e8
    have l1 := replL_len 92 [92, 92] t
    have l2 := replL_len 34 [92, 34] (replL 92 [92, 92] t)
    have l3 := replL_len 10 [92, 110] (replL 34 [92, 34] (replL 92 [92, 92] t))
    simp only [List.length_cons, List.length_nil] at l1 l2 l3
    have fin : Q (.str (S (quoteL t))) H := q (.dat (.str (quoteL t))) _ B H _ fs hR (Same.refl B) (fun a o h => .inl h) sB (fun a o h _ => h) (fun a h => h) ao ap (fun k b hb => .inr hb) (fun k o h => ⟨o, h⟩) (by show Rep K B _ _; unfold Rep; rfl)
    refine ⟨.str (S t), rfl, S t, rfl, by rw [S_len, S_len]; simp only [List.length_cons, List.length_nil]; omega, ?_⟩
    rw [repl_S]
    refine ⟨_, rfl, by rw [S_len, S_len]; simp only [List.length_cons, List.length_nil]; omega, ?_⟩
    rw [repl_S]
    refine ⟨_, rfl, by rw [S_len, S_len]; simp only [List.length_cons, List.length_nil]; omega, ?_⟩
    rw [repl_S]
    refine ⟨_, _, rfl, rfl, by rw [S_len, S_len]; exact sz7 (by simp only [List.length_cons, List.length_nil]; omega), ?_⟩
    rw [S_app]
    refine ⟨_, _, rfl, rfl, by rw [S_len, S_len, List.length_append]; exact sz7 (by simp only [List.length_cons, List.length_nil]; omega), ?_⟩
    rw [S_app]
    exact fin
/-! ### int(text) -/
open PyProof.Rows in
def digsOk (t : List Nat) : Bool := t.all (fun c => decide (48 ≤ c) && decide (c ≤ 57))
def intSD (x : Dt) (k : Res → Prop) : Prop := match x with
  | .str t => (digsOk t = true ∧ t ≠ [] ∧ t.length ≤ 640) ∧ k (.dat (.int ((NumText.digitsVal t : Nat) : Int)))
  | _ => False
def fIntS : CallF := arg1 intSD
theorem cd_intS {K : PySem.W.Frag} : CallD K PL (fun xs H Q => ∃ a n, xs = [.str a] ∧ PySem.intText? a = some n ∧ a.length ≤ 640 ∧ Q (.int n) H) fIntS := by
  intro G B c σ H xs vs k Q hc rx hf hq
  obtain ⟨x, rfl, hf⟩ := arg1_ok hf
  cases x with
  | str t =>
    obtain ⟨v, rfl, h1⟩ := repHs1 rx
    have e : v = .str (S t) := h1
    subst e
    obtain ⟨⟨h2, h3, h4⟩, h5⟩ := hf
    exact ⟨S t, _, rfl, SX.int_S h2 h3 (by omega), by rw [S_len]; exact h4, hq _ _ B H h5 (Same.refl B) ⟨hc, by unfold Rep; rfl⟩⟩
  | _ => exact hf.elim
theorem c_intS {t : List Nat} {k : Res → Prop} : fIntS [.str t] k = ((digsOk t = true ∧ t ≠ [] ∧ t.length ≤ 640) ∧ k (.dat (.int ((NumText.digitsVal t : Nat) : Int)))) := rfl
end Cl

/-! {c: d}.get(x, x); f(..).replace of written texts of any length -/
namespace Cl
open PySem PySem.Spec PyProof.Rows L2
variable {PL : PoolP} {X : Cx}
def getLS (y v : List Nat) (s : Slot) (k : Res → Prop) : Prop := match s with
  | .dat (.str s) => k (.dat (.str (if s = y then v else s)))
  | _ => False
def dGetL (i : Nat) (y v : List Nat) : DE := fun c Q => getLS y v (gt c i) fun z => Q z c
theorem e_dGetL {i : Nat} {y v : List Nat} {c : CEnv} {Q : Res → CEnv → Prop} : dGetL i y v c Q = getLS y v (gt c i) fun z => Q z c := rfl
theorem c_getLS {y v s : List Nat} {k : Res → Prop} : getLS y v (.dat (.str s)) k = k (.dat (.str (if s = y then v else s))) := rfl
theorem qe_getlit {i j1 j2 : Nat} {x Y V : Str} {y v : List Nat} {p0 p1 p2 q1 q2 apos cpos : Pos} (hu : X.A.units + 64 < cLine) (ho : PE X (.Name x q1) (tVar i)) (ho2 : PE X (.Name x q2) (tVar i)) (hy : Y = S y) (hv : V = S v)
    (m : M2 X (.Dict [some (.Constant (.str Y) j1 p1)] [.Constant (.str V) j2 p2] p0) "get" apos (.Name x q1) (.Name x q2) cpos) :
    QE X PL (.Call (.Attribute (.Dict [some (.Constant (.str Y) j1 p1)] [.Constant (.str V) j2 p2] p0) "get" apos) [.Name x q1, .Name x q2] [] cpos) (dGetL i y v) := by
  subst hy hv
  refine q_of (pe_dget2 (by omega) (pe_disp (pps_cons pe_str pe_str pps_nil) rfl rfl (List.cons_ne_nil _ _) (show 1 ≤ 15 by decide)) ho ho2 m) fun G B c σ H Qd Q hc hd hq => ?_
  unfold dGetL at hd
  cases q : gt c i with
  | dat d =>
    rw [q] at hd
    cases d with
    | str s =>
      obtain ⟨w, h1, h2⟩ := hc.getDat q
      have ew : w = .str (S s) := h2
      subst ew
      have hd : Qd (.dat (.str (if s = y then v else s))) c := hd
      intro p hp
      refine ⟨by rw [upd_same], [(Sum.inr (S y), .str (S v))], rfl, (show 1 ≤ 15 by decide), ?_⟩
      have hS : Same H (upd (upd H p (.dK [])) p (.dK (mergeK [] [(Sum.inr (S y), .str (S v))]))) := fun a o e => by
        have hne : a ≠ p := fun z => by rw [z, hp] at e; cases e
        rw [upd_ne hne, upd_ne hne]
        exact e
      have hrd : Rd (upd (upd H p (.dK [])) p (.dK (mergeK [] [(Sum.inr (S y), .str (S v))]))) p (.dK (mergeK [] [(Sum.inr (S y), .str (S v))])) := .of (by rw [upd_same])
      refine ⟨p, rfl, .inl ⟨_, hrd⟩, _, h1, _, h1, _, .inl ⟨_, Sum.inr (S s), hrd, rfl, rfl⟩, ?_⟩
      have hfin := hq _ _ B _ (.str (S (if s = y then v else s))) hd (Same.refl B) ⟨hc.grow hS, by unfold Rep; rfl⟩
      have e : (valV (mergeK [] [((Sum.inr (S y) : Key), L2.V.str (S v))]) (Sum.inr (S s))).getD (.str (S s)) = .str (S (if s = y then v else s)) := by
        show (valV [((Sum.inr (S y) : Key), L2.V.str (S v))] (Sum.inr (S s))).getD (.str (S s)) = _
        unfold valV
        by_cases h : s = y
        · subst h
          rw [if_pos rfl]
          simp
        · rw [if_neg h]
          have : ¬ (S y = S s) := fun z => h (S_inj z).symm
          simp [this]
      rw [e]
      exact hfin
    | _ => exact hd.elim
  | no => rw [q] at hd; exact hd.elim
  | own o => rw [q] at hd; exact hd.elim
  | arg o => rw [q] at hd; exact hd.elim
theorem _root_.L2.Room.units64 {k : Nat} {A : PySem.Around} (r : L2.Room k A) : A.units + 64 < PySem.cLine := by have := r.un; omega
/-! ### replace, any pattern -/
def replW (y z t : List Nat) : List Nat := (Txt.replace (S t) (S y) (S z)).cps.toList
theorem S_tls (x : Str) : S x.cps.toList = x := rfl
def replWD (y z : List Nat) (x : Dt) (k : Res → Prop) : Prop := match x with
  | .str t => t.length + (t.length + 1) * z.length ≤ 16777216 ∧ k (.dat (.str (replW y z t)))
  | _ => False
theorem replWD_ok {y z : List Nat} {x : Dt} {k : Res → Prop} (h : replWD y z x k) : ∃ t, x = .str t ∧ t.length + (t.length + 1) * z.length ≤ 16777216 ∧ k (.dat (.str (replW y z t))) := by
  cases x with
  | str t => exact ⟨t, rfl, h⟩
  | _ => exact h.elim
def dReplW (y z : List Nat) (de : DE) : DE := fun c Q => de c fun r c1 => on1 (hd r) c1 fun x => replWD y z x fun v => Q v c1
theorem e_dReplW {y z : List Nat} {de : DE} {c : CEnv} {Q : Res → CEnv → Prop} : dReplW y z de c Q = (de c fun r c1 => on1 (hd r) c1 fun x => replWD y z x fun v => Q v c1) := propext Iff.rfl
theorem c_replWD {y z t : List Nat} {k : Res → Prop} : replWD y z (.str t) k = (t.length + (t.length + 1) * z.length ≤ 16777216 ∧ k (.dat (.str (replW y z t)))) := propext Iff.rfl
theorem qe_replW {P : Program} {w : World} {K : PySem.W.Frag} {mg : Str → Option Value} {base : Heap} {CX : CXT} {k : Nat} {x : Str} {st : Stmt} {dvs : List L2.V} {kws : List (Str × L2.V)} {ps : List Str} {F : FS} {p pos apos pos2 c0 c1 : Pos} {e : Expr} {es : List Expr} {dv : DV} {dds : List Dt} {E : XK} {y z : Str} {j j2 : Nat} {yl zl : List Nat} (D : DefT P w K mg base PL CX k x st dvs kws ps F) (hP : X.prog = P) (hw : X.w = w) (hK : X.K = K) (hmg : X.mg = mg) (hb : X.base = base)
    (hbi : ∀ {f : Addr} {fd : FuncData}, FunD K x x (defArgs st) (defBody st) (defScope st) dvs kws f fd → ∃ ws ds, Vals ws ds ∧ (∀ B, RepL K B dds ws) ∧ Binds K fd ps ds)
    (ha : QV X PL (e :: es) dv) (hr : Room k X.A) (hg : Gl X x) (hx : Passes CX X E) (hy : y = S yl) (hz : z = S zl) (hyz : (y == z) = false) (hdb : (x == ("__debug__" : Str)) = false := by decide) (he : starEach (e :: es) X.env = (false, eval e X.env) :: starEach es X.env := by rfl) (hpl : (backTo pos (starEach es X.env)).any (·.1) = false := by rfl)
    (hst : starEach [.Constant (.str y) j c0, .Constant (.str z) j2 c1] X.env = [(false, eval (.Constant (.str y) j c0) X.env), (false, eval (.Constant (.str z) j2 c1) X.env)] := by rfl)
    (hbase : attributeBase (.Call (.Name x p) (e :: es) [] pos) "replace" X.env (eval (.Call (.Name x p) (e :: es) [] pos) X.env) = eval (.Call (.Name x p) (e :: es) [] pos) X.env := by rfl) (hline : (apos.endLine == pos2.line) = true := by rfl) :
    QE X PL (.Call (.Attribute (.Call (.Name x p) (e :: es) [] pos) "replace" apos) [.Constant (.str y) j c0, .Constant (.str z) j2 c1] [] pos2) (dReplW yl zl (dCall ps.length F dds dv)) := by
  subst hP hw hK hmg hb
  obtain ⟨f, fd, hf, hm, hk, hfd⟩ := D.ex
  obtain ⟨ws, ds, hv, hrep, hbd⟩ := hbi hfd
  refine q_of (pe_replT hf hr hg hm hk hbd hv hx ha.pa hyz hdb he hpl hst hbase hline) fun G B c σ H Qd Q hc hd2 hq => ?_
  refine ⟨G, B, c, _, hc, hd2, fun avs c1 B1 H1 vs ⟨hn, h1⟩ e1 hc1 hv => ?_⟩
  refine call_ok hc1 (hv.app (AVOk.dats (hrep B1))) hn h1 fun r c' B' H' v q e2 cr => ?_
  obtain ⟨B2, e3, hc2, hh⟩ := cr.hold
  obtain ⟨d, rd, hf2⟩ := on1_ok hc2 hh q
  obtain ⟨t, rfl, hl, hk2⟩ := replWD_ok hf2
  have e4 : v = .str (S t) := rd
  subst e4 hy hz
  refine ⟨S t, rfl, by rw [S_len, S_len]; exact hl, ?_⟩
  exact hq _ _ _ _ _ hk2 ((e1.trans e2).trans e3) ⟨hc2, by unfold Rep replW; rfl⟩
end Cl

/-! set(list of ints); sorted of a list, a tuple, a set -/
namespace L2
open PySem PySem.Spec PyProof.Rows PySem.W
section
variable {P : Program} {w : World} {A : Around} {E : Value → Shared → Prop} {s : Shared}
set_option maxHeartbeats 4000000 in
theorem call_setL {l : Addr} {its : Array Value} (ns : List Int) {Q : Value → Shared → Prop} (hh : A.handled = none) (hl : s.heap.IsList l its) (hi : IntsAre its.toList ns) (hb : ns.length + 1 < scanBound)
    (fin : ∀ (g : Heap) (tk c : Nat), SetR w g s.heap.objs.size (fun j => decide (j ∈ ns)) c → c ≤ ns.length → (∀ b o, s.heap.get? b = some o → g.get? b = some o) → Q (.ref s.heap.objs.size) { s with heap := g, toks := tk }) :
    wpAny (model P w) A (call (.type "set") [.ref l]) Q E s := by
  have n1 : its.size = ns.length := by rw [← Array.length_toList]; exact IntsAre.length hi
  have a1 := F.called_set.notType
  have a2 := F.called_set.canCreate
  have a3 := F.typeCall_set_1 (.ref l)
  have a4 := F.called_set.made
  have a5 := F.called_set.sub
  obtain ⟨c, tl, a6⟩ := F.called_set.mro
  refine wpAny_call (codeAny_of_tree ?_)
  show wpAny _ _ (callAny (.type "set") _) _ _ _
  refine wpAny_pure ⟨Code.quiet_builtin _ (by decide +kernel), codeAny_builtin F.entry_type_call ?_⟩
  rw [Around.under_plain (weight_type_call_type "set" [.ref l] []) rfl]
  repeat (any_goals (first | assumption | wp_step))
  refine codeAny_mono (code_set_led1 (.ref l) (E := E) (Q₁ := fun x t => x = .ref s.heap.objs.size ∧ t = { s with heap := s.heap.push ({ cls := .type "set", dict := none, data := .set #[] 0 (.fresh 0 0 (!w.params.followText "set-order")) } : Obj) }) ⟨rfl, rfl⟩) fun r t hr => ?_
  cases r with
  | error e => exact hr
  | ok fl =>
  cases fl with
  | next => exact hr.elim
  | brk => exact hr.elim
  | cont => exact hr.elim
  | ret obj =>
  obtain ⟨rfl, rfl⟩ := hr
  have hS : (s.heap.push ({ cls := .type "set", dict := none, data := .set #[] 0 (.fresh 0 0 (!w.params.followText "set-order")) } : Obj)).get? s.heap.objs.size = some ({ cls := .type "set", dict := none, data := .set #[] 0 (.fresh 0 0 (!w.params.followText "set-order")) } : Obj) := Heap.get?_push_size _ rfl
  have hT : Shared.TypeIs { s with heap := s.heap.push ({ cls := .type "set", dict := none, data := .set #[] 0 (.fresh 0 0 (!w.params.followText "set-order")) } : Obj) } (.ref s.heap.objs.size) "set" := ⟨_, hS, rfl⟩
  have a7 := F.called_set.init.lookup
  have a8 := F.called_set.init.bind (.ref s.heap.objs.size)
  repeat (any_goals (first | assumption | wp_step))
  refine codeAny_mono (codeAny_call_builtin (R := wants (fun r t => r = .none ∧ ∃ g tk c, t = { s with heap := g, toks := tk } ∧ SetR w g s.heap.objs.size (fun j => decide (j ∈ ns)) c ∧ c ≤ ns.length ∧ (∀ b o, s.heap.get? b = some o → g.get? b = some o)) E)
    F.called_set.init.plain F.entry_set_init (check_set_init_1 hT ?_)) fun r t hr => ?_
  · obtain ⟨⟨oc, od, oD, os⟩, hol, hcl, nl, hdl⟩ := hl
    simp only at hcl hdl
    subst hcl hdl
    have h2 : (s.heap.push ({ cls := .type "set", dict := none, data := .set #[] 0 (.fresh 0 0 (!w.params.followText "set-order")) } : Obj)).get? l = some { cls := .type "list", dict := od, data := .seq its nl, slots := os } := Heap.get?_push_of_some _ hol
    have b1 := F.sub_list_set
    have b2 := F.sub_list_frozenset
    have b3 : (Value.type "list" == Value.type "dict") = false := by decide
    have h3 : (s.heap.push ({ cls := .type "set", dict := none, data := .set #[] 0 (.fresh 0 0 (!w.params.followText "set-order")) } : Obj)).IsList l its := ⟨_, h2, rfl, nl, rfl⟩
    unfold Builtin.«set.__init__» noKeywords Builtin.Frozenset.updateFrom
    generalize hPI : pyIter = PI
    wp_walk
    subst hPI
    refine wpAny_pyIter_list h3 ?_
    refine wpAny_bind (wpAny_runValue ?_)
    have ll : l < s.heap.objs.size := Heap.lt_size hol
    have hz1 : (s.heap.push ({ cls := .type "set", dict := none, data := .set #[] 0 (.fresh 0 0 (!w.params.followText "set-order")) } : Obj)).objs.size = s.heap.objs.size + 1 := Heap.size_push ..
    have ne1 : l ≠ (s.heap.push ({ cls := .type "set", dict := none, data := .set #[] 0 (.fresh 0 0 (!w.params.followText "set-order")) } : Obj)).objs.size := by rw [hz1]; exact Nat.ne_of_lt (Nat.lt_succ_of_lt ll)
    have nin : s.heap.objs.size ∉ [(s.heap.push ({ cls := .type "set", dict := none, data := .set #[] 0 (.fresh 0 0 (!w.params.followText "set-order")) } : Obj)).objs.size, l] := by
      rw [hz1]
      simp only [List.mem_cons, List.not_mem_nil, or_false, not_or]
      exact ⟨Nat.ne_of_lt (Nat.lt_succ_self _), Nat.ne_of_gt ll⟩
    have hv : ∀ (i : Nat) (v : Value), its[i]? = some v → ∃ k t, ns[i]? = some k ∧ v = .int k t := fun i v hv => by
      have hin : i < ns.length := by rw [← n1]; exact (Array.getElem?_eq_some_iff.mp hv).1
      obtain ⟨t, e⟩ := PyProof.Rows.IntsAre.int_at hi i v (by rw [Array.getElem?_toList]; exact hv)
      rw [List.getD_eq_getElem?_getD, List.getElem?_eq_getElem hin] at e
      exact ⟨ns[i], t, List.getElem?_eq_getElem hin, e⟩
    have h5 : A.in1.in1.in1.handled = none := by simp [hh]
    refine set_update_ints ((Walks.list h5 _ l ne1 its).toS) s.heap.objs.size nin ns n1 hb hv (its.size - 0) 0 _ (by omega) (Nat.zero_le _) ⟨⟨_, Heap.get?_push_size _ rfl, rfl, rfl⟩, (h3.push _)⟩ ?st ?en
    case st => exact ⟨0, Nat.le_refl 0, setR_new_at (Heap.get?_push_of_some _ hS)⟩
    case en =>
      intro s' c' hm hc' hS'
      obtain ⟨g, g2, d', tk', os'⟩ := s'
      obtain rfl : g2 = s.gens := hm.gens
      obtain rfl : d' = s.drawn := hm.drawn
      obtain rfl : os' = s.os := hm.os
      show wpAny _ _ _ _ _ _
      refine wpAny_pure ?_
      show wpAny _ _ (ret Value.none) _ _ _
      rw [n1] at hc'
      refine wpAny_pure ⟨rfl, g, tk', c', rfl, hS', hc', fun b o e => ?_⟩
      have hb0 : b < s.heap.objs.size := Heap.lt_size e
      refine hm.heap b o ?_ (Heap.get?_push_of_some _ (Heap.get?_push_of_some _ e))
      simp only [List.mem_cons, List.mem_singleton, List.not_mem_nil, or_false, not_or]
      exact ⟨Nat.ne_of_lt hb0, by rw [hz1]; exact Nat.ne_of_lt (Nat.lt_succ_of_lt hb0)⟩
  · cases r with
    | error e => exact hr
    | ok fl =>
    cases fl with
    | next => exact hr.elim
    | brk => exact hr.elim
    | cont => exact hr.elim
    | ret r =>
    obtain ⟨rfl, g, tk, c', rfl, hS', hc', hk'⟩ := hr
    repeat (any_goals (first | assumption | wp_step))
    exact fin _ _ _ hS' hc' hk'
end
end L2

/-! sorted of a list, a tuple, a set; sum, all, any; min and max of a row of ints; a < b < c -/
namespace L2
open PySem PySem.Spec PyProof.Rows PySem.W PySem.Calls
section
variable {prog : Program} {w : World} {A : Around} {E : Value → Shared → Prop} {s : Shared}
/-- sorted(x): x gathered, then sorted in place -/
theorem sorted_col {x : Value} {Q : Value → Shared → Prop} (hc : wpAny (model prog w) A.in1 (collect x) (fun vs t => vs.length ≤ sizeLine ∧ ∃ κ, SortsAt prog w A.in1.in1 { t with heap := sortingHeap (t.heap.push (seqObj "list" vs.toArray 0)) t.heap.objs.size vs } κ vs ∧
      Q (.ref t.heap.objs.size) { t with heap := sortedHeap (t.heap.push (seqObj "list" vs.toArray 0)) t.heap.objs.size vs (sortVals κ false vs vs).toArray }) E s) :
    wpAny (model prog w) A (call (.builtin "sorted") [x]) Q E s := by
  refine Calls.call_function_entry kind_sorted plain_sorted entry_sorted (args_sorted1 _) ?_
  unfold Builtin.«sorted»
  refine wpAny_bind (m := checkCount "sorted" 1 1 _) (wpAny_pure ?_)
  refine wpAny_bind (wpAny_mono hc (fun vs t h => ?_) fun _ _ z => z)
  obtain ⟨hz, κ, hS, hq⟩ := h
  refine wpAny_bind (wpAny_newList ?_ hz)
  have ho : (t.heap.push (seqObj "list" vs.toArray 0)).get? t.heap.objs.size = some (seqObj "list" vs.toArray 0) := Heap.get?_push_size _ rfl
  refine wpAny_bind (wpAny_holding (wpAny_call_entry slot_list_sort ⟨_, ho, rfl⟩ entry_list_sort ?bd (args_list_sort _)))
  case bd =>
    exact list_sort_vals (s := { t with heap := t.heap.push (seqObj "list" vs.toArray 0) }) ho hS hz ⟨_, rfl, wpAny_pure ⟨_, rfl, hq⟩⟩
/-- what stays behind it -/
theorem sortedHeap_keep {h : Heap} {vs : List Value} {out : Array Value} {b : Addr} {o : Obj} (e : h.get? b = some o) : (sortedHeap (h.push (seqObj "list" vs.toArray 0)) h.objs.size vs out).get? b = some o := by
  have hl := Heap.lt_size e
  rw [sortedHeap_old (Nat.ne_of_lt hl) (by rw [size_push']; exact Nat.lt_succ_of_lt hl)]
  exact Heap.get?_push_of_some _ e
theorem sorting_keep {h : Heap} {vs : List Value} {b : Addr} {o : Obj} (e : h.get? b = some o) : (sortingHeap (h.push (seqObj "list" vs.toArray 0)) h.objs.size vs).get? b = some o :=
  sortingHeap_old (Nat.ne_of_lt (Heap.lt_size e)) (Heap.get?_push_of_some _ e)
theorem sortedHeap_new {h : Heap} {vs : List Value} {out : Array Value} : ∃ n, (sortedHeap (h.push (seqObj "list" vs.toArray 0)) h.objs.size vs out).get? h.objs.size = some (seqObj "list" out n) :=
  sortedHeap_at (n := 0) (Heap.get?_push_size _ rfl)
end
theorem vals_each {β : Type} {g : β → V} : ∀ {zs : List β} {us : List Value}, Vals (zs.map g) us → EachIs (fun u z => RelV (g z) u) us zs
  | [], _, h => by cases h; exact .nil
  | z :: zs, us, h => by
    cases h with
    | cons h1 h2 => exact .cons h1 (vals_each h2)
theorem each_vals {β : Type} {g : β → V} : ∀ {zs : List β} {us : List Value}, EachIs (fun u z => RelV (g z) u) us zs → Vals (zs.map g) us
  | _, _, .nil => .nil
  | _, _, .cons h1 h2 => .cons h1 (each_vals h2)
abbrev leZ (p q : V × PyData) : Bool := dataLe false (fun z : V × PyData => z.2) p q
/-- sorted(x), x a list or a tuple of data of one shape -/
def rSortD (K : PySem.W.Frag) : List V → Hp → VK → Prop := fun vs H Q => ∃ (a : Addr) (zs : List (V × PyData)), vs = [V.ref a] ∧ (SqL K H a (zs.map (·.1)) ∨ SqT K H a (zs.map (·.1))) ∧ (∀ z ∈ zs, Dp K H z.1 z.2) ∧
  AllAlike (zs.map (·.2)) ∧ Sortable (zs.map (·.2)) ∧ (∀ z ∈ zs, z.2.depth ≤ 60) ∧ ∀ p, H p = none → Q (.ref p) (upd H p (.lst ((zs.mergeSort leZ).map (·.1))))
section
variable {X : Cx}
theorem each_reads {pins : List (Addr × Obj)} {σ : St} {H : Hp} {s : Shared} (I : Inv X pins σ H s) : ∀ {zs : List (V × PyData)} {us : List Value}, EachIs (fun u z => RelV z.1 u) us zs → (∀ z ∈ zs, Dp X.K H z.1 z.2) → EachIs (fun v z => ∃ as, Reads s.heap v z.2 as) us zs
  | _, _, .nil, _ => .nil
  | _, _, .cons h1 h2, hd => .cons (Dp.reads I _ _ _ (hd _ (List.mem_cons_self ..)) h1) (each_reads I h2 fun z hz => hd z (List.mem_cons_of_mem _ hz))
theorem cr_sortD (hu : X.A.units + 65 < cLine) : CallR X (.builtin "sorted") (rSortD X.K) := by
  intro pins s σ H vs us Q I r h
  obtain ⟨a, zs, rfl, hs, hd, hal, hk, hdep, q⟩ := h
  rw [Vals.ref1 r]
  obtain ⟨its, rv, T, o, n, hT, ho, hc, hdt, hz⟩ : ∃ (its : List Value), Vals (zs.map (·.1)) its ∧ ∃ (T : String) (o : Obj) (n : Nat), (T = "list" ∨ T = "tuple") ∧ s.heap.get? a = some o ∧ o.cls = .type T ∧ o.data = .seq its.toArray n ∧ (zs.map (·.1)).length ≤ sizeLine := by
    rcases hs with hs | hs
    · obtain ⟨its, rv, hl, hz⟩ := I.list hs
      obtain ⟨o, n, ho, hc, hd1, hd2⟩ := hl
      exact ⟨its, rv, "list", o, n, .inl rfl, ho, hc, hd2, hz⟩
    · obtain ⟨its, rv, ⟨o, ho, hc, n, hd2⟩, hz⟩ := I.tuple hs
      exact ⟨its, rv, "tuple", o, n, .inr rfl, ho, hc, hd2, hz⟩
  have hlen : its.length = zs.length := by rw [← rv.length, List.length_map]
  have e := vals_each (g := fun z : V × PyData => z.1) rv
  have er := each_reads I e hd
  refine sorted_col (wpAny_collect_seq a hT ho hc hdt (fun h' keep => ?_) (by rw [List.size_toArray, hlen, ← List.length_map (f := fun z : V × PyData => z.1)]; exact hz))
  have ei : its.toArray.toList = its := by simp
  rw [ei]
  have er' : EachIs (fun v z => ∃ as, Reads (sortingHeap (h'.push (seqObj "list" its.toArray 0)) h'.objs.size its) v z.2 as) its zs :=
    er.mono fun _ _ ⟨as, r⟩ => ⟨as, PyProof.Rows.Reads.keeps (fun b o q => sorting_keep (keep b o q)) r⟩
  refine ⟨by rw [hlen, ← List.length_map (f := fun z : V × PyData => z.1)]; exact hz, _, SortsAt.data (each_map (R := fun v d => ∃ as, Reads (sortingHeap (h'.push (seqObj "list" its.toArray 0)) h'.objs.size its) v d as) (fun z : V × PyData => z.2) er') hal hk fun d hd' => ?_, ?_⟩
  · obtain ⟨z, hz1, rfl⟩ := List.mem_map.mp hd'
    have := hdep z hz1
    show X.A.units + 1 + 1 + _ < _
    omega
  · have so := sortVals_data (h' := sortingHeap (h'.push (seqObj "list" its.toArray 0)) h'.objs.size its) (R := fun u (z : V × PyData) => RelV z.1 u) (enc := fun z : V × PyData => z.2) false e er' hal
    have vo := each_vals (g := fun z : V × PyData => z.1) so
    obtain ⟨ep, he⟩ := sortedHeap_new (h := h') (vs := its) (out := (sortVals (dataKind (sortingHeap (h'.push (seqObj "list" its.toArray 0)) h'.objs.size its) (zs.map fun z : V × PyData => z.2)) false its its).toArray)
    have hnone : s.heap.get? h'.objs.size = none := by
      cases g : s.heap.get? h'.objs.size with
      | none => rfl
      | some o' => exact absurd (Heap.lt_size (keep _ _ g)) (Nat.lt_irrefl _)
    have hn : H h'.objs.size = none := I.hok.gone hnone
    have hln : ((zs.mergeSort leZ).map fun z : V × PyData => z.1).length ≤ sizeLine := by
      rw [List.length_map, List.length_mergeSort, ← List.length_map (f := fun z : V × PyData => z.1)]
      exact hz
    exact ⟨.ref _, upd H h'.objs.size (.lst ((zs.mergeSort leZ).map fun z : V × PyData => z.1)), I.laidN (t' := s.toks) (fun b u q => sortedHeap_keep (keep b u q)) hnone hn ⟨hln, _, ep, vo, he⟩, rfl, q _ hn⟩
/-- set(a list of ints) -/
def rSetOfL (w : World) (K : PySem.W.Frag) : List V → Hp → VK → Prop := fun vs H Q => ∃ (a : Addr) (ns : List Int), vs = [V.ref a] ∧ SqL K H a (ns.map V.int) ∧ ns.length ≤ 4000 ∧ ∀ p c, H p = none → c ≤ ns.length → Q (.ref p) (upd H p (SetO w p (fun j => decide (j ∈ ns)) c))
theorem cr_setL (hc : X.calm = true) : CallR X (.type "set") (rSetOfL X.w X.K) := by
  intro pins s σ H vs us Q I r h
  obtain ⟨a, ns, rfl, hs, hl, q⟩ := h
  obtain ⟨its, rv, li, _⟩ := I.list hs
  rw [Vals.ref1 r]
  have hi : IntsAre its.toArray.toList ns := by
    have e : its.toArray.toList = its := by simp
    rw [e]
    exact rv.ints
  refine call_setL ns (I.ok.hd hc) li.isList hi (by unfold scanBound; omega) fun g tk c R hcn k => ?_
  exact ⟨.ref _, _, I.laid (t' := tk) k (Nat.le_refl _) (setO_new R), rfl, q _ c (I.hok.fresh (Nat.le_refl _)) hcn⟩
/-- sorted(a set of ints) -/
def rSortS (w : World) : List V → Hp → VK → Prop := fun vs H Q => ∃ (a : Addr) (S : Int → Bool) (n : Nat), vs = [V.ref a] ∧ H a = some (SetO w a S n) ∧ n ≤ 4000 ∧
  ∀ (ns : List Int) (p : Addr), ns.Pairwise (· < ·) → (∀ k : Int, k ∈ ns ↔ S k = true) → ns.length = n → H p = none → Q (.ref p) (upd H p (.lst (ns.map V.int)))
theorem each_ints {h : Heap} : ∀ {us : List Value} {ns : List Int}, IntsAre us ns → EachIs (fun v (n : Int) => ∃ as, Reads h v (.int n) as) us ns ∧ EachIs (fun v (n : Int) => RelV (.int n) v) us ns
  | _, _, .nil => ⟨.nil, .nil⟩
  | _, _, .cons n t r => ⟨.cons ⟨_, Reads.int n t⟩ (each_ints (h := h) r).1, .cons ⟨t, rfl⟩ (each_ints (h := h) r).2⟩
theorem alike_ints' (ns : List Int) : AllAlike (ns.map PyData.int) := by
  intro d hd d' hd'
  obtain ⟨i, _, rfl⟩ := List.mem_map.mp hd
  obtain ⟨j, _, rfl⟩ := List.mem_map.mp hd'
  simp [alike]
theorem sortable_ints (ns : List Int) : Sortable (ns.map PyData.int) := .inr fun d hd => by
  obtain ⟨i, _, rfl⟩ := List.mem_map.mp hd
  exact ⟨(fun z => by cases z), fun xs z => by cases z⟩
theorem lt_of_le_nd : ∀ {l : List Int}, l.Pairwise (· ≤ ·) → l.Nodup → l.Pairwise (· < ·)
  | [], _, _ => .nil
  | x :: l, h, d => by
    obtain ⟨h1, h2⟩ := List.pairwise_cons.mp h
    obtain ⟨d1, d2⟩ := List.nodup_cons.mp d
    refine List.pairwise_cons.mpr ⟨fun y hy => ?_, lt_of_le_nd h2 d2⟩
    have := h1 y hy
    have : x ≠ y := fun z => d1 (z ▸ hy)
    omega
theorem cr_sortS (hc : X.calm = true) (hu : X.A.units + 65 < cLine) : CallR X (.builtin "sorted") (rSortS X.w) := by
  intro pins s σ H vs us Q I r h
  obtain ⟨a, S, n, rfl, ha, hn, q⟩ := h
  rw [Vals.ref1 r]
  obtain ⟨o, es, ep, t, ho, hex, hd, good, nd, hm, hb, hf, hsz, hr, hl⟩ := setO_get I ha
  refine sorted_col (collect_set (A := X.A.in1) (by have := I.ok.hd hc; simpa using this) ⟨o, ho, hex.1, hd⟩ hf hb hr hl fun s1 vs k1 hz g1 o1 pm => ?_)
  have hvl : vs.length = n := by rw [pm.length_eq, List.length_map, Array.length_toList]; exact hsz
  have key : ∀ (l : List Value), (∀ v ∈ l, ∃ k tk, v = Value.int k tk) → ∃ ns : List Int, IntsAre l ns ∧ ns = l.map vInt := by
    intro l
    induction l with
    | nil => exact fun _ => ⟨[], .nil, rfl⟩
    | cons v l ih =>
      intro h
      obtain ⟨k, tk, rfl⟩ := h _ (List.mem_cons_self ..)
      obtain ⟨ns, h1, h2⟩ := ih fun u hu => h u (List.mem_cons_of_mem _ hu)
      exact ⟨k :: ns, .cons k tk h1, by rw [h2]; rfl⟩
  obtain ⟨ns, hI, hns⟩ := key vs fun v hv => by
    obtain ⟨e, he, q⟩ := List.mem_map.mp (pm.mem_iff.mp hv)
    obtain ⟨k, tk, h1, _⟩ := good e he
    exact ⟨k, tk, by rw [← q]; exact h1⟩
  have pk : ns.Perm (es.toList.map keyOf) := by
    have z := pm.map vInt
    rw [List.map_map] at z
    have ee : es.toList.map (vInt ∘ fun x : Int × Value => x.2) = es.toList.map keyOf := List.map_congr_left fun e _ => (key_vInt e).symm
    rw [ee] at z
    rw [hns]
    exact z
  have hlz : vs.length ≤ sizeLine := by rw [hvl, sizeLine_eq]; omega
  have er := (each_ints (h := sortingHeap (s1.heap.push (seqObj "list" vs.toArray 0)) s1.heap.objs.size vs) hI).1
  refine ⟨hlz, _, SortsAt.data (s := { s1 with heap := sortingHeap (s1.heap.push (seqObj "list" vs.toArray 0)) s1.heap.objs.size vs }) (each_map (R := fun v d => ∃ as, Reads (sortingHeap (s1.heap.push (seqObj "list" vs.toArray 0)) s1.heap.objs.size vs) v d as) (fun n : Int => PyData.int n) er) (alike_ints' ns) (sortable_ints ns) fun d hd' => ?_, ?_⟩
  · obtain ⟨z, hz1, rfl⟩ := List.mem_map.mp hd'
    show X.A.units + 1 + 1 + 0 < _
    omega
  · have so := sortVals_data (h' := sortingHeap (s1.heap.push (seqObj "list" vs.toArray 0)) s1.heap.objs.size vs) (R := fun u (z : Int) => RelV (V.int z) u) (enc := fun z : Int => PyData.int z) false (each_ints (h := s1.heap) hI).2 er (alike_ints' ns)
    have vo := each_vals (g := fun z : Int => V.int z) so
    obtain ⟨ep2, he⟩ := sortedHeap_new (h := s1.heap) (vs := vs) (out := (sortVals (dataKind (sortingHeap (s1.heap.push (seqObj "list" vs.toArray 0)) s1.heap.objs.size vs) (ns.map fun n : Int => PyData.int n)) false vs vs).toArray)
    have pms := List.mergeSort_perm ns (dataLe false fun z : Int => PyData.int z)
    have srt : (ns.mergeSort (dataLe false fun z : Int => PyData.int z)).Pairwise (· ≤ ·) := by
      have e := dataLe_int (fun z : Int => z)
      rw [e]
      have := List.pairwise_mergeSort (le := fun a b : Int => decide (a ≤ b)) (fun a b c h1 h2 => by simp at h1 h2 ⊢; omega) (fun a b => by simp; omega) ns
      exact this.imp fun h => by simpa using h
    have hln : ((ns.mergeSort (dataLe false fun z : Int => PyData.int z)).map V.int).length ≤ sizeLine := by
      rw [List.length_map, List.length_mergeSort, ← IntsAre.length hI]
      exact hlz
    have hn1 : H s1.heap.objs.size = none := I.hok.fresh hz
    have J : Inv X pins σ (upd H s1.heap.objs.size (.lst ((ns.mergeSort (dataLe false fun z : Int => PyData.int z)).map V.int))) { s1 with heap := sortedHeap (s1.heap.push (seqObj "list" vs.toArray 0)) s1.heap.objs.size vs (sortVals (dataKind (sortingHeap (s1.heap.push (seqObj "list" vs.toArray 0)) s1.heap.objs.size vs) (ns.map fun n : Int => PyData.int n)) false vs vs).toArray } :=
      I.call' (ch := []) o1 (Un.laid (fun b u e => sortedHeap_keep (k1 b u e)) hz hn1) (I.hok.laid (fun b u e => sortedHeap_keep (k1 b u e)) hz ⟨hln, _, ep2, vo, he⟩) (by show AllBare s1.gens; rw [g1]; exact I.bare) (fun _ z => nomatch z)
    refine ⟨.ref _, _, J, rfl, q _ _ (lt_of_le_nd srt ?_) (fun k => ?_) ?_ hn1⟩
    · rw [pms.nodup_iff, pk.nodup_iff]
      exact nd
    · rw [pms.mem_iff, pk.mem_iff, ← hm k]
    · rw [List.length_mergeSort, ← IntsAre.length hI]
      exact hvl
/-- min, max of a list or a tuple of ints -/
def rMnI (K : PySem.W.Frag) (f : Int → Int → Int) : List V → Hp → VK → Prop := fun vs H Q => ∃ (a : Addr) (n : Int) (ns : List Int), vs = [V.ref a] ∧ (SqL K H a ((n :: ns).map V.int) ∨ SqT K H a ((n :: ns).map V.int)) ∧ Q (.int (ns.foldl f n)) H
theorem reads_ints {h : Heap} : ∀ {us : List Value} {ns : List Int}, IntsAre us ns → ∃ as, ReadsAll h us (ns.map PyData.int) as
  | _, _, .nil => ⟨_, ReadsAll.nil⟩
  | _, _, .cons n t r => by
    obtain ⟨as, h⟩ := reads_ints (h := h) r
    exact ⟨_, ReadsAll.cons (Reads.int n t) h⟩
theorem toL {h : Heap} {its : List Value} {ds : List PyData} {as : List Addr} (hr : ReadsAll h its ds as) : ReadsAll h its.toArray.toList ds as := by
  have e : its.toArray.toList = its := by simp
  rw [e]
  exact hr
theorem alikeAll_ints (ns : List Int) : AlikeAll (ns.map PyData.int) := by
  refine ⟨fun d hd d' hd' => alike_ints' ns d hd d' hd', fun d hd => ?_⟩
  obtain ⟨i, _, rfl⟩ := List.mem_map.mp hd
  exact fun z => by cases z
theorem cr_minI (hc : X.calm = true) (hu : X.A.units + 65 < cLine) : CallR X (.builtin "min") (rMnI X.K min) := by
  intro pins s σ H vs us Q I r h
  obtain ⟨a, n, ns, rfl, hs, q⟩ := h
  rw [Vals.ref1 r]
  have fin : ∀ (v : Value) (h' : Heap) (tk : Nat) (bs : List Addr), Reads h' v (minD (.int n) (ns.map .int)) bs → (∀ b o, s.heap.get? b = some o → h'.get? b = some o) → EP X pins σ Q v { s with heap := h', toks := tk } := fun v h' tk bs hr hk => by
    rw [minD_ints] at hr
    cases hr with
    | int i t => exact ⟨.int _, H, I.kept hk, ⟨_, rfl⟩, q⟩
  rcases hs with hs | hs
  · obtain ⟨its, rv, hl, _⟩ := I.list hs
    obtain ⟨as, hr⟩ := reads_ints (h := s.heap) rv.ints
    refine min_list_data (x := .int n) (xs := ns.map .int) (I.ok.hd hc) hl.isList (as := as) (toL hr) (alikeAll_ints (n :: ns)) ?_ fun i v h' tk bs _ hr hk => fin v h' tk bs hr hk
    rw [show PyData.depthAll (PyData.int n :: ns.map PyData.int) = 0 from depth_ints (n :: ns)]
    omega
  · obtain ⟨its, rv, hl, _⟩ := I.tuple hs
    obtain ⟨as, hr⟩ := reads_ints (h := s.heap) rv.ints
    refine min_tuple_data (x := .int n) (xs := ns.map .int) (I.ok.hd hc) (show s.heap.IsTuple a its.toArray from hl) (as := as) (toL hr) (alikeAll_ints (n :: ns)) ?_ fun i v h' tk bs _ hr hk => fin v h' tk bs hr hk
    rw [show PyData.depthAll (PyData.int n :: ns.map PyData.int) = 0 from depth_ints (n :: ns)]
    omega
theorem cr_maxI (hc : X.calm = true) (hu : X.A.units + 65 < cLine) : CallR X (.builtin "max") (rMnI X.K max) := by
  intro pins s σ H vs us Q I r h
  obtain ⟨a, n, ns, rfl, hs, q⟩ := h
  rw [Vals.ref1 r]
  have fin : ∀ (v : Value) (h' : Heap) (tk : Nat) (bs : List Addr), Reads h' v (maxD (.int n) (ns.map .int)) bs → (∀ b o, s.heap.get? b = some o → h'.get? b = some o) → EP X pins σ Q v { s with heap := h', toks := tk } := fun v h' tk bs hr hk => by
    rw [maxD_ints] at hr
    cases hr with
    | int i t => exact ⟨.int _, H, I.kept hk, ⟨_, rfl⟩, q⟩
  rcases hs with hs | hs
  · obtain ⟨its, rv, hl, _⟩ := I.list hs
    obtain ⟨as, hr⟩ := reads_ints (h := s.heap) rv.ints
    refine max_list_data (x := .int n) (xs := ns.map .int) (I.ok.hd hc) hl.isList (as := as) (toL hr) (alikeAll_ints (n :: ns)) ?_ fun i v h' tk bs _ hr hk => fin v h' tk bs hr hk
    rw [show PyData.depthAll (PyData.int n :: ns.map PyData.int) = 0 from depth_ints (n :: ns)]
    omega
  · obtain ⟨its, rv, hl, _⟩ := I.tuple hs
    obtain ⟨as, hr⟩ := reads_ints (h := s.heap) rv.ints
    refine max_tuple_data (x := .int n) (xs := ns.map .int) (I.ok.hd hc) (show s.heap.IsTuple a its.toArray from hl) (as := as) (toL hr) (alikeAll_ints (n :: ns)) ?_ fun i v h' tk bs _ hr hk => fin v h' tk bs hr hk
    rw [show PyData.depthAll (PyData.int n :: ns.map PyData.int) = 0 from depth_ints (n :: ns)]
    omega
end
end L2

namespace Cl
open PySem PySem.Spec PyProof.Rows L2 PySem.W
variable {PL : PoolP}
/-! ### sorted -/
def leD (a b : Dt) : Bool := dataLe false toPy a b
def srtOk (l : List Dt) : Prop := (∀ d ∈ l, ∀ d' ∈ l, alike (toPy d) (toPy d') = true) ∧ Sortable (l.map toPy) ∧ ∀ d ∈ l, (toPy d).canLay0 = true ∧ (toPy d).depth ≤ 60
def sortedD (x : Dt) (k : Res → Prop) : Prop := match x with
  | .lst l => srtOk l ∧ k (.new (.lst (l.mergeSort leD)))
  | .tup l => srtOk l ∧ k (.new (.lst (l.mergeSort leD)))
  | .frz l => srtOk l ∧ k (.new (.lst (l.mergeSort leD)))
  | _ => False
def fSorted : CallF := arg1 sortedD
theorem repL_zip {K : PySem.W.Frag} {B : Hp} : ∀ {l : List Dt} {xs : List V}, RepL K B l xs → ∃ ws : List (V × Dt), ws.map (·.1) = xs ∧ ws.map (·.2) = l ∧ ∀ w ∈ ws, Rep K B w.2 w.1
  | [], xs, h => by
    unfold RepL at h
    subst h
    exact ⟨[], rfl, rfl, fun w hw => by cases hw⟩
  | d :: l, xs, h => by
    unfold RepL at h
    obtain ⟨x, r, rfl, h1, h2⟩ := h
    obtain ⟨ws, e1, e2, h3⟩ := repL_zip h2
    refine ⟨(x, d) :: ws, by rw [List.map_cons, e1], by rw [List.map_cons, e2], fun w hw => ?_⟩
    rcases List.mem_cons.mp hw with rfl | hw
    · exact h1
    · exact h3 w hw
theorem zip_repL {K : PySem.W.Frag} {B : Hp} : ∀ {ws : List (V × Dt)}, (∀ w ∈ ws, Rep K B w.2 w.1) → RepL K B (ws.map (·.2)) (ws.map (·.1))
  | [], _ => .nil
  | w :: ws, h => .cons (h w (List.mem_cons_self ..)) (zip_repL fun x hx => h x (List.mem_cons_of_mem _ hx))
theorem sort_rep {K : PySem.W.Frag} {B H : Hp} (e : Same B H) {l : List Dt} {xs : List V} (r : RepL K B l xs) (h : srtOk l) : ∃ zs : List (V × PyData), zs.map (·.1) = xs ∧ (∀ z ∈ zs, Dp K H z.1 z.2) ∧ AllAlike (zs.map (·.2)) ∧ Sortable (zs.map (·.2)) ∧ (∀ z ∈ zs, z.2.depth ≤ 60) ∧ RepL K B (l.mergeSort leD) ((zs.mergeSort leZ).map (·.1)) := by
  obtain ⟨ws, e1, e2, hw⟩ := repL_zip r
  obtain ⟨h1, h2, h3⟩ := h
  have em : (ws.map fun w : V × Dt => (w.1, toPy w.2)).map (fun z : V × PyData => z.2) = l.map toPy := by
    rw [← e2, List.map_map, List.map_map]
    rfl
  refine ⟨ws.map fun w => (w.1, toPy w.2), ?_, ?_, ?_, ?_, ?_, ?_⟩
  · rw [List.map_map, ← e1]
    rfl
  · intro z hz
    obtain ⟨w, hw1, rfl⟩ := List.mem_map.mp hz
    exact Rep.dp e (h3 w.2 (by rw [← e2]; exact List.mem_map_of_mem hw1)).1 (hw w hw1)
  · rw [em]
    intro d hd d' hd'
    obtain ⟨x, hx, rfl⟩ := List.mem_map.mp hd
    obtain ⟨y, hy, rfl⟩ := List.mem_map.mp hd'
    exact h1 x hx y hy
  · rw [em]
    exact h2
  · intro z hz
    obtain ⟨w, hw1, rfl⟩ := List.mem_map.mp hz
    exact (h3 w.2 (by rw [← e2]; exact List.mem_map_of_mem hw1)).2
  · have m1 : (ws.mergeSort fun a b => leD a.2 b.2).map (fun w : V × Dt => (w.1, toPy w.2)) = (ws.map fun w : V × Dt => (w.1, toPy w.2)).mergeSort leZ := List.map_mergeSort fun a _ b _ => rfl
    have m2 : (ws.mergeSort fun a b => leD a.2 b.2).map (fun w : V × Dt => w.2) = (ws.map fun w : V × Dt => w.2).mergeSort leD := List.map_mergeSort fun a _ b _ => rfl
    rw [← m1, List.map_map, ← e2, ← m2]
    refine zip_repL fun w hw1 => hw w ?_
    exact (List.mergeSort_perm ws _).mem_iff.mp hw1
theorem cd_sorted {K : PySem.W.Frag} : CallD K PL (rSortD K) fSorted := by
  intro G B c σ H xs vs k Q hc rx hf hq
  obtain ⟨x, rfl, hf⟩ := arg1_ok hf
  cases x with
  | lst l =>
    obtain ⟨v, rfl, a, ys, rfl, h1, h2⟩ := repHs1 rx
    obtain ⟨hs, hk⟩ := hf
    obtain ⟨zs, e1, z1, z2, z3, z4, z5⟩ := sort_rep hc.same h2 hs
    exact ⟨a, zs, rfl, .inl (by rw [e1]; exact .of h1), z1, z2, z3, z4, fun p hp => hq _ _ _ _ hk (Same.refl B) (conc_lst hc hp z5)⟩
  | tup l =>
    obtain ⟨v, rfl, a, ys, rfl, h1, h2⟩ := repHs1 rx
    obtain ⟨hs, hk⟩ := hf
    obtain ⟨zs, e1, z1, z2, z3, z4, z5⟩ := sort_rep hc.same h2 hs
    exact ⟨a, zs, rfl, .inr (by rw [e1]; exact sameT hc.same h1), z1, z2, z3, z4, fun p hp => hq _ _ _ _ hk (Same.refl B) (conc_lst hc hp z5)⟩
  | frz l =>
    obtain ⟨v, rfl, a, ys, rfl, h1, h2⟩ := repHs1 rx
    obtain ⟨hs, hk⟩ := hf
    obtain ⟨zs, e1, z1, z2, z3, z4, z5⟩ := sort_rep hc.same h2 hs
    exact ⟨a, zs, rfl, .inl (by rw [e1]; exact Same.seq hc.same h1), z1, z2, z3, z4, fun p hp => hq _ _ _ _ hk (Same.refl B) (conc_lst hc hp z5)⟩
  | _ => exact hf.elim
/-! ### rows of ints, of truths -/
def intsD : List Dt → Option (List Int)
  | [] => some []
  | .int i :: r => match intsD r with
    | some l => some (i :: l)
    | none => none
  | _ :: _ => none
theorem intsD_map : ∀ l : List Int, intsD (l.map Dt.int) = some l
  | [] => rfl
  | i :: l => by
    show (match intsD (l.map Dt.int) with | some m => some (i :: m) | none => none) = _
    rw [intsD_map l]
theorem intsD_ok {K : PySem.W.Frag} {B : Hp} : ∀ {ds : List Dt} {l : List Int} {vs : List V}, intsD ds = some l → RepL K B ds vs → vs = l.map V.int ∧ ds = l.map Dt.int
  | [], l, vs, h, r => by
    unfold intsD at h
    cases h
    unfold RepL at r
    exact ⟨r, rfl⟩
  | d :: ds, l, vs, h, r => by
    cases d with
    | int i =>
      unfold intsD at h
      cases g : intsD ds with
      | none => rw [g] at h; cases h
      | some m =>
        rw [g] at h
        cases h
        unfold RepL at r
        obtain ⟨x, w, rfl, h1, h2⟩ := r
        obtain ⟨e1, e2⟩ := intsD_ok g h2
        unfold Rep at h1
        subst h1
        exact ⟨by rw [e1]; rfl, by rw [e2]; rfl⟩
    | _ => cases h
def blsD : List Dt → Option (List Bool)
  | [] => some []
  | .bl i :: r => match blsD r with
    | some l => some (i :: l)
    | none => none
  | _ :: _ => none
theorem blsD_map : ∀ l : List Bool, blsD (l.map Dt.bl) = some l
  | [] => rfl
  | i :: l => by
    show (match blsD (l.map Dt.bl) with | some m => some (i :: m) | none => none) = _
    rw [blsD_map l]
theorem blsD_ok {K : PySem.W.Frag} {B : Hp} : ∀ {ds : List Dt} {l : List Bool} {vs : List V}, blsD ds = some l → RepL K B ds vs → vs = l.map V.bl ∧ ds = l.map Dt.bl
  | [], l, vs, h, r => by
    unfold blsD at h
    cases h
    unfold RepL at r
    exact ⟨r, rfl⟩
  | d :: ds, l, vs, h, r => by
    cases d with
    | bl i =>
      unfold blsD at h
      cases g : blsD ds with
      | none => rw [g] at h; cases h
      | some m =>
        rw [g] at h
        cases h
        unfold RepL at r
        obtain ⟨x, w, rfl, h1, h2⟩ := r
        obtain ⟨e1, e2⟩ := blsD_ok g h2
        unfold Rep at h1
        subst h1
        exact ⟨by rw [e1]; rfl, by rw [e2]; rfl⟩
    | _ => cases h
def onInts (l : List Dt) (k : List Int → Prop) : Prop := match intsD l with
  | some ns => k ns
  | none => False
theorem onInts_ok {l : List Dt} {k : List Int → Prop} (h : onInts l k) : ∃ ns, intsD l = some ns ∧ k ns := by
  unfold onInts at h
  cases g : intsD l with
  | none => rw [g] at h; exact h.elim
  | some ns => rw [g] at h; exact ⟨ns, rfl, h⟩
def onBls (l : List Dt) (k : List Bool → Prop) : Prop := match blsD l with
  | some ns => k ns
  | none => False
theorem onBls_ok {l : List Dt} {k : List Bool → Prop} (h : onBls l k) : ∃ ns, blsD l = some ns ∧ k ns := by
  unfold onBls at h
  cases g : blsD l with
  | none => rw [g] at h; exact h.elim
  | some ns => rw [g] at h; exact ⟨ns, rfl, h⟩
theorem onInts_map {l : List Int} {k : List Int → Prop} : onInts (l.map Dt.int) k = k l := by unfold onInts; rw [intsD_map]
theorem onBls_map {l : List Bool} {k : List Bool → Prop} : onBls (l.map Dt.bl) k = k l := by unfold onBls; rw [blsD_map]
def sumD (x : Dt) (k : Res → Prop) : Prop := match x with
  | .lst l => onInts l fun ns => k (.dat (.int ns.sum))
  | _ => False
def fSum : CallF := arg1 sumD
theorem cd_sum {K : PySem.W.Frag} : CallD K PL (rSum K) fSum := by
  intro G B c σ H xs vs k Q hc rx hf hq
  obtain ⟨x, rfl, hf⟩ := arg1_ok hf
  cases x with
  | lst l =>
    obtain ⟨v, rfl, a, ys, rfl, h1, h2⟩ := repHs1 rx
    obtain ⟨ns, g, hk⟩ := onInts_ok hf
    obtain ⟨e1, e2⟩ := intsD_ok g h2
    subst e1
    exact ⟨a, ns, rfl, .of h1, hq _ _ _ _ hk (Same.refl B) ⟨hc, by unfold Rep; rfl⟩⟩
  | _ => exact hf.elim
def allD (f : List Bool → Bool) (x : Dt) (k : Res → Prop) : Prop := match x with
  | .lst l => onBls l fun bs => k (.dat (.bl (f bs)))
  | _ => False
def fAll : CallF := arg1 (allD fun bs => bs.all id)
def fAny : CallF := arg1 (allD fun bs => bs.any id)
theorem cd_all {K : PySem.W.Frag} : CallD K PL (rAll K) fAll := by
  intro G B c σ H xs vs k Q hc rx hf hq
  obtain ⟨x, rfl, hf⟩ := arg1_ok hf
  cases x with
  | lst l =>
    obtain ⟨v, rfl, a, ys, rfl, h1, h2⟩ := repHs1 rx
    obtain ⟨ns, g, hk⟩ := onBls_ok hf
    obtain ⟨e1, e2⟩ := blsD_ok g h2
    subst e1
    exact ⟨a, ns, rfl, .of h1, hq _ _ _ _ hk (Same.refl B) ⟨hc, by unfold Rep; rfl⟩⟩
  | _ => exact hf.elim
theorem cd_any {K : PySem.W.Frag} : CallD K PL (rAny K) fAny := by
  intro G B c σ H xs vs k Q hc rx hf hq
  obtain ⟨x, rfl, hf⟩ := arg1_ok hf
  cases x with
  | lst l =>
    obtain ⟨v, rfl, a, ys, rfl, h1, h2⟩ := repHs1 rx
    obtain ⟨ns, g, hk⟩ := onBls_ok hf
    obtain ⟨e1, e2⟩ := blsD_ok g h2
    subst e1
    exact ⟨a, ns, rfl, .of h1, hq _ _ _ _ hk (Same.refl B) ⟨hc, by unfold Rep; rfl⟩⟩
  | _ => exact hf.elim
def mnL (f : Int → Int → Int) (ns : List Int) (k : Res → Prop) : Prop := match ns with
  | n :: r => k (.dat (.int (r.foldl f n)))
  | [] => False
theorem mnL_ok {f : Int → Int → Int} {ns : List Int} {k : Res → Prop} (h : mnL f ns k) : ∃ n r, ns = n :: r ∧ k (.dat (.int (r.foldl f n))) := by
  cases ns with
  | nil => exact h.elim
  | cons n r => exact ⟨n, r, rfl, h⟩
def mnD (f : Int → Int → Int) (x : Dt) (k : Res → Prop) : Prop := match x with
  | .lst l => onInts l fun ns => mnL f ns k
  | .tup l => onInts l fun ns => mnL f ns k
  | _ => False
def fMinI : CallF := arg1 (mnD min)
def fMaxI : CallF := arg1 (mnD max)
theorem cd_mnI {K : PySem.W.Frag} {f : Int → Int → Int} : CallD K PL (rMnI K f) (arg1 (mnD f)) := by
  intro G B c σ H xs vs k Q hc rx hf hq
  obtain ⟨x, rfl, hf⟩ := arg1_ok hf
  cases x with
  | lst l =>
    obtain ⟨v, rfl, a, ys, rfl, h1, h2⟩ := repHs1 rx
    obtain ⟨ns, g, hk⟩ := onInts_ok hf
    obtain ⟨n, r, rfl, hk⟩ := mnL_ok hk
    obtain ⟨e1, e2⟩ := intsD_ok g h2
    subst e1
    exact ⟨a, n, r, rfl, .inl (.of h1), hq _ _ _ _ hk (Same.refl B) ⟨hc, by unfold Rep; rfl⟩⟩
  | tup l =>
    obtain ⟨v, rfl, a, ys, rfl, h1, h2⟩ := repHs1 rx
    obtain ⟨ns, g, hk⟩ := onInts_ok hf
    obtain ⟨n, r, rfl, hk⟩ := mnL_ok hk
    obtain ⟨e1, e2⟩ := intsD_ok g h2
    subst e1
    exact ⟨a, n, r, rfl, .inr (sameT hc.same h1), hq _ _ _ _ hk (Same.refl B) ⟨hc, by unfold Rep; rfl⟩⟩
  | _ => exact hf.elim
theorem cd_minI {K : PySem.W.Frag} : CallD K PL (rMnI K min) fMinI := cd_mnI
theorem cd_maxI {K : PySem.W.Frag} : CallD K PL (rMnI K max) fMaxI := cd_mnI
section
variable {X : Cx}
/-! ### sorted(set(a list of ints)) -/
def srtSet (x : Dt) (k : Res → Prop) : Prop := match x with
  | .lst l => onInts l fun ns => ns.length ≤ 4000 ∧ ∀ ms : List Int, ms.Pairwise (· < ·) → (∀ i, i ∈ ms ↔ i ∈ ns) → ms.length ≤ ns.length → k (.new (.lst (ms.map Dt.int)))
  | _ => False
def dSrtSet (da : DE) : DE := fun c Q => da c fun r c1 => on1 (hd r) c1 fun x => srtSet x fun z => Q z c1
theorem repL_ints {K : PySem.W.Frag} {B : Hp} : ∀ ns : List Int, RepL K B (ns.map Dt.int) (ns.map V.int)
  | [] => .nil
  | n :: ns => .cons (by unfold Rep; rfl) (repL_ints ns)
theorem qe_srtset {p p2 pos pos2 : Pos} {a : Expr} {da : DE} (hc : X.calm = true) (hu : X.A.units + 65 < cLine) (hg : Gl X "sorted") (hm : X.mg "sorted" = none) (hg2 : Gl X "set") (hm2 : X.mg "set" = none) (ha : QE X PL a da)
    (na : starEach [a] X.env = (false, eval a X.env) :: starEach [] X.env := by rfl) (na2 : starEach [.Call (.Name "set" p2) [a] [] pos2] X.env = (false, eval (.Call (.Name "set" p2) [a] [] pos2) X.env) :: starEach [] X.env := by rfl) : QE X PL (.Call (.Name "sorted" p) [.Call (.Name "set" p2) [a] [] pos2] [] pos) (dSrtSet da) := by
  refine q_of (pe_callB (cr_sortS hc hu) hg hm (by decide +kernel) (pa_cons (pe_callTy (cr_setL hc) hg2 hm2 PyProof.Rows.boot_set (pa_cons ha.pe pa_nil na) (by decide) (by decide) na rfl) pa_nil na2) (by decide) (by decide) na2 rfl) fun G B c σ H Qd Q hc hd2 hq => ?_
  refine ⟨G, B, c, _, hc, hd2, fun r c1 B1 H1 v q e1 cr => ?_⟩
  obtain ⟨B2, e2, hc2, hh⟩ := cr.hold
  obtain ⟨x, rx, hf⟩ := on1_ok hc2 hh q
  cases x with
  | lst l =>
    obtain ⟨ns, g, hl, hk⟩ := onInts_ok hf
    obtain ⟨a0, xs, rfl, h1, h2⟩ := (show ∃ a xs, v = V.ref a ∧ H1 a = some (.lst xs) ∧ RepL X.K B2 l xs from rx)
    obtain ⟨ex, el⟩ := intsD_ok g h2
    subst ex
    refine ⟨a0, ns, rfl, .of h1, hl, fun p cn hp hcn => ?_⟩
    have hc3 := hc2.grow (Same.new (o := SetO X.w p (fun j => decide (j ∈ ns)) cn) hp)
    refine ⟨p, _, cn, rfl, upd_same, by omega, fun ms p2 m1 m2 m3 hp2 => ?_⟩
    refine hq _ _ _ _ _ (hk ms m1 (fun i => by rw [m2 i, decide_eq_true_eq]) (by omega)) (e1.trans e2) (conc_lst hc3 hp2 (repL_ints ms))
  | _ => exact hf.elim
/-! ### a < b < c -/
def dChain (f f' : OpF) (da db dc : DE) : DE := fun c Q => da c fun r c1 => db c1 fun s c2 => on2 (hd r) (hd s) c2 fun x y => f x y fun z => blR z fun b => br b (dc c2 fun t c3 => on2 (hd s) (hd t) c3 fun y' w => f' y' w fun z' => Q z' c3) (Q (.dat (.bl false)) c2)
theorem chain_ok {r r' : R2} {f f' : OpF} (ho : OpD X.K PL r f) (ho' : OpD X.K PL r' f') {da db dc : DE} {G : Ent} {B : Hp} {c : CEnv} {σ : L2.St} {H : Hp} {Qd : Res → CEnv → Prop} {Q : VK} (hc : Conc X.K PL G B c σ H) (hd' : dChain f f' da db dc c Qd)
    (hq : ∀ r c' B' H' v, Qd r c' → Same B B' → CR X.K PL G B' c' σ H' r v → Q v H') : tChain r r' (lE X.K PL da) (lE X.K PL db) (lE X.K PL dc) σ H Q := by
  refine ⟨G, B, c, _, hc, hd', fun r1 c1 B1 H1 v h1 e1 cr1 => ?_⟩
  obtain ⟨B2, e2, hc2, hh⟩ := cr1.hold
  refine ⟨G, B2, c1, _, hc2, h1, fun r2 c2 B3 H2 u h2 e3 cr2 => ?_⟩
  obtain ⟨B4, e4, hc4, hh2⟩ := cr2.hold
  obtain ⟨x, y, rx, ry, hf⟩ := on2_ok hc4 (hh.mono (e3.trans e4)) hh2 h2
  refine ho G B4 c2 σ H2 x y v u _ _ hc4 rx ry hf fun z w B' H' hk e' cr => ?_
  cases z with
  | dat d =>
    cases d with
    | bl b =>
      obtain ⟨hc5, rw5⟩ := cr
      unfold Rep at rw5
      refine ⟨b, rw5, ?_⟩
      have hk : br b (dc c2 fun t c3 => on2 (hd r2) (hd t) c3 fun y' w => f' y' w fun z' => Qd z' c3) (Qd (.dat (.bl false)) c2) := hk
      have e05 : Same B B' := ((e1.trans e2).trans e3).trans (e4.trans e')
      cases b with
      | false =>
        rw [if_neg (by decide)]
        exact hq _ c2 B' H' _ hk e05 ⟨hc5, by unfold Rep; rfl⟩
      | true =>
        rw [if_pos rfl]
        refine ⟨G, B', c2, _, hc5, hk, fun r3 c3 B6 H3 t h3 e6 cr3 => ?_⟩
        obtain ⟨B7, e7, hc7, hh3⟩ := cr3.hold
        obtain ⟨y', w', ry', rw', hf'⟩ := on2_ok hc7 (hh2.mono (e'.trans (e6.trans e7))) hh3 h3
        exact ho' G B7 c3 σ H3 y' w' u t _ Q hc7 ry' rw' hf' fun z' w2 B8 H8 hk8 e8 cr8 => hq z' c3 B8 H8 w2 hk8 (e05.trans ((e6.trans e7).trans e8)) cr8
    | _ => exact hk.elim
  | _ => exact hk.elim
theorem qe_chain {a b e : Expr} {op op' : CmpOp} {pos : Pos} {r r' : R2} {f f' : OpF} {da db dc : DE} (ho : OpR X (compareOp op) r) (hd' : OpD X.K PL r f) (ho2 : OpR X (compareOp op') r') (hd2 : OpD X.K PL r' f') (ha : QE X PL a da) (hb : QE X PL b db) (hc : QE X PL e dc)
    (hm : lastMarks [op, op'] [b, e] = false := by with_unfolding_all rfl) : QE X PL (.Compare a [op, op'] [b, e] pos) (dChain f f' da db dc) :=
  q_of (pe_chain ho ho2 ha.pe hb.pe hc.pe hm) fun _ _ _ _ _ _ _ hc2 hd3 hq => chain_ok hd' hd2 hc2 hd3 hq
def dChainT (f f' : OpF) (da db dc : DE) : DT := fun c Q => dChain f f' da db dc c fun z c2 => blR z fun b => Q b c2
theorem qt_chain {a b e : Expr} {op op' : CmpOp} {pos : Pos} {r r' : R2} {f f' : OpF} {da db dc : DE} (ho : OpR X (compareOp op) r) (hd' : OpD X.K PL r f) (ho2 : OpR X (compareOp op') r') (hd2 : OpD X.K PL r' f') (ha : QE X PL a da) (hb : QE X PL b db) (hc : QE X PL e dc)
    (hm : lastMarks [op, op'] [b, e] = false := by with_unfolding_all rfl) : QT X PL (.Compare a [op, op'] [b, e] pos) (dChainT f f' da db dc) := by
  refine qt_of (pt_chain ho ho2 ha.pe hb.pe hc.pe hm) fun G B c σ H Qd Q hc2 hd3 hq => ?_
  refine chain_ok (PL := PL) hd' hd2 hc2 (Qd := fun z c2 => blR z fun b => Qd b c2) hd3 fun z c' B' H' w hz e cr => ?_
  cases z with
  | dat d =>
    cases d with
    | bl b =>
      obtain ⟨h2, h3⟩ := cr
      unfold Rep at h3
      exact ⟨b, h3, hq b c' B' H' hz e h2⟩
    | _ => exact hz.elim
  | _ => exact hz.elim
end
/-! ### equations -/
theorem e_dSrtSet {da : DE} {c : CEnv} {Q : Res → CEnv → Prop} : dSrtSet da c Q = (da c fun r c1 => on1 (hd r) c1 fun x => srtSet x fun z => Q z c1) := propext Iff.rfl
theorem c_srtSet {l : List Dt} {k : Res → Prop} : srtSet (.lst l) k = onInts l fun ns => ns.length ≤ 4000 ∧ ∀ ms : List Int, ms.Pairwise (· < ·) → (∀ i, i ∈ ms ↔ i ∈ ns) → ms.length ≤ ns.length → k (.new (.lst (ms.map Dt.int))) := propext Iff.rfl
theorem e_dChain {f f' : OpF} {da db dc : DE} {c : CEnv} {Q : Res → CEnv → Prop} : dChain f f' da db dc c Q = (da c fun r c1 => db c1 fun s c2 => on2 (hd r) (hd s) c2 fun x y => f x y fun z => blR z fun b => br b (dc c2 fun t c3 => on2 (hd s) (hd t) c3 fun y' w => f' y' w fun z' => Q z' c3) (Q (.dat (.bl false)) c2)) := propext Iff.rfl
theorem e_dChainT {f f' : OpF} {da db dc : DE} {c : CEnv} {Q : Bool → CEnv → Prop} : dChainT f f' da db dc c Q = dChain f f' da db dc c fun z c2 => blR z fun b => Q b c2 := propext Iff.rfl
theorem c_sorted_lst {l : List Dt} {k : Res → Prop} : fSorted [.lst l] k = (srtOk l ∧ k (.new (.lst (l.mergeSort leD)))) := propext Iff.rfl
theorem c_sorted_tup {l : List Dt} {k : Res → Prop} : fSorted [.tup l] k = (srtOk l ∧ k (.new (.lst (l.mergeSort leD)))) := propext Iff.rfl
theorem c_sorted_frz {l : List Dt} {k : Res → Prop} : fSorted [.frz l] k = (srtOk l ∧ k (.new (.lst (l.mergeSort leD)))) := propext Iff.rfl
theorem c_sum {l : List Dt} {k : Res → Prop} : fSum [.lst l] k = onInts l fun ns => k (.dat (.int ns.sum)) := propext Iff.rfl
theorem c_all {l : List Dt} {k : Res → Prop} : fAll [.lst l] k = onBls l fun bs => k (.dat (.bl (bs.all id))) := propext Iff.rfl
theorem c_any {l : List Dt} {k : Res → Prop} : fAny [.lst l] k = onBls l fun bs => k (.dat (.bl (bs.any id))) := propext Iff.rfl
theorem c_minI_lst {l : List Dt} {k : Res → Prop} : fMinI [.lst l] k = onInts l fun ns => mnL min ns k := propext Iff.rfl
theorem c_minI_tup {l : List Dt} {k : Res → Prop} : fMinI [.tup l] k = onInts l fun ns => mnL min ns k := propext Iff.rfl
theorem c_maxI_lst {l : List Dt} {k : Res → Prop} : fMaxI [.lst l] k = onInts l fun ns => mnL max ns k := propext Iff.rfl
theorem c_maxI_tup {l : List Dt} {k : Res → Prop} : fMaxI [.tup l] k = onInts l fun ns => mnL max ns k := propext Iff.rfl
theorem c_mnL {f : Int → Int → Int} {n : Int} {r : List Int} {k : Res → Prop} : mnL f (n :: r) k = k (.dat (.int (r.foldl f n))) := propext Iff.rfl
theorem c_minI2 {i j : Int} {k : Res → Prop} : fMinI [.tup [.int i, .int j]] k = k (.dat (.int (min i j))) := propext Iff.rfl
theorem c_maxI2 {i j : Int} {k : Res → Prop} : fMaxI [.tup [.int i, .int j]] k = k (.dat (.int (max i j))) := propext Iff.rfl
/-! ### what sorted gives -/
theorem leD_eq (a b : Dt) : leD a b = !dataLt (toPy b) (toPy a) := rfl
theorem leD_trans {a b c : Dt} (h1 : leD a b = true) (h2 : leD b c = true) : leD a c = true := by
  rw [leD_eq, Bool.not_eq_true'] at h1 h2 ⊢
  cases h : dataLt (toPy c) (toPy a) with
  | false => rfl
  | true =>
    rcases lex_negTrans (O := itemOrd) (keyToks (toPy c)) (keyToks (toPy b)) (keyToks (toPy a)) h with h | h
    · exact absurd (h2.symm.trans h) (by decide)
    · exact absurd (h1.symm.trans h) (by decide)
theorem leD_total (a b : Dt) : (leD a b || leD b a) = true := by
  rw [leD_eq, leD_eq]
  cases h : dataLt (toPy b) (toPy a) with
  | false => rfl
  | true =>
    cases h' : dataLt (toPy a) (toPy b) with
    | false => rfl
    | true =>
      have := lex_trans (O := itemOrd) (keyToks (toPy a)) (keyToks (toPy b)) (keyToks (toPy a)) h' h
      rw [lex_irrefl] at this
      cases this
theorem srt_map {α : Type} (f : α → Dt) (xs : List α) : ∃ ys : List α, (xs.map f).mergeSort leD = ys.map f ∧ ys.Perm xs ∧ ys.Pairwise fun a b => leD (f a) (f b) = true :=
  ⟨xs.mergeSort fun a b => leD (f a) (f b), (List.map_mergeSort (f := f) (r := fun a b => leD (f a) (f b)) (s := leD) fun a _ b _ => rfl).symm, List.mergeSort_perm _ _, List.pairwise_mergeSort (le := fun a b => leD (f a) (f b)) (fun a b c => leD_trans) (fun a b => leD_total (f a) (f b)) xs⟩
theorem lex_int {i j : Int} {xs ys : List PyData} : dataLt (.tuple (.int i :: xs)) (.tuple (.int j :: ys)) = if i = j then rowLt xs ys else decide (i < j) := by
  rw [dataLt_tuple, dataLt_cons (by rfl), dataLt_int]
  by_cases e : i = j
  · rw [if_pos e, e, if_pos (by show (decide (j = j)) = true; simp)]
    rfl
  · rw [if_neg e, if_neg (by show ¬ (decide (i = j)) = true; simpa using e)]
theorem rowLt_int {i j : Int} {xs ys : List PyData} : rowLt (.int i :: xs) (.int j :: ys) = if i = j then rowLt xs ys else decide (i < j) := by
  rw [← lex_int, dataLt_tuple]
  rfl
theorem le_fst {i j : Int} {r r' : List Dt} (h : leD (.tup (.int i :: r)) (.tup (.int j :: r')) = true) : i ≤ j := by
  rw [leD_eq, Bool.not_eq_true', toPy, toPy, toPys, toPys, toPy, toPy, lex_int] at h
  by_cases e : j = i
  · omega
  · rw [if_neg e, decide_eq_false_iff_not] at h
    omega
theorem le_snd {i j k l : Int} {r r' : List Dt} (h : leD (.tup (.int i :: .int k :: r)) (.tup (.int j :: .int l :: r')) = true) : i < j ∨ (i = j ∧ k ≤ l) := by
  rw [leD_eq, Bool.not_eq_true', toPy, toPy, toPys, toPys, toPy, toPy, toPys, toPys, toPy, toPy, lex_int] at h
  by_cases e : j = i
  · rw [if_pos e, rowLt_int] at h
    by_cases e2 : l = k
    · omega
    · rw [if_neg e2, decide_eq_false_iff_not] at h
      omega
  · rw [if_neg e, decide_eq_false_iff_not] at h
    omega
theorem srtOk_map {α : Type} {f : α → Dt} {xs : List α} (h1 : ∀ a b, alike (toPy (f a)) (toPy (f b)) = true) (h2 : ∀ a, ∃ x r, toPy (f a) = .tuple (x :: r)) (h3 : ∀ a, (toPy (f a)).canLay0 = true ∧ (toPy (f a)).depth ≤ 60) : srtOk (xs.map f) := by
  refine ⟨fun d hd d' hd' => ?_, .inl fun d hd => ?_, fun d hd => ?_⟩
  · obtain ⟨a, _, rfl⟩ := List.mem_map.mp hd
    obtain ⟨b, _, rfl⟩ := List.mem_map.mp hd'
    exact h1 a b
  · obtain ⟨y, hy, rfl⟩ := List.mem_map.mp hd
    obtain ⟨a, _, rfl⟩ := List.mem_map.mp hy
    exact h2 a
  · obtain ⟨a, _, rfl⟩ := List.mem_map.mp hd
    exact h3 a
end Cl

namespace Cl
open PySem PySem.Spec PyProof.Rows L2
/-! ### a drawing flow: state, count, pool -/
def flowPL : PoolP where
  ok a fp H := ∃ (q : Addr) (st ct : Int) (hs : List Int), fp = [a, q] ∧ a ≠ q ∧ H a = some (.lst [.int st, .int ct, .ref q]) ∧ H q = some (.lst (hs.map V.int)) ∧ hs.length ≤ 1000
  mem := by
    rintro a fp H ⟨q, st, ct, hs, rfl, _⟩
    simp
  alive := by
    rintro a fp H ⟨q, st, ct, hs, rfl, _, h1, h2, _⟩ b hb
    rcases List.mem_cons.mp hb with rfl | hb
    · rw [h1]; simp
    · rw [List.mem_singleton.mp hb, h2]; simp
  loc := by
    rintro a fp H H' ⟨q, st, ct, hs, rfl, hne, h1, h2, h3⟩ k
    exact ⟨q, st, ct, hs, rfl, hne, (k a (by simp)).trans h1, (k q (by simp)).trans h2, h3⟩
/-- what the drawing def has to answer -/
theorem flow_pick {K : PySem.W.Frag} {vs : List V} {H : Hp} {Q : VK} {E : XK} (h : spC K flowPL 2 F_boxPick vs H Q E) : ∃ (a q : Addr) (st ct : Int) (hs : List Int) (m : Int), vs = [.ref a, .int m] ∧ a ≠ q ∧ H a = some (.lst [.int st, .int ct, .ref q]) ∧ H q = some (.lst (hs.map V.int)) ∧ 1 ≤ m ∧ m ≤ 1000000 ∧
    ∀ (r : Int) (H' : Hp) (st' ct' : Int) (hs' : List Int), 0 ≤ r → r < m → H' a = some (.lst [.int st', .int ct', .ref q]) → H' q = some (.lst (hs'.map V.int)) → hs'.length ≤ hs.length → (∀ x, x ≠ a → x ≠ q → H' x = H x) → Q (.int r) H' := by
  obtain ⟨B, as, fs, R, hn, sB, ao, ap, ⟨m, rfl, hm1, hm2, hF⟩, q⟩ := h
  obtain ⟨hlen, hao⟩ := ao
  obtain ⟨v0, hv0, a, rfl, bq, st, ct, hs, hfp, hne, ha, hb, hbl⟩ := hao 0 _ rfl
  obtain ⟨v1, hv1, hf1, hr1⟩ := hao 1 _ rfl
  have e1 : v1 = .int m := by unfold Rep at hr1; exact hr1
  subst e1
  match vs, hlen, hv0, hv1 with
  | [x, y], _, hv0, hv1 =>
  cases Option.some.inj hv0
  cases Option.some.inj hv1
  refine ⟨a, bq, st, ct, hs, m, rfl, hne, ha, hb, hm1, hm2, fun r H' st' ct' hs' r0 r1 h1 h2 h3 h4 => ?_⟩
  have out : ∀ x, (∀ k, x ∉ fs k) → H' x = H x := fun x hx => by
    have h0 := hx 0
    rw [hfp] at h0
    exact h4 x (fun e => h0 (by simp [e])) (fun e => h0 (by simp [e]))
  have offa : ∀ x, x ∈ fs 0 → B x = none := fun x hx => ap.off 0 x hx
  refine q (.dat (.int r)) [.ob .pool, .dat (.int m)] B H' (.int r) fs (hF r r0 r1) (Same.refl B) (fun _ _ e => .inl e) (fun x o e => ?_) (fun x o e hx => ?_) (fun x hx => ?_) ?_ ⟨ap.out, ap.disj, ap.off⟩ (fun k b hb => .inr hb) (fun k o e => ⟨o, e⟩) (by unfold RetOk Rep; rfl)
  · rw [← sB x o e]
    refine h4 x (fun z => ?_) (fun z => ?_)
    · rw [z, offa a (by rw [hfp]; simp)] at e
      cases e
    · rw [z, offa bq (by rw [hfp]; simp)] at e
      cases e
  · rw [out x hx]
    exact e
  · by_cases xa : x = a
    · rw [xa, h1]
      simp
    · by_cases xq : x = bq
      · rw [xq, h2]
        simp
      · rw [h4 x xa xq]
        exact hx
  · refine ⟨rfl, fun k a' e => ?_⟩
    match k, e with
    | 0, e =>
      cases Option.some.inj e
      exact ⟨_, rfl, a, rfl, bq, st', ct', hs', hfp, hne, h1, h2, Nat.le_trans h3 hbl⟩
    | 1, e =>
      cases Option.some.inj e
      exact ⟨_, rfl, hf1, by unfold Rep; rfl⟩
/-- what the def has to answer that makes the box -/
theorem flow_new {K : PySem.W.Frag} {vs : List V} {H : Hp} {Q : VK} {E : XK} (h : spC K flowPL 1 F_boxNew vs H Q E) : ∃ (p : Addr) (ns : List Int), vs = [.ref p] ∧ SqL K H p (ns.map V.int) ∧ ns.length ≤ 1000 ∧
    ∀ (a q : Addr) (H' : Hp) (st ct : Int) (hs : List Int), a ≠ q → H a = none → H q = none → H' a = some (.lst [.int st, .int ct, .ref q]) → H' q = some (.lst (hs.map V.int)) → hs.length ≤ ns.length → (∀ x, x ≠ a → x ≠ q → H' x = H x) → Q (.ref a) H' := by
  obtain ⟨B, as, fs, R, hn, sB, ao, ap, ⟨ns, rfl, hm1, hF⟩, q⟩ := h
  obtain ⟨hlen, hao⟩ := ao
  obtain ⟨v0, hv0, hf, hr⟩ := hao 0 _ rfl
  unfold Rep at hr
  obtain ⟨p, xs, rfl, hp, hxs⟩ := hr
  match vs, hlen, hv0 with
  | [x], _, hv0 =>
  cases Option.some.inj hv0
  have ex : xs = ns.map V.int := by
    have key : ∀ (l : List Int) (ys : List V), RepL K B (l.map Dt.int) ys → ys = l.map V.int := by
      intro l
      induction l with
      | nil => intro ys h; unfold RepL at h; exact h
      | cons i l ih =>
        intro ys h
        unfold RepL at h
        obtain ⟨y, zs, rfl, h1, h2⟩ := h
        unfold Rep at h1
        rw [h1, ih zs h2]
        rfl
    exact key ns xs hxs
  subst ex
  refine ⟨p, ns, rfl, Same.seq sB hp, hm1, fun a b H' st ct hs hne n1 n2 h1 h2 h3 h4 => ?_⟩
  have fe : ∀ k, fs k = [] := fun k => by
    cases k with
    | zero => exact hf
    | succ k => exact ap.out _ (by omega)
  have grow : ∀ x o, H x = some o → H' x = some o := fun x o e => by
    rw [h4 x (fun z => by rw [z, n1] at e; cases e) (fun z => by rw [z, n2] at e; cases e)]
    exact e
  refine q (.new .pool) [.dat (.frz (ns.map .int))] B H' (.ref a) fs hF (Same.refl B) (fun _ _ e => .inl e) (fun x o e => grow x o (sB x o e)) (fun x o e _ => grow x o e) (fun x hx => ?_) ?_ ⟨ap.out, ap.disj, ap.off⟩ (fun k b hb => .inr hb) (fun k o e => ?_) ⟨a, [a, b], rfl, ⟨b, st, ct, hs, rfl, hne, h1, h2, Nat.le_trans h3 hm1⟩, fun x hx => ?_⟩
  · cases g : H x with
    | none => exact absurd g hx
    | some o => rw [grow x o g]; simp
  · refine ⟨rfl, fun k a' e => ?_⟩
    match k, e with
    | 0, e =>
      cases Option.some.inj e
      exact ⟨_, rfl, hf, by unfold Rep; exact ⟨p, _, rfl, hp, hxs⟩⟩
  · match k, e with
    | 0, e => cases e
  · have hxH : H x = none := by
      rcases List.mem_cons.mp hx with rfl | hx
      · exact n1
      · rw [List.mem_singleton.mp hx]
        exact n2
    refine ⟨?_, hxH, fun k => by rw [fe k]; simp⟩
    cases g : B x with
    | none => rfl
    | some o => rw [sB x o g] at hxH; cases hxH
end Cl

namespace Cl
open PySem PySem.Spec PyProof.Rows L2
/-! ### comprehensions over rows of one kind -/
section
variable {g : DG} {dt : DT} {de : DE} {vs : List Nat} {c1 : CEnv} {Q : Res → CEnv → Prop}
theorem lcm {α : Type} {xs : List α} {f : α → Dt} (h : α → Dt) (hl : xs.length ≤ 9000000)
    (hs : ∀ x ∈ xs, ∀ Y : Dt → CEnv → Prop, Y (h x) (wipeC vs c1) → g (f x) (wipeC vs c1) fun c2 => (de c2 fun r c4 => asD r c4 fun e c5 => Y e (wipeC vs c5)))
    (hQ : Q (.new (.lst (xs.map h))) (unw vs c1 (wipeC vs c1))) : LCI (xs.map f) g dYes de vs c1 Q := by
  refine ⟨by rw [List.length_map]; exact hl, fun k acc c' => acc = (xs.take k).map h ∧ c' = wipeC vs c1, ⟨by simp, rfl⟩, ?_, ?_⟩
  · rintro k acc d c' hd _ ⟨rfl, rfl⟩
    rw [List.getElem?_map] at hd
    cases q : xs[k]? with
    | none => rw [q] at hd; cases hd
    | some x =>
      rw [q] at hd
      cases hd
      refine hs x (List.mem_of_getElem? q) (fun e c' => (xs.take k).map h ++ [e] = (xs.take (k + 1)).map h ∧ c' = wipeC vs c1) ⟨?_, rfl⟩
      rw [List.take_add_one, q]
      simp
  · rintro acc c' _ ⟨rfl, rfl⟩
    rw [List.length_map, List.take_length]
    exact hQ
/-- some of them -/
theorem lcf {α : Type} {xs : List α} {f : α → Dt} (p : α → Bool) (h : α → Dt) (hl : xs.length ≤ 9000000)
    (hs : ∀ x ∈ xs, ∀ Y : Option Dt → CEnv → Prop, Y (if p x then some (h x) else none) (wipeC vs c1) → g (f x) (wipeC vs c1) fun c2 => dt c2 fun b c3 => br b (de c3 fun r c4 => asD r c4 fun e c5 => Y (some e) (wipeC vs c5)) (Y none (wipeC vs c3)))
    (hQ : Q (.new (.lst ((xs.filter p).map h))) (unw vs c1 (wipeC vs c1))) : LCI (xs.map f) g dt de vs c1 Q := by
  refine ⟨by rw [List.length_map]; exact hl, fun k acc c' => acc = ((xs.take k).filter p).map h ∧ c' = wipeC vs c1, ⟨by simp, rfl⟩, ?_, ?_⟩
  · rintro k acc d c' hd _ ⟨rfl, rfl⟩
    rw [List.getElem?_map] at hd
    cases q : xs[k]? with
    | none => rw [q] at hd; cases hd
    | some x =>
      rw [q] at hd
      cases hd
      have h1 := hs x (List.mem_of_getElem? q) (fun o c' => (match o with
        | some e => ((xs.take k).filter p).map h ++ [e] = ((xs.take (k + 1)).filter p).map h
        | none => ((xs.take k).filter p).map h = ((xs.take (k + 1)).filter p).map h) ∧ c' = wipeC vs c1) ⟨?_, rfl⟩
      · exact h1
      · rw [List.take_add_one, q]
        cases e : p x <;> simp [e]
  · rintro acc c' _ ⟨rfl, rfl⟩
    rw [List.length_map, List.take_length]
    exact hQ
/-- drawn ones: each new item is one that P says -/
theorem lcr {β : Type} {ds : List Dt} (P : β → Prop) (h : β → Dt) (hl : ds.length ≤ 9000000)
    (hs : ∀ d ∈ ds, ∀ Y : Dt → CEnv → Prop, (∀ y, P y → Y (h y) (wipeC vs c1)) → g d (wipeC vs c1) fun c2 => (de c2 fun r c4 => asD r c4 fun e c5 => Y e (wipeC vs c5)))
    (hQ : ∀ ys : List β, ys.length = ds.length → (∀ y ∈ ys, P y) → Q (.new (.lst (ys.map h))) (unw vs c1 (wipeC vs c1))) : LCI ds g dYes de vs c1 Q := by
  refine ⟨hl, fun k acc c' => (∃ ys : List β, ys.length = k ∧ (∀ y ∈ ys, P y) ∧ acc = ys.map h) ∧ c' = wipeC vs c1, ⟨⟨[], rfl, by simp, rfl⟩, rfl⟩, ?_, ?_⟩
  · rintro k acc d c' hd _ ⟨⟨ys, y1, y2, rfl⟩, rfl⟩
    refine hs d (List.mem_of_getElem? hd) (fun e c' => (∃ zs : List β, zs.length = k + 1 ∧ (∀ y ∈ zs, P y) ∧ ys.map h ++ [e] = zs.map h) ∧ c' = wipeC vs c1) fun y hy => ⟨⟨ys ++ [y], by simp [y1], fun z hz => ?_, by simp⟩, rfl⟩
    rcases List.mem_append.mp hz with hz | hz
    · exact y2 z hz
    · rw [List.mem_singleton.mp hz]
      exact hy
  · rintro acc c' _ ⟨⟨ys, y1, y2, rfl⟩, rfl⟩
    exact hQ ys y1 y2
end
/-! ### l[::-1], l a list -/
section
variable {X : Cx} {PL : PoolP}
def fRvL (x : Dt) (k : Res → Prop) : Prop := match x with
  | .lst l => k (.new (.lst l.reverse))
  | _ => False
def dRvL (da : DE) : DE := fun c Q => da c fun r c1 => on1 (hd r) c1 fun x => fRvL x fun z => Q z c1
theorem qe_rvL {e : Expr} {k : Nat} {p1 p2 p3 pos : Pos} {da : DE} (h : QE X PL e da) : QE X PL (.Subscript e (.Slice none none (some (.UnaryOp .USub (.Constant (.int 1) k p1) p2)) p3) pos) (dRvL da) := by
  refine q_of (pe_revL h.pe) fun G B c σ H Qd Q hc hd2 hq => ?_
  refine ⟨G, B, c, _, hc, hd2, fun r c1 B1 H1 v q e1 cr => ?_⟩
  obtain ⟨B2, e2, hc2, hh⟩ := cr.hold
  obtain ⟨x, rx, hf⟩ := on1_ok hc2 hh q
  cases x with
  | lst l =>
    obtain ⟨a, xs, rfl, h1, h2⟩ := (show ∃ a xs, v = V.ref a ∧ H1 a = some (.lst xs) ∧ RepL X.K B2 l xs from rx)
    exact ⟨a, xs, rfl, .of h1, fun p hp => hq _ _ _ _ _ hf (e1.trans e2) (conc_lst hc2 hp h2.rev)⟩
  | _ => exact hf.elim
theorem e_dRvL {da : DE} {c : CEnv} {Q : Res → CEnv → Prop} : dRvL da c Q = (da c fun r c1 => on1 (hd r) c1 fun x => fRvL x fun z => Q z c1) := propext Iff.rfl
theorem c_rvL {l : List Dt} {k : Res → Prop} : fRvL (.lst l) k = k (.new (.lst l.reverse)) := propext Iff.rfl
end
end Cl

namespace Cl
open PySem PySem.Spec PyProof.Rows L2 RT RZ
/-! ### zip of two, each a list or a tuple -/
def SqK (K : PySem.W.Frag) (k : Bool) (H : Hp) (a : Addr) (xs : List V) : Prop := match k with
  | true => SqT K H a xs
  | false => SqL K H a xs
def ItIs (k : Bool) (h : Heap) (it a : Addr) (i : Nat) : Prop := match k with
  | true => h.IsTupleIter it a i
  | false => h.IsListIter it a i
def SeqIs (k : Bool) (h : Heap) (a : Addr) (its : Array Value) : Prop := match k with
  | true => h.IsTuple a its
  | false => h.IsList a its
def itO (k : Bool) (a : Addr) : Obj := match k with
  | true => { cls := .type "tuple_iterator", data := .fields #[.ref a, .int 0 0] }
  | false => { cls := .type "list_iterator", data := .fields #[.ref a, .int 0 0] }
theorem draws_k {prog : Program} {w : World} {A : Around} (hh : A.handled = none) (k : Bool) (it a : Addr) (hne : a ≠ it) (its : Array Value) : Draws prog w A it [it, a] its.size (fun i v => its[i]? = some v) (fun i h => ItIs k h it a i ∧ SeqIs k h a its) := by
  cases k with
  | true => exact Draws.tuple hh it a hne its
  | false => exact Draws.list hh it a hne its
theorem begins_k (k : Bool) (a : Addr) (its : Array Value) : Begins (.ref a) (itO k a) fun h => SeqIs k h a its := by
  cases k with
  | true => exact begins_tuple a its
  | false => exact begins_list a its
theorem seq_k {X : Cx} {pins : List (Addr × Obj)} {σ : L2.St} {H : Hp} {s : Shared} (I : Inv X pins σ H s) {k : Bool} {a : Addr} {xs : List V} (h : SqK X.K k H a xs) : ∃ its : List Value, Vals xs its ∧ SeqIs k s.heap a its.toArray ∧ a < s.heap.objs.size := by
  cases k with
  | true =>
    obtain ⟨its, rv, p, _⟩ := I.tuple h
    obtain ⟨o, ho, _⟩ := id p
    exact ⟨its, rv, p, Heap.lt_size ho⟩
  | false =>
    obtain ⟨its, rv, p, _⟩ := I.list h
    exact ⟨its, rv, p.isList, p.lt⟩
theorem iter_ob {k : Bool} {h : Heap} {it a : Addr} {i : Nat} (x : ItIs k h it a i) : ∃ o, h.get? it = some o ∧ ∀ v, o.data ≠ .cell v := by
  cases k with
  | true =>
    obtain ⟨o, e, _, d⟩ := x
    exact ⟨o, e, fun v q => by rw [d] at q; cases q⟩
  | false =>
    obtain ⟨o, e, _, d⟩ := x
    exact ⟨o, e, fun v q => by rw [d] at q; cases q⟩
theorem iter_at {k : Bool} {h h' : Heap} {it a : Addr} {i : Nat} (x : ItIs k h it a i) (e : ∀ o, h.get? it = some o → h'.get? it = some o) : ItIs k h' it a i := by
  cases k with
  | true => exact Heap.IsTupleIter.at x e
  | false => exact Heap.IsListIter.at x e
theorem iter_new {k : Bool} {h : Heap} {it a : Addr} (e : h.get? it = some (itO k a)) : ItIs k h it a 0 := by
  cases k with
  | true => exact ⟨_, e, rfl, rfl⟩
  | false => exact ⟨_, e, rfl, rfl⟩
def ItzM (K : PySem.W.Frag) (k m : Bool) (a b : Addr) (xs ys : List V) : It :=
  ⟨fun i H => (i < xs.length ∧ i < ys.length) ∧ SqK K k H a xs ∧ SqK K m H b ys,
    fun i H v H' => ∃ T x y, v = .ref T ∧ H T = none ∧ H' = upd H T (.tup [x, y]) ∧ xs[i]? = some x ∧ ys[i]? = some y,
    fun i H => (xs.length ≤ i ∨ ys.length ≤ i) ∧ SqK K k H a xs ∧ SqK K m H b ys⟩
theorem turn_zipM {P : Program} {w : World} {K : PySem.W.Frag} {elts : List Expr} {kk : Nat} {tpos : Pos} {k m : Bool} {a b z TI TO i1 i2 : Addr} {xs ys : List V} (S : ZipSep2 z TI TO i1 i2 [i1, a] [i2, b]) (m1 : a ≠ i1) (m2 : b ≠ i2) :
    Turn P w K (.Tuple elts kk tpos) (ItzM K k m a b xs ys) [z, TI, TO, i1, i2] z (fun i h => IsZip h z TI TO .none ∧ IsTupOf2 h TI (.ref i1) (.ref i2) ∧ (∃ x y, IsTupOf2 h TO x y) ∧ ItIs k h i1 a i ∧ ItIs m h i2 b i ∧ i ≤ xs.length ∧ i ≤ ys.length) where
  mem := by simp
  obj := fun i h st c hc => by
    obtain ⟨hz, hTI, ⟨x, y, hTO⟩, j1, j2, _⟩ := st
    rcases (by simpa using hc : c = z ∨ c = TI ∨ c = TO ∨ c = i1 ∨ c = i2) with q | q | q | q | q
    · rw [q]; exact ⟨_, hz, fun v q => nomatch q⟩
    · rw [q]; exact ⟨_, hTI, fun v q => nomatch q⟩
    · rw [q]; exact ⟨_, hTO, fun v q => nomatch q⟩
    · rw [q]; exact iter_ob j1
    · rw [q]; exact iter_ob j2
  keep := fun i h h' st kp => by
    obtain ⟨hz, hTI, ⟨x, y, hTO⟩, h1, h2, hl⟩ := st
    exact ⟨kp z (by simp) _ hz, kp TI (by simp) _ hTI, ⟨x, y, kp TO (by simp) _ hTO⟩, iter_at h1 fun o q => kp i1 (by simp) o q, iter_at h2 fun o q => kp i2 (by simp) o q, hl⟩
  item := by
    intro X hP hw hK hc i pins s σ H E I hf st hg
    subst hP hw hK
    obtain ⟨hz, hTI, ⟨x0, y0, hTO⟩, h1, h2, _⟩ := st
    obtain ⟨⟨l1, l2⟩, hqx, hqy⟩ := hg
    obtain ⟨its, rv, p, _⟩ := seq_k I hqx
    obtain ⟨its2, rv2, p2, _⟩ := seq_k I hqy
    have k1 := rv.length
    have k2 := rv2.length
    have D1 := draws_k (prog := X.prog) (w := X.w) (A := X.A.in1) (I.ok.hd hc) k i1 a m1 its.toArray
    have D2 := draws_k (prog := X.prog) (w := X.w) (A := X.A.in1) (I.ok.hd hc) m i2 b m2 its2.toArray
    have hzl : z < s.heap.objs.size := Heap.lt_size hz
    refine wpAny_pyNext_zipD2_item S D1 D2 hz hTI hTO ⟨h1, p⟩ ⟨h2, p2⟩ (by simp only [List.size_toArray]; omega) (by simp only [List.size_toArray]; omega) fun u1 u2 h' tk b1 b2 z' TO' s1' s2' hT hsz hk => ?_
    have hu1 : its[i]? = some u1 := by simpa using b1
    have hu2 : its2[i]? = some u2 := by simpa using b2
    obtain ⟨v1, g1, r1⟩ := rv.get (List.getElem?_eq_getElem l1)
    obtain ⟨v2, g2, r2⟩ := rv2.get (List.getElem?_eq_getElem l2)
    rw [hu1] at g1
    rw [hu2] at g2
    cases g1
    cases g2
    refine ⟨_, rfl, wpAny_letOwnedTupleGo_zip (s := { s with heap := h', toks := tk }) z' fun h'' z'' sb => ?_⟩
    have hT2 : h''.get? s.heap.objs.size = some { cls := .type "tuple", data := .seq #[u1, u2] } := (sb.2 _ (Nat.ne_of_gt hzl)).trans hT
    have new : ObjOk X.prog X.w (upd H s.heap.objs.size (.tup [xs[i], ys[i]])) h'' s.heap.objs.size (.tup [xs[i], ys[i]]) :=
      ⟨by show 2 ≤ sizeLine; decide, [u1, u2], .cons r1 (.cons r2 .nil), ⟨_, hT2, rfl, _, rfl⟩⟩
    have I1 : Inv X pins σ (upd H s.heap.objs.size (.tup [xs[i], ys[i]])) { s with heap := h'', toks := tk } :=
      I.turnedNew (ch := [z, TI, TO, i1, i2]) (fun c o hb q => (sb.2 c (fun q' => hb (by simp [q']))).trans (hk c o (fun q' => hb (by simp [q'])) (fun q' => hb (by simp [q'])) (fun q' => hb (by simp [q'])) (fun q' => hb (by simp [q'])) q)) hf (Nat.le_refl _) new
    refine ⟨.ref s.heap.objs.size, _, I1, rfl, ⟨_, _, _, rfl, I.hok.fresh (Nat.le_refl _), rfl, List.getElem?_eq_getElem l1, List.getElem?_eq_getElem l2⟩, ⟨z'', ?_, ⟨u1, u2, ?_⟩, ?_, ?_, l1, l2⟩, fun c hcm => ?_⟩
    · exact (sb.2 _ S.TIz).trans (hk _ _ S.TIz S.TITO S.TIi1 S.TIi2 hTI)
    · exact (sb.2 _ S.TOz).trans TO'
    · exact iter_at s1'.1 fun o q => (sb.2 _ (fun q' => S.zf1 (by rw [← q']; simp))).trans q
    · exact iter_at s2'.1 fun o q => (sb.2 _ (fun q' => S.zf2 (by rw [← q']; simp))).trans q
    · have hlt : c < s.heap.objs.size := by
        rcases (by simpa using hcm : c = z ∨ c = TI ∨ c = TO ∨ c = i1 ∨ c = i2) with q | q | q | q | q
        · rw [q]; exact hzl
        · rw [q]; exact Heap.lt_size hTI
        · rw [q]; exact Heap.lt_size hTO
        · rw [q]; obtain ⟨_, e1, _⟩ := iter_ob h1; exact Heap.lt_size e1
        · rw [q]; obtain ⟨_, e2, _⟩ := iter_ob h2; exact Heap.lt_size e2
      rw [upd_ne (Nat.ne_of_lt hlt)]
      exact (hf c hcm).1
  done := by
    intro X hP hw hK hc i pins s σ H E I hf st hg
    subst hP hw hK
    obtain ⟨hz, hTI, ⟨x0, y0, hTO⟩, h1, h2, l1, l2⟩ := st
    obtain ⟨hend, hqx, hqy⟩ := hg
    obtain ⟨its, rv, p, _⟩ := seq_k I hqx
    obtain ⟨its2, rv2, p2, _⟩ := seq_k I hqy
    have k1 := rv.length
    have k2 := rv2.length
    have D1 := draws_k (prog := X.prog) (w := X.w) (A := X.A.in1) (I.ok.hd hc) k i1 a m1 its.toArray
    have D2 := draws_k (prog := X.prog) (w := X.w) (A := X.A.in1) (I.ok.hd hc) m i2 b m2 its2.toArray
    refine wpAny_pyNext_zipD2_end S D1 D2 hz hTI hTO ⟨h1, p⟩ ⟨h2, p2⟩ (by simp only [List.size_toArray]; omega) (by simp only [List.size_toArray]; omega) (by simp only [List.size_toArray]; omega) fun h' tk hk => ⟨rfl, I.turnedL (ch := [z, TI, TO, i1, i2]) (fun c o hb q =>
      hk c o (fun q' => hb (by simp [q'])) (fun q' => hb (by simp [q'])) (fun q' => hb (by simp [q'])) (fun q' => hb (by simp [q'])) q) hf⟩
  self := fun A i s Q E st h => wpAny_pyIter_zip st.1 h
def iZipM (K : PySem.W.Frag) (ta : TA) : TI := fun σ H R => ta σ H fun vs H1 => ∃ k m a b xs ys, vs = [.ref a, .ref b] ∧ SqK K k H1 a xs ∧ SqK K m H1 b ys ∧ R (ItzM K k m a b xs ys) H1
theorem pi_zipM {X : Cx} {e e2 : Expr} {ta : TA} {p pos tpos : Pos} {elts : List Expr} {kk : Nat} (hg : Gl X "zip") (hm : X.mg "zip" = none) (ha : PA X [e, e2] ta)
    (hs : starEach [e, e2] X.env = (false, eval e X.env) :: starEach [e2] X.env := by rfl) (hpl : (backTo pos (starEach [e2] X.env)).any (·.1) = false := by rfl) :
    PI X (.Tuple elts kk tpos) (.Call (.Name "zip" p) [e, e2] [] pos) (iZipM X.K ta) := by
  refine ⟨fun pins s σ H R I h => ?_⟩
  refine Call_ (ld_blt I hg hm PyProof.Rows.boot_zip (PyProof.Rows.callWith_type1 (thn (ha.run pos pins s σ H _ I h) fun us s1 ⟨vs, H1, I1, r1, q1⟩ => ?_) hs hpl))
  obtain ⟨k, m, a, b, xs, ys, ex, hqx, hqy, q⟩ := q1
  subst ex
  cases r1 with
  | cons r rr =>
    cases rr with
    | cons r' rr =>
      cases rr
      cases r
      cases r'
      obtain ⟨its, rv, p1, la⟩ := seq_k I1 hqx
      obtain ⟨its2, rv2, p2, lb⟩ := seq_k I1 hqy
      refine zip_begins2 (begins_k k a its.toArray) (begins_k m b its2.toArray) p1 p2 fun h' hz hTI hTO h1 h2 hsz hk => wpAny_pyIter_zip hz ?_
      have fresh : ∀ c, c ∈ [s1.heap.objs.size + 4, s1.heap.objs.size + 2, s1.heap.objs.size + 3, s1.heap.objs.size, s1.heap.objs.size + 1] → FpOk X pins H1 c := fun c hcm => by
        have hle : s1.heap.objs.size ≤ c := by
          simp only [List.mem_cons, List.not_mem_nil, or_false] at hcm
          rcases hcm with z | z | z | z | z <;> rw [z] <;> first | exact Nat.le_add_right _ _ | exact Nat.le_refl _
        exact I1.fpOk hle (I1.hok.fresh hle)
      have I2 : Inv X pins σ H1 { s1 with heap := h' } := I1.kept (t' := s1.toks) hk
      have n0 : ∀ j, a ≠ s1.heap.objs.size + j := fun j => Nat.ne_of_lt (Nat.lt_of_lt_of_le la (Nat.le_add_right _ _))
      have n1 : ∀ j, b ≠ s1.heap.objs.size + j := fun j => Nat.ne_of_lt (Nat.lt_of_lt_of_le lb (Nat.le_add_right _ _))
      have ne : ∀ i j : Nat, i ≠ j → s1.heap.objs.size + i ≠ s1.heap.objs.size + j := fun i j h e => h (Nat.add_left_cancel e)
      have S : ZipSep2 (s1.heap.objs.size + 4) (s1.heap.objs.size + 2) (s1.heap.objs.size + 3) s1.heap.objs.size (s1.heap.objs.size + 1) [s1.heap.objs.size, a] [s1.heap.objs.size + 1, b] := by
        refine ⟨ne 2 4 (by decide), ne 3 4 (by decide), ne 2 3 (by decide), ne 2 0 (by decide), by simp, ?_, ?_, ne 2 1 (by decide), by simp, ?_, ?_, ?_, ?_⟩
        all_goals simp only [List.mem_cons, List.not_mem_nil, or_false, not_or]
        · exact ⟨ne 4 0 (by decide), (n0 4).symm⟩
        · exact ⟨ne 3 0 (by decide), (n0 3).symm⟩
        · exact ⟨ne 4 1 (by decide), (n1 4).symm⟩
        · exact ⟨ne 3 1 (by decide), (n1 3).symm⟩
        · exact ⟨ne 0 1 (by decide), (n1 0).symm⟩
        · exact ⟨ne 1 0 (by decide), (n0 1).symm⟩
      exact ⟨s1.heap.objs.size + 4, [s1.heap.objs.size + 4, s1.heap.objs.size + 2, s1.heap.objs.size + 3, s1.heap.objs.size, s1.heap.objs.size + 1], _, _, H1, rfl, I2,
        turn_zipM (xs := xs) (ys := ys) S (n0 0) (n1 1), ⟨hz, hTI, ⟨_, _, hTO⟩, iter_new h1, iter_new h2, Nat.zero_le _, Nat.zero_le _⟩, fresh, q⟩
variable {X : Cx} {PL : PoolP}
def sqD (d : Dt) (k : List Dt → Prop) : Prop := match d with
  | .lst l => k l
  | .tup l => k l
  | .frz l => k l
  | _ => False
theorem sqD_ok {K : PySem.W.Frag} {B H : Hp} (e : Same B H) {d : Dt} {v : V} {k : List Dt → Prop} (h : sqD d k) (r : Rep K B d v) : ∃ (b : Bool) (a : Addr) (xs : List V) (l : List Dt), v = .ref a ∧ SqK K b B a xs ∧ SqK K b H a xs ∧ RepL K B l xs ∧ k l := by
  cases d with
  | lst l =>
    unfold Rep at r
    obtain ⟨a, xs, rfl, q1, q2⟩ := r
    exact ⟨false, a, xs, l, rfl, .of q1, .of (e _ _ q1), q2, h⟩
  | tup l =>
    unfold Rep at r
    obtain ⟨a, xs, rfl, q1, q2⟩ := r
    exact ⟨true, a, xs, l, rfl, q1, sameT e q1, q2, h⟩
  | frz l =>
    unfold Rep at r
    obtain ⟨a, xs, rfl, q1, q2⟩ := r
    exact ⟨false, a, xs, l, rfl, q1, Same.seq e q1, q2, h⟩
  | _ => exact h.elim
theorem SqK.mono {K : PySem.W.Frag} {B H : Hp} (e : Same B H) {k : Bool} {a : Addr} {xs : List V} (h : SqK K k B a xs) : SqK K k H a xs := by
  cases k with
  | true => exact sameT e h
  | false => exact Same.seq e h
theorem items_zipM {K : PySem.W.Frag} {B : Hp} {k m : Bool} {a b : Addr} {xs ys : List V} {ds es : List Dt} (h : SqK K k B a xs) (r : RepL K B ds xs) (h2 : SqK K m B b ys) (r2 : RepL K B es ys) : ItemsOf K PL B (ItzM K k m a b xs ys) (zip2D ds es) where
  go := fun i H e hi => by
    rw [zip2D_len] at hi
    have l1 := r.length
    have l2 := r2.length
    exact ⟨⟨by omega, by omega⟩, h.mono e, h2.mono e⟩
  stop := fun H e => ⟨by rw [zip2D_len, r.length, r2.length]; omega, h.mono e, h2.mono e⟩
  yld := fun i H x H' hi y G B1 c σ e1 hc => by
    obtain ⟨T, x1, y1, h1, h3, h4, h5, h6⟩ := y
    obtain ⟨d, f1, f2⟩ := r.getV h5
    obtain ⟨d', g1, g2⟩ := r2.getV h6
    exact pair_yld f1 g1 f2 g2 h1 h3 h4 e1 hc
def dZipM (da : DL) : DI := fun c Q => da c fun ds c1 => twoD ds fun a b => sqD a fun l => sqD b fun m => Q (zip2D l m) c1
theorem qi_zipM {e e2 : Expr} {da : DL} {p pos tpos : Pos} {elts : List Expr} {kk : Nat} (ha : QL X PL [e, e2] da) (hg : Gl X "zip") (hm : X.mg "zip" = none)
    (hs : starEach [e, e2] X.env = (false, eval e X.env) :: starEach [e2] X.env := by rfl) (hpl : (backTo pos (starEach [e2] X.env)).any (·.1) = false := by rfl) :
    QI X PL (.Tuple elts kk tpos) (.Call (.Name "zip" p) [e, e2] [] pos) (dZipM da) := by
  refine qi_of (pi_zipM hg hm ha.pa hs hpl) fun G B c σ H Qd R hc hd2 hq => ?_
  refine ⟨G, B, c, _, hc, hd2, fun ds c1 B1 H1 vs g1 e1 hc1 rl => ?_⟩
  obtain ⟨d, d', rfl, g1⟩ := g1
  obtain ⟨v, v', rfl, rv, rv'⟩ := repL2 rl
  obtain ⟨k, a, xs, l, rfl, q1, q2, q3, g1⟩ := sqD_ok hc1.same g1 rv
  obtain ⟨m, b, ys, l', rfl, q1', q2', q3', g1⟩ := sqD_ok hc1.same g1 rv'
  exact ⟨k, m, a, b, xs, ys, rfl, q2, q2', hq _ _ B1 _ _ g1 e1 hc1 (items_zipM q1 q3 q1' q3')⟩
theorem e_dZipM {da : DL} {c : CEnv} {Q : List Dt → CEnv → Prop} : dZipM da c Q = (da c fun ds c1 => twoD ds fun a b => sqD a fun l => sqD b fun m => Q (zip2D l m) c1) := propext Iff.rfl
theorem c_sq_lst {l : List Dt} {k : List Dt → Prop} : sqD (.lst l) k = k l := propext Iff.rfl
theorem c_sq_tup {l : List Dt} {k : List Dt → Prop} : sqD (.tup l) k = k l := propext Iff.rfl
theorem c_sq_frz {l : List Dt} {k : List Dt → Prop} : sqD (.frz l) k = k l := propext Iff.rfl
theorem zip2_map {α β : Type} (f : α → Dt) (g : β → Dt) : ∀ (xs : List α) (ys : List β), zip2D (xs.map f) (ys.map g) = (xs.zip ys).map fun p => .tup [f p.1, g p.2]
  | [], _ => rfl
  | _ :: _, [] => rfl
  | x :: xs, y :: ys => congrArg (_ :: ·) (zip2_map f g xs ys)
end Cl

theorem _root_.L2H.RoomH.units {k : Nat} {A : PySem.Around} (r : L2H.RoomH k A) : A.units + 64 < PySem.cLine := by have := r.un; omega
theorem _root_.L2H.RoomH.units64 {k : Nat} {A : PySem.Around} (r : L2H.RoomH k A) : A.units + 64 < PySem.cLine := by have := r.un; omega
theorem _root_.L2H.RoomH.units65 {k : Nat} {A : PySem.Around} (r : L2H.RoomH k A) : A.units + 65 < PySem.cLine := by have := r.un; omega
namespace Cl
open PySem PySem.Spec PyProof.Rows L2
variable {PL : PoolP}
/-! ### defs called while an exception is handled -/
theorem hotC_suite {X : Cx} {a : Addr} {oe : Obj} {pn : List (Addr × Obj)} {cls : Value} {d : Option Addr} (hz : L2N.Zn cls d oe) (hd : ∃ vs, oe.data = .fields vs) : L2H.HotC (X.suite a ((a, oe) :: pn)) := by
  obtain ⟨vs, hv⟩ := hd
  exact ⟨(a, oe), ⟨rfl, vs, hv, hz.2.2 vs hv⟩, List.mem_cons_self ..⟩
theorem hotC_cx {CX : CXT} {P : Program} {w : World} {K : PySem.W.Frag} {mg : Str → Option Value} {base : Heap} {N : List Str} {qual : Str} {sc : Scope} {f : Addr} {cdv : Value} {A : Around} {outer : List Env} {s : Shared} {H : Hp} {E : XK} {p : Addr × Obj} (h : L2H.Hot1 A p) : L2H.HotC (L2H.cxH CX P w K mg base N qual sc f cdv A outer s H E p).nox :=
  ⟨p, ⟨h.1, h.2⟩, List.mem_singleton.mpr rfl⟩
structure DefH (P : Program) (w : World) (K : PySem.W.Frag) (mg : Str → Option Value) (base : Heap) (PL : PoolP) (k : Nat) (x : Str) (st : Stmt) (dvs : List V) (kws : List (Str × V)) (ps : List Str) (F : FS) : Prop where
  ex : ∃ f fd, L2H.FnH P w K mg base CX0 k f fd ps (spC K PL ps.length F) ∧ mg x = some (.ref f) ∧ PySem.W.keepIn K (.ref f) = true ∧ FunD K x x (defArgs st) (defBody st) (defScope st) dvs kws f fd
theorem funD_okH {P : Program} {w : World} {K : PySem.W.Frag} {mg : Str → Option Value} {base : Heap} {x qual : Str} {params : Arguments} {body : List Stmt} {scope : Scope} {dvs : List V} {kws : List (Str × V)} {f : Addr} {fd : FuncData} {CX : CXT} {N ps : List Str} {k : Nat} {sp : Sp} (F : FunD K x qual params body scope dvs kws f fd) (S : FnScope N ps scope) (len : ∀ vs H Q E, sp vs H Q E → vs.length = ps.length)
    (hbody : ∀ (cdv : Value) (A : Around) (outer : List Env) (s : Shared) (H : Hp) (vs : List V) (Q : VK) (E : XK) (p : Addr × Obj), L2H.Hot1 A p → L2H.RoomH k (A.deeper (envOfC qual scope s.heap.objs.size f cdv)) → sp vs H Q E →
      ∃ t, PSs (L2H.cxH CX P w K mg base N qual scope f cdv A outer s H E p) body t ∧ t { nx := fun _ H' => Q .non H', rt := Q } (L2.start N vs) H) : L2H.FnH P w K mg base CX (k + 1) f fd ps sp := by
  obtain ⟨oc, od, dV, kV, doc, pm, an, cdv, ct, osl, rfl, lk, hcd, _, _⟩ := F.ex
  exact L2H.fn_ofH lk hcd S len fun A outer s H vs Q E p ho hr hsp => hbody cdv A outer s H vs Q E p ho hr hsp
theorem fnH {P : Program} {w : World} {K : PySem.W.Frag} {mg : Str → Option Value} {base : Heap} {x qual : Str} {st : Stmt} {dvs : List V} {kws : List (Str × V)} {f : Addr} {fd : FuncData} {N ps : List Str} {k : Nat} {F : FS} {ds : DS} (Fn : FunD K x qual (defArgs st) (defBody st) (defScope st) dvs kws f fd) (Sc : FnScope N ps (defScope st))
    (body : ∀ (cdv : Value) (A : Around) (outer : List Env) (s : Shared) (H : Hp) (E : XK), L2H.RoomH k (A.deeper (envOfC qual (defScope st) s.heap.objs.size f cdv)) → ∀ p : Addr × Obj, L2H.Hot1 A p → QSs (L2H.cxH CX0 P w K mg base N qual (defScope st) f cdv A outer s H E p).nox PL (defBody st) ds)
    (red : ∀ as R, as.length = ps.length → F as R → ds (fnEnds as R) (c0 as N.length)) : L2H.FnH P w K mg base CX0 (k + 1) f fd ps (spC K PL ps.length F) := by
  have hN : ps.length ≤ N.length := by
    have := congrArg List.length Sc.pre
    rw [List.length_take] at this
    omega
  refine funD_okH Fn Sc (fun vs H Q E h => ?_) fun cdv A outer s H vs Q E p ho hr h => ?_
  · obtain ⟨B, as, fs, R, h1, _, h3, _⟩ := h
    rw [← h3.1, h1]
  · obtain ⟨B, as, fs, R, hn, sB, ao, ap, hF, q⟩ := h
    have fin : ∀ (G : Ent), G.B = B → G.H = H → G.fp = fs → (∀ i o, as[i]? = some (.ob o) → ∀ p, G.ow i = some p → vs[i]? = some (.ref p)) → ∀ (r : Res) (c' : CEnv) (B' : Hp) (σ' : L2.St) (H' : Hp) (v : V), retB as R r c' → CR K PL G B' c' σ' H' r v → Q v H' := by
      intro G g1 g2 g3 g4 r c' B' σ' H' v hr' cr
      cases r with
      | dat d =>
        obtain ⟨as', b1, b2⟩ := bk_ok (show bk as c' (R (.dat d)) from hr')
        obtain ⟨⟨F', C⟩, rd⟩ := cr
        obtain ⟨fs', m0, m1, m2, m3, m4, m5, m6, m7, m8, m9⟩ := conc_back hn g1 g2 g3 g4 ao C b1
        exact q _ as' B' H' v fs' b2 m1 m2 m3 m4 m5 m6 m7 m8 m9 rd
      | new o =>
        obtain ⟨as', b1, b2⟩ := bk_ok (show bk as c' (R (.new o)) from hr')
        obtain ⟨F2, C2⟩ := (show Conc K PL G B' (c' ++ [.own o]) (σ' ++ [some v]) H' from cr)
        have C := C2.pop
        obtain ⟨fs', m0, m1, m2, m3, m4, m5, m6, m7, m8, m9⟩ := conc_back hn g1 g2 g3 g4 ao C b1
        have hl : c'.length = σ'.length := by simpa using C2.len
        obtain ⟨y, s1, p, s2, s3, s4⟩ := C2.slots c'.length (.own o) (by rw [List.getElem?_append_right (Nat.le_refl _)]; simp)
        rw [hl, List.getElem?_append_right (Nat.le_refl _)] at s1
        have ey : y = some v := by simpa using s1.symm
        subst ey
        have ev : v = .ref p := Option.some.inj s2
        refine q _ as' B' H' v fs' b2 m1 m2 m3 m4 m5 m6 m7 m8 m9 ⟨p, F2 c'.length, ev, s3, fun b hb => ⟨C2.off _ b hb, by rw [← g2]; exact s4 b hb, fun k hk => ?_⟩⟩
        obtain ⟨z1, o2, z2⟩ := m0 k b hk
        have hk2 : k < c'.length := (List.getElem?_eq_some_iff.mp z2).1
        simp only [hk2, if_true] at z1
        exact C2.disj k c'.length (by omega) b z1 hb
      | sl i =>
        have hr2 : (match gt c' i with
          | .own o => bk as c' (R (.new o))
          | _ => False) := hr'
        cases g : gt c' i with
        | no => simp only [g] at hr2
        | dat d => simp only [g] at hr2
        | arg o => simp only [g] at hr2
        | own o =>
          simp only [g] at hr2
          obtain ⟨as', b1, b2⟩ := bk_ok hr2
          obtain ⟨⟨F', C⟩, rv⟩ := cr
          obtain ⟨fs', m0, m1, m2, m3, m4, m5, m6, m7, m8, m9⟩ := conc_back hn g1 g2 g3 g4 ao C b1
          have gi := gt_get g (by simp)
          obtain ⟨y, s1, p, s2, s3, s4⟩ := C.slots i _ gi
          rw [rv] at s1
          cases s1
          cases s2
          refine q _ as' B' H' _ fs' b2 m1 m2 m3 m4 m5 m6 m7 m8 m9 ⟨p, F' i, rfl, s3, fun b hb => ⟨C.off _ b hb, by rw [← g2]; exact s4 b hb, fun k hk => ?_⟩⟩
          obtain ⟨z1, o2, z2⟩ := m0 k b hk
          have hki : k ≠ i := fun e => by
            rw [e, gi] at z2
            cases z2
          exact C.disj k i hki b z1 hb
    refine ⟨_, (body cdv A outer s H E hr p ho).pss.nox, _, B, _, _, ⟨_, conc_start hn (by omega) sB ao ap⟩, red as R hn hF, ?_, ?_, ?_, ?_⟩
    · intro c' B' σ' H' hx e hc
      exact fin _ rfl rfl rfl (fun i o e1 p e2 => by
        have e3 : (match as[i]?, vs[i]? with
          | some (.ob _), some (.ref p) => some p
          | _, _ => none) = some p := e2
        rw [e1] at e3
        cases g : vs[i]? with
        | none => rw [g] at e3; cases e3
        | some u =>
          rw [g] at e3
          cases u with
          | ref a => rw [show a = p from Option.some.inj e3]
          | _ => cases e3) (.dat .non) c' B' σ' H' .non hx ⟨hc, by unfold Rep; rfl⟩
    · intro r c' B' σ' H' v hx cr
      exact fin _ rfl rfl rfl (fun i o e1 p e2 => by
        have e3 : (match as[i]?, vs[i]? with
          | some (.ob _), some (.ref p) => some p
          | _, _ => none) = some p := e2
        rw [e1] at e3
        cases g : vs[i]? with
        | none => rw [g] at e3; cases e3
        | some u =>
          rw [g] at e3
          cases u with
          | ref a => rw [show a = p from Option.some.inj e3]
          | _ => cases e3) r c' B' σ' H' v hx cr
    · intro c' B' σ' H' hx e hc
      exact hx.elim
    · intro c' B' σ' H' hx e hc
      exact hx.elim
section
variable {X : Cx}
theorem qe_callH {P : Program} {w : World} {K : PySem.W.Frag} {mg : Str → Option Value} {base : Heap} {k : Nat} {x : Str} {st : Stmt} {ps : List Str} {F : FS} {p pos : Pos} {e : Expr} {es : List Expr} {dv : DV} (D : DefH P w K mg base PL k x st [] [] ps F) (hP : X.prog = P) (hw : X.w = w) (hK : X.K = K) (hmg : X.mg = mg) (hb : X.base = base)
    (hbi : ∀ {f : Addr} {fd : FuncData}, FunD K x x (defArgs st) (defBody st) (defScope st) [] [] f fd → Binds K fd ps [])
    (ha : QV X PL (e :: es) dv) (hr : L2H.RoomH k X.A) (hc : L2H.HotC X) (hg : Gl X x) (hdb : (x == ("__debug__" : Str)) = false := by decide) (he : starEach (e :: es) X.env = (false, eval e X.env) :: starEach es X.env := by rfl) (hpl : (backTo pos (starEach es X.env)).any (·.1) = false := by rfl) :
    QE X PL (.Call (.Name x p) (e :: es) [] pos) (dCall ps.length F [] dv) := by
  subst hP hw hK hmg hb
  obtain ⟨f, fd, hf, hm, hk, hfd⟩ := D.ex
  refine q_of (L2H.pe_callH (E := fun _ _ _ _ => False) hf hr hc hg hm hk (hbi hfd) (fun _ => fun _ _ _ _ _ _ h => h.elim) ha.pa hdb he hpl) fun G B c σ H Qd Q hc hd2 hq => ?_
  refine ⟨G, B, c, _, hc, hd2, fun avs c1 B1 H1 vs ⟨hn, h1⟩ e1 hc1 hv => ?_⟩
  have hv2 : AVOk X.K B1 σ (avs ++ ([] : List Dt).map AV.dat) vs := by
    rw [List.map_nil, List.append_nil]
    exact hv
  exact call_ok hc1 hv2 hn h1 fun r c' B' H' v q e2 cr => hq r c' B' H' v q (e1.trans e2) cr
/-! ### for over range, there -/
structure QIH (X : Cx) (PL : PoolP) (tg iter : Expr) (di : DI) : Prop where
  pi : L2H.PIH X tg iter (lI X.K PL di)
theorem PIH.weak {tg e : Expr} {t t' : TI} (h : L2H.PIH X tg e t) (hw : ∀ σ H R, t' σ H R → t σ H R) : L2H.PIH X tg e t' := ⟨fun pins s σ H R I q => h.run pins s σ H R I (hw _ _ _ q)⟩
theorem qih_of {tg e : Expr} {t : TI} {di : DI} (h : L2H.PIH X tg e t) (hw : ∀ G B c σ H Qd R, Conc X.K PL G B c σ H → di c Qd → (∀ ds c' B' H' J, Qd ds c' → Same B B' → Conc X.K PL G B' c' σ H' → ItemsOf X.K PL B' J ds → R J H') → t σ H R) : QIH X PL tg e di :=
  ⟨PIH.weak h fun σ H R ⟨G, B, c, Qd, h1, h2, h3⟩ => hw G B c σ H Qd R h1 h2 h3⟩
theorem qih_rng1 {tg a : Expr} {da : DL} {p pos : Pos} (h : QL X PL [a] da) (hg : Gl X "range") (hm : X.mg "range" = none) (hs : starEach [a] X.env = [(false, eval a X.env)] := by rfl) : QIH X PL tg (.Call (.Name "range" p) [a] [] pos) (dRng1 da) := by
  refine qih_of (L2H.pi_range1H hg hm h.pa hs) fun G B c σ H Qd R hc hd2 hq => ?_
  refine ⟨G, B, c, _, hc, hd2, fun ds c1 B1 H1 vs g1 e1 hc1 rl => ?_⟩
  obtain ⟨n, rfl, ⟨h1, h2⟩, h3⟩ := int_of (k := fun n => (n ≤ 1000000000 ∧ -1000000000 ≤ n) ∧ Qd (rngD 0 n.toNat) c1) g1
  unfold RepL at rl
  obtain ⟨v, r, rfl, r1, r2⟩ := rl
  unfold RepL at r2
  subst r2
  unfold Rep at r1
  subst r1
  exact ⟨n, rfl, by omega, by omega, hq _ _ B1 _ _ h3 e1 hc1 items_rng⟩
theorem qs_forH {tg iter : Expr} {body : List Stmt} {di : DI} {g : DG} {db : DS} {pos : Pos} (hi : QIH X PL tg iter di) (hg : QG X PL tg g) (hb : QSs X PL body db) (hp : PassesOwn (model X.prog X.w) X.A X.env X.xe) (hc : L2H.HotC X)
    (hs : ∀ x, foldedSetIterable iter X.env x = pure x := by intro _; rfl) : QS X PL (.For tg iter body [] pos) (dFor di g db) := by
  refine qs_of (L2H.ps_forH hp hc hi.pi hg.pg hb.pss hs) fun G B c σ H E D h1 h2 h3 h4 h5 h6 => ?_
  refine ⟨G, B, c, _, h1, h2, fun ds c1 B1 H1 J ⟨I, i0, it, ie⟩ e1 hc1 HJ => ?_⟩
  refine ⟨fun i m σ' H' => m = ds.length - i ∧ i ≤ ds.length ∧ ∃ B2 c2, Same B1 B2 ∧ Conc X.K PL G B2 c2 σ' H' ∧ I i c2, ⟨_, rfl, Nat.zero_le _, B1, c1, Same.refl _, hc1, i0⟩, ?_⟩
  rintro i m σ' H' ⟨rfl, hil, B2, c2, e2, hc2, hI⟩
  by_cases hlt : i < ds.length
  · refine .inr ⟨HJ.go i H' (e2.trans hc2.same) hlt, fun σ2 H2 => ∃ B3 c3, Same B1 B3 ∧ Conc X.K PL G B3 c3 σ2 H2 ∧ I (i + 1) c3, fun σ2 H2 ⟨B3, c3, e3, hc3, hI3⟩ => ⟨ds.length - (i + 1), by omega, rfl, hlt, B3, c3, e3, hc3, hI3⟩, fun x H3 hy => ?_⟩
    obtain ⟨B3, d, hd3, e3, hc3, rd⟩ := HJ.yld i H' x H3 hlt hy G B2 c2 σ' e2 hc2
    refine ⟨G, B3, c2, d, _, hc3, rd, it i d c2 hd3 hI, fun c4 B4 σ4 H4 q4 e4 hc4 _ => ?_⟩
    have ee : Same B1 B4 := (e2.trans e3).trans e4
    exact ⟨G, B4, c4, _, hc4, q4, fun c5 B5 σ5 H5 q5 e5 hc5 => ⟨B5, c5, ee.trans e5, hc5, q5⟩, h4, fun c5 B5 σ5 H5 q5 e5 hc5 => h3 _ _ _ _ q5 ((e1.trans ee).trans e5) hc5, fun c5 B5 σ5 H5 q5 e5 hc5 => ⟨B5, c5, ee.trans e5, hc5, q5⟩⟩
  · have hie : i = ds.length := by omega
    subst hie
    exact .inl ⟨HJ.stop H' (e2.trans hc2.same), h3 _ _ _ _ (ie c2 hI) (e1.trans e2) hc2⟩
end
end Cl

namespace Cl
open PySem PySem.Spec PyProof.Rows L2
variable {PL : PoolP}
/-! ### isinstance(e, C), e the caught exception, C a class of the program -/
/-- what is asked of e's class y, and the answer -/
structure IsE (K : PySem.W.Frag) (y C : Str) (b : Bool) : Prop where
  xf : XfC K (He.ga K y)
  ha : PySem.W.findIn K (.ref (He.ga K y)) "__class__" = some (some (.builtin "object.__class__"))
  hn : PySem.W.specialIn K (.builtin "object.__class__") "__get__" = some (some (.builtin "getset_descriptor.__get__"))
  ht : PySem.W.takesIn K (.builtin "object.__class__") = some true
  hm : PySem.W.mroIn K (He.ga K y) (.type "object") = some true
  kit : PySem.W.kitOne K (.ref (He.ga K y)) (.ref (He.ga K C)) = some b
def isEB (y C : Str) (b : Bool) (K : PySem.W.Frag) : Bool := xfB K (He.ga K y) && (decide (PySem.W.findIn K (.ref (He.ga K y)) "__class__" = some (some (.builtin "object.__class__"))) && (decide (PySem.W.specialIn K (.builtin "object.__class__") "__get__" = some (some (.builtin "getset_descriptor.__get__"))) && (decide (PySem.W.takesIn K (.builtin "object.__class__") = some true) && (decide (PySem.W.mroIn K (He.ga K y) (.type "object") = some true) && decide (PySem.W.kitOne K (.ref (He.ga K y)) (.ref (He.ga K C)) = some b)))))
theorem isEB_ok {y C : Str} {b : Bool} {K : PySem.W.Frag} (h : isEB y C b K = true) : IsE K y C b := by
  obtain ⟨h1, h⟩ := He.ba h
  obtain ⟨h2, h⟩ := He.ba h
  obtain ⟨h3, h⟩ := He.ba h
  obtain ⟨h4, h⟩ := He.ba h
  obtain ⟨h5, h6⟩ := He.ba h
  exact ⟨xfB_ok h1, of_decide_eq_true h2, of_decide_eq_true h3, of_decide_eq_true h4, of_decide_eq_true h5, of_decide_eq_true h6⟩
def rIsX (a : Addr) (C : Addr) (b : Bool) (dd : Addr) : List V → Hp → VK → Prop := fun xs H Q => xs = [.ref a, .ref C] ∧ (∃ fs, H dd = some (.xd fs)) ∧ Q (.bl b) H
theorem call_isX {X : Cx} {a dd : Addr} {y C : Str} {b : Bool} {oe : Obj} {pn : List (Addr × Obj)} (T : IsE X.K y C b) (hz : L2N.Zn (.ref (He.ga X.K y)) (some dd) oe) (hf : ∃ vs, oe.data = .fields vs) : CallR (X.suite a ((a, oe) :: pn)) (.builtin "isinstance") (rIsX a (He.ga X.K C) b dd) := by
  intro pins s σ H xs us Q I r h
  obtain ⟨rfl, ⟨fs, hdd⟩, q⟩ := h
  cases r with
  | cons rx rr =>
    cases rr with
    | cons rt rr =>
      cases rr
      cases rx
      cases rt
      obtain ⟨hget, _⟩ := I.pin (a, oe) (List.mem_append.mpr (.inl List.mem_cons_self))
      obtain ⟨vs, hv⟩ := hf
      have hx : ObjOk X.prog X.w H s.heap dd (.xd fs) := I.hok dd _ hdd
      obtain ⟨mA, hns, hr⟩ := hx
      obtain ⟨od, ho, hl⟩ := lookIn_ns hns
      have J : PySem.W.InstAt s.heap a oe (He.ga X.K y) (some od) := ⟨hget, hz.1, by unfold PySem.W.notCls; rw [hv] <;> rfl, by rw [hz.2.1]; exact ho⟩
      obtain ⟨cdD, hcD, _⟩ := PySem.W.any_some T.xf.hdC
      exact PySem.W.kia_one (PySem.W.kitx_exc (by rw [hcD]; rfl) T.xf.ga T.xf.gg T.xf.exC T.ha T.hn T.ht T.hm) I.kIn J T.kit (fun z => nomatch z) fun tk => ⟨.bl b, H, I.kept (t' := tk) fun _ _ z => z, rfl, q⟩
def isED (a : Addr) (y : Str) (dd : Addr) (ok : List Str) (x : Dt) (k : Prop) : Prop := match x with
  | .exc a' y' dd' _ _ => a' = a ∧ y' = y ∧ dd' = dd ∧ y ∈ ok ∧ k
  | _ => False
def dIsE (a : Addr) (y : Str) (dd : Addr) (ok : List Str) (b : Bool) (de : DE) : DE := fun c Q => de c fun r c1 => asD r c1 fun x c2 => isED a y dd ok x (Q (.dat (.bl b)) c2)
theorem qe_isE {X : Cx} {a dd : Addr} {y C : Str} {b : Bool} {ok : List Str} {oe : Obj} {pn : List (Addr × Obj)} {e : Expr} {de : DE} {p p2 pos : Pos} (hok : ∀ y ∈ ok, IsE X.K y C b) (hmC : X.mg C = some (.ref (He.ga X.K C))) (hgC : Gl X C)
    (hz : L2N.Zn (.ref (He.ga X.K y)) (some dd) oe) (hf : ∃ vs, oe.data = .fields vs) (he : QE (X.suite a ((a, oe) :: pn)) PL e de) (hy : y ∈ ok) (hg : Gl X "isinstance") (hm : X.mg "isinstance" = none)
    (hdb : (C == ("__debug__" : Str)) = false := by decide) (hs : starEach [e, .Name C p2] X.env = (false, eval e X.env) :: starEach [.Name C p2] X.env := by rfl) (hs2 : starEach [.Name C p2] X.env = (false, eval (.Name C p2) X.env) :: starEach [] X.env := by rfl)
    (hpl : (backTo pos (starEach [.Name C p2] X.env)).any (·.1) = false := by rfl) :
    QE (X.suite a ((a, oe) :: pn)) PL (.Call (.Name "isinstance" p) [e, .Name C p2] [] pos) (dIsE a y dd ok b de) := by
  have hb : bootBuiltins "isinstance" = some (.builtin "isinstance") := by decide +kernel
  have pC : PE (X.suite a ((a, oe) :: pn)) (.Name C p2) (tC (.ref (He.ga X.K C))) := pe_glob (X := X.suite a ((a, oe) :: pn)) hgC hmC rfl hdb
  refine q_of (X := X.suite a ((a, oe) :: pn)) (pe_callB (X := X.suite a ((a, oe) :: pn)) (call_isX (hok y hy) hz hf) hg hm hb (pa_cons he.pe (pa_cons pC pa_nil hs2) hs) (by decide) (by decide) hs hpl) fun G B c σ H Qd Q hc hd2 hq => ?_
  refine ⟨G, B, c, _, hc, hd2, fun r c1 B1 H1 v q e1 cr => ?_⟩
  obtain ⟨B2, c2, x, e2, hc2, rx, q2⟩ := asD_ok cr q
  cases x with
  | exc a' y' dd' ns fs =>
    obtain ⟨rfl, rfl, rfl, _, q3⟩ := q2
    unfold Rep at rx
    obtain ⟨rfl, xs, z1, z2, z3⟩ := rx
    exact ⟨rfl, ⟨_, hc2.same _ _ z1⟩, hq _ _ B2 H1 _ q3 (e1.trans e2) ⟨hc2, by unfold Rep; rfl⟩⟩
  | _ => exact q2.elim
theorem e_dIsE {a dd : Addr} {y : Str} {ok : List Str} {b : Bool} {de : DE} {c : CEnv} {Q : Res → CEnv → Prop} : dIsE a y dd ok b de c Q = (de c fun r c1 => asD r c1 fun x c2 => isED a y dd ok x (Q (.dat (.bl b)) c2)) := propext Iff.rfl
theorem c_isED {a dd : Addr} {y : Str} {ok ns : List Str} {fs : List Dt} {k : Prop} : isED a y dd ok (.exc a y dd ns fs) k = (y ∈ ok ∧ k) := by
  unfold isED
  simp
/-! ### a tuple of texts at the top -/
def strsB : List (List Nat) → List Value → Bool
  | [], [] => true
  | z :: zs, .str x _ :: us => decide (x = S z) && strsB zs us
  | _, _ => false
theorem strsB_ok {K : PySem.W.Frag} {B : Hp} : ∀ {zs : List (List Nat)} {us : List Value}, strsB zs us = true → Vals (zs.map fun z => V.str (S z)) us ∧ RepL K B (zs.map Dt.str) (zs.map fun z => V.str (S z))
  | [], [], _ => ⟨.nil, by unfold RepL; rfl⟩
  | [], _ :: _, h => by cases h
  | z :: zs, [], h => by cases h
  | z :: zs, u :: us, h => by
    cases u with
    | str x t =>
      obtain ⟨h1, h2⟩ := He.ba h
      obtain ⟨i1, i2⟩ := strsB_ok (K := K) (B := B) h2
      have e : x = S z := of_decide_eq_true h1
      subst e
      refine ⟨.cons ⟨t, rfl⟩ i1, ?_⟩
      unfold RepL
      exact ⟨_, _, rfl, by unfold Rep; rfl, i2⟩
    | _ => cases h
def gtupB (x : Str) (zs : List (List Nat)) (K : PySem.W.Frag) : Bool := match K.lookup (He.ga K x) with
  | some ⟨.type c, _, .seq its _, _⟩ => decide (c = "tuple") && (decide (its.size ≤ 1000) && strsB zs its.toList)
  | _ => false
theorem gtupB_ok {x : Str} {zs : List (List Nat)} {K : PySem.W.Frag} (h : gtupB x zs K = true) (B : Hp) : Rep K B (.tup (zs.map Dt.str)) (.ref (He.ga K x)) := by
  unfold gtupB at h
  cases q : K.lookup (He.ga K x) with
  | none => rw [q] at h; cases h
  | some o =>
    obtain ⟨oc, od, dt, osl⟩ := o
    rw [q] at h
    cases oc with
    | type c =>
      cases dt with
      | seq its n =>
        obtain ⟨h1, h2⟩ := He.ba h
        obtain ⟨h2, h3⟩ := He.ba h2
        obtain ⟨i1, i2⟩ := strsB_ok (K := K) (B := B) h3
        have e : c = "tuple" := of_decide_eq_true h1
        have e2 : its.size ≤ 1000 := of_decide_eq_true h2
        unfold Rep
        exact ⟨_, _, rfl, .inr ⟨_, its, n, q, by rw [e], rfl, by rw [sizeLine_eq]; omega, i1⟩, i2⟩
      | _ => cases h
    | _ => cases dt <;> cases h
/-! ### m = tbl[w]; return m(..), tbl a dict of defs -/
def DispOk (P : Program) (w : World) (K : PySem.W.Frag) (mg : Str → Option Value) (base : Heap) (PL : PoolP) (k n : Nat) (a : Addr) (tab : List (List Nat × FS)) : Prop := ∀ z F, (z, F) ∈ tab → ∃ f, KDct K w a (S z) (.ref f) ∧ FnR P w K mg base CX0 k f (spC K PL n F) ∧ PySem.W.keepIn K (.ref f) = true
theorem dispRow {P : Program} {w : World} {K : PySem.W.Frag} {mg : Str → Option Value} {base : Heap} {j k : Nat} {a g : Addr} {x : Str} {st : Stmt} {ps : List Str} {F : FS} {es : Array DictEntry} {n : Nat} {z : List Nat} (kd : KDict K w a es n) (hv : PySem.W.nsIn K a (S z) = some (some (.ref g))) (hg : mg x = some (.ref g))
    (hb : ∀ {f : Addr} {fd : FuncData}, FunD K x x (defArgs st) (defBody st) (defScope st) [] [] f fd → Binds K fd ps []) (D : Def P w K mg base PL CX0 j x st [] [] ps F) (hj : j ≤ k) : ∃ f, KDct K w a (S z) (.ref f) ∧ FnR P w K mg base CX0 k f (spC K PL ps.length F) ∧ PySem.W.keepIn K (.ref f) = true := by
  obtain ⟨f, fd, h1, h2, h3, h4⟩ := D.ex
  rw [hg] at h2
  cases h2
  refine ⟨g, ⟨es, n, _, kd.at_, kd.lit, hv, rfl⟩, (((h1.raw (hb h4) .nil).imp fun vs H Q E h => ?_).mono hj), h3⟩
  rw [List.append_nil]
  exact h
def lkT (z : List Nat) : List (List Nat × FS) → (FS → Prop) → Prop
  | [], _ => False
  | (y, F) :: r, k => if z = y then k F else lkT z r k
theorem lkT_ok {z : List Nat} {k : FS → Prop} : ∀ {l : List (List Nat × FS)}, lkT z l k → ∃ F, (z, F) ∈ l ∧ k F
  | [], h => h.elim
  | (y, F) :: r, h => by
    unfold lkT at h
    by_cases e : z = y
    · rw [if_pos e] at h
      subst e
      exact ⟨F, List.mem_cons_self .., h⟩
    · rw [if_neg e] at h
      obtain ⟨F', h1, h2⟩ := lkT_ok h
      exact ⟨F', List.mem_cons_of_mem _ h1, h2⟩
def wrd (s : Slot) (k : List Nat → Prop) : Prop := match s with
  | .dat (.str z) => k z
  | _ => False
def dDisp (mi wi : Nat) (tab : List (List Nat × FS)) (n : Nat) (dv : DV) : DS := fun E c => wrd (gt c wi) fun z => lkT z tab fun F => dCall n F [] dv (c.set mi .no) fun r c1 => toRet r c1 E.rt
theorem qss_disp {X : Cx} {k n mi wi : Nat} {a : Addr} {tab : List (List Nat × FS)} {tbl m wn : Str} {e : Expr} {es : List Expr} {dv : DV} {mp tp wp sp ap cp kp rp : Pos} (D : DispOk X.prog X.w X.K X.mg X.base PL k n a tab) (hN : X.N.Nodup) (hmi : X.N[mi]? = some m) (hwi : X.N[wi]? = some wn) (hmv : Loc X.env.scope m) (hwv : Vis X.env.scope wn)
    (hg : Gl X tbl) (hm : X.mg tbl = some (.ref a)) (ha : QV X PL (e :: es) dv) (hr : Room k X.A)
    (hs : swapsWith (.Subscript (.Name tbl tp) (.Name wn wp) sp) (some (.Name m mp)) ap.line X.env = pure false := by rfl)
    (hf : X.fn m = true ∨ X.env.scope.names.lookup m = some .local := by first | exact .inl rfl | exact .inr rfl)
    (hd : (m == ("__debug__" : Str)) = false := by decide) (hcd : (m == ("__classdict__" : Str)) = false := by decide) (hd2 : (wn == ("__debug__" : Str)) = false := by decide) (hcd2 : (wn == ("__classdict__" : Str)) = false := by decide) (hd3 : (tbl == ("__debug__" : Str)) = false := by decide)
    (hx : PlainIx (.Name wn wp)) (he : starEach (e :: es) X.env = (false, eval e X.env) :: starEach es X.env := by rfl) (hpl : (backTo cp (starEach es X.env)).any (·.1) = false := by rfl) :
    QSs X PL [.Assign [.Name m mp] (.Subscript (.Name tbl tp) (.Name wn wp) sp) ap, .Return (some (.Call (.Name m kp) (e :: es) [] cp)) rp] (dDisp mi wi tab n dv) := by
  have hm2 : mi < X.N.length := (List.getElem?_eq_some_iff.mp hmi).1
  have call : PE X (.Call (.Name m kp) (e :: es) [] cp) (fun σ H Q => ∃ f sp, (FnR X.prog X.w X.K X.mg X.base CX0 k f sp ∧ PySem.W.keepIn X.K (.ref f) = true) ∧ ItX.tCallV mi f sp (fun _ _ _ => False) (lV X.K PL dv) σ H Q) :=
    ⟨fun pins s σ H Q I ⟨f, sp, ⟨h1, h2⟩, h3⟩ => (ItX.pe_callV h1 hr h2 pass0 hmi (by rcases hmv with z | z; exact .inl z; exact .inr (.inl z)) ha.pa hd hcd he hpl).run pins s σ H Q I h3⟩
  refine ⟨⟨fun pins s σ H D' I ⟨G, B, c, E, h1, h2, h3, h4, h5, h6⟩ => (pss_cons (ps_set hN hmi hmv (pe_ix ix_kdict (pe_glob hg hm (v := .ref a) rfl hd3) (pe_var hwi hwv hd2 hcd2) hx) hs hf) (pss_one (ps_ret call))).run pins s σ H D' I ?_⟩⟩
  unfold dDisp at h2
  cases g : gt c wi with
  | dat d =>
    rw [g] at h2
    cases d with
    | str z =>
      obtain ⟨F, hF, hk⟩ := lkT_ok (show lkT z tab _ from h2)
      obtain ⟨f, kd, fr, kf⟩ := D z F hF
      obtain ⟨v, q1, q2⟩ := h1.getDat g
      have ev : v = .str (S z) := q2
      subst ev
      have hc1 := h1.setNo (i := mi) (some (.ref f))
      have hlen : mi < σ.length := by
        rw [I.len]
        exact hm2
      refine ⟨_, q1, a, S z, .ref f, rfl, rfl, kd, ?_⟩
      refine ⟨f, _, ⟨fr, kf⟩, by rw [List.getElem?_set_self hlen], ?_⟩
      refine ⟨G, B, _, _, hc1, hk, fun avs c1 B1 H1 vs ⟨hn, h7⟩ e1 hc1 hv => ?_⟩
      have hv2 : AVOk X.K B1 (σ.set mi (some (.ref f))) (avs ++ ([] : List Dt).map AV.dat) vs := by
        rw [List.map_nil, List.append_nil]
        exact hv
      refine call_ok hc1 hv2 hn h7 fun r c1 B' H' v q e2 cr => ?_
      cases r with
      | dat d => exact h4 _ _ _ _ _ _ q cr
      | new o => exact h4 _ _ _ _ _ _ q cr
      | sl i =>
        unfold toRet at q
        cases g : gt c1 i with
        | dat d =>
          simp only [g] at q
          obtain ⟨v', q1, q2⟩ := cr.1.getDat g
          have e := cr.2
          rw [q1] at e
          cases e
          exact h4 _ _ _ _ _ _ q ⟨cr.1, q2⟩
        | own o =>
          simp only [g] at q
          exact h4 _ _ _ _ _ _ q cr
        | no => simp only [g] at q
        | arg o => simp only [g] at q
    | _ => exact h2.elim
  | _ => rw [g] at h2; exact h2.elim
theorem e_dDisp {mi wi n : Nat} {tab : List (List Nat × FS)} {dv : DV} {E : CEnds} {c : CEnv} : dDisp mi wi tab n dv E c = (wrd (gt c wi) fun z => lkT z tab fun F => dCall n F [] dv (c.set mi .no) fun r c1 => toRet r c1 E.rt) := rfl
theorem c_wrd {z : List Nat} {k : List Nat → Prop} : wrd (.dat (.str z)) k = k z := rfl
end Cl

namespace Cl
open PySem PySem.Spec PyProof.Rows L2
/-! ### expressions that surely give a token out -/
section
variable {X : Cx} {e a b : Expr} {te ta tb : TE} {pos p2 : Pos}
def P1 (X : Cx) (e : Expr) (t : TE) : Prop := ∀ (pins : List (Addr × Obj)) (s : Shared) (σ : L2.St) (H : Hp) (Q : VK), Inv X pins σ H s → t σ H Q → wpAny (model X.prog X.w) X.A (eval e X.env) (fun u s' => 1 ≤ s'.toks ∧ EP X pins σ Q u s') X.xe s
def O1 (X : Cx) (e : Option Expr) (t : TO) : Prop := ∀ (pins : List (Addr × Obj)) (s : Shared) (σ : L2.St) (H : Hp) (Q : Option Int → Hp → Prop), Inv X pins σ H s → t σ H Q → wpAny (model X.prog X.w) X.A (evalPart e X.env) (fun u s' => 1 ≤ s'.toks ∧ ∃ o H', Inv X pins σ H' s' ∧ IsPart u o ∧ Q o H') X.xe s
theorem P1.weak {t t' : TE} (h : P1 X e t) (hw : ∀ σ H Q, t' σ H Q → t σ H Q) : P1 X e t' := fun pins s σ H Q I q => h pins s σ H Q I (hw _ _ _ q)
theorem O1.weak {e : Option Expr} {t t' : TO} (h : O1 X e t) (hw : ∀ σ H Q, t' σ H Q → t σ H Q) : O1 X e t' := fun pins s σ H Q I q => h pins s σ H Q I (hw _ _ _ q)
theorem p1_int {i : Int} {j : Nat} : P1 X (.Constant (.int i) j pos) (tC (.int i)) := fun _ _ _ H _ I h => wpAny_Constant_int ⟨Nat.succ_le_succ (Nat.zero_le _), .int i, H, I.tok _, ⟨_, rfl⟩, h⟩
theorem p1_op {op : Operator} {r : R2} (ho : OpR X (binaryOp op) r) (ha : PE X a ta) (hb : P1 X b tb) : P1 X (.BinOp a op b pos) (tOp r ta tb) := by
  intro pins s σ H Q I h
  refine wpAny_BinOp (thn (ha.run pins s σ H _ I h) fun v s1 ⟨x, H1, I1, r1, q1⟩ => ?_)
  refine wpAny_mono (hb pins s1 σ H1 _ I1 q1) (fun u s2 ⟨k, y, H2, I2, r2, q2⟩ => ?_) fun _ _ z => z
  exact wpAny_mono (PySem.wpAny_toks (ho pins s2 σ H2 x y v u Q I2 r1 r2 q2)) (fun w s3 q3 => ⟨Nat.le_trans k q3.1, q3.2⟩) fun _ _ z => z.2
theorem o1_some (h : P1 X e te) : O1 X (some e) (tPart te) := by
  intro pins s σ H Q I hw
  rw [evalPart_some]
  refine wpAny_mono (h pins s σ H _ I hw) (fun u s1 ⟨k, x, H1, I1, r1, q1⟩ => ?_) fun _ _ z => z
  obtain ⟨i, rfl, q⟩ := q1
  obtain ⟨t, rfl⟩ := r1
  exact ⟨k, some i, H1, I1, .int i t, q⟩
theorem p1_slice {lo hi : Option Expr} {tl th : TO} {r : V → Option Int → Option Int → Hp → VK → Prop} (hr : SlR X r) (he : PE X e te) (hl : PO X lo tl) (hu : PO X hi th) (h1 : O1 X lo tl ∨ O1 X hi th) : P1 X (.Subscript e (.Slice lo hi none p2) pos) (tSl r te tl th) := by
  intro pins s σ H Q I h
  refine Subscript_ (thn (he.run pins s σ H _ I h) fun v s1 ⟨x, H1, I1, r1, q1⟩ => ?_)
  have key : wpAny (model X.prog X.w) X.A (evalPart lo X.env) (fun vl s2 => wpAny (model X.prog X.w) X.A (evalPart hi X.env) (fun vu s3 => 1 ≤ s3.toks ∧ ∃ l u H3, Inv X pins σ H3 s3 ∧ IsPart vl l ∧ IsPart vu u ∧ r x l u H3 Q) X.xe s2) X.xe s1 := by
    rcases h1 with h1 | h1
    · refine wpAny_mono (h1 pins s1 σ H1 _ I1 q1) (fun vl s2 ⟨k, l, H2, I2, pl, q2⟩ => ?_) fun _ _ z => z
      exact wpAny_mono (PySem.wpAny_toks (hu.run pins s2 σ H2 _ I2 q2)) (fun vu s3 q3 => ⟨Nat.le_trans k q3.1, by obtain ⟨u, H3, I3, pu, q4⟩ := q3.2; exact ⟨l, u, H3, I3, pl, pu, q4⟩⟩) fun _ _ z => z.2
    · refine thn (hl.run pins s1 σ H1 _ I1 q1) fun vl s2 ⟨l, H2, I2, pl, q2⟩ => ?_
      exact wpAny_mono (h1 pins s2 σ H2 _ I2 q2) (fun vu s3 ⟨k, u, H3, I3, pu, q4⟩ => ⟨k, l, u, H3, I3, pl, pu, q4⟩) fun _ _ z => z
  refine wpAny_Slice (thn key fun vl s2 h2 => thn h2 fun vu s3 ⟨k, l, u, H3, I3, pl, pu, q3⟩ => ?_)
  rw [evalPart_none]
  refine wpAny_pure ?_
  have I4 : Inv X pins σ H3 { s3 with heap := s3.heap.push { cls := .type "slice", data := .fields #[vl, vu, .none] } } := I3.kept (t' := s3.toks) fun b ob q => Heap.get?_push_of_some _ q
  obtain ⟨T, id, hT, ht, hg⟩ := hr pins { s3 with heap := s3.heap.push { cls := .type "slice", data := .fields #[vl, vu, .none] } } σ H3 x v vl vu l u s3.heap.objs.size Q I4 r1 (Heap.IsSliceOf.new ..) pl pu q3
  show wpAny (model X.prog X.w) X.A (subscriptTail e (.Slice lo hi none p2) v (.ref s3.heap.objs.size)) (fun u s' => 1 ≤ s'.toks ∧ EP X pins σ Q u s') X.xe { s3 with heap := s3.heap.push { cls := .type "slice", data := .fields #[vl, vu, .none] } }
  exact wpAny_mono (PySem.wpAny_toks (tail_any (ops := [.ref s3.heap.objs.size, v]) ht hT hg (by with_unfolding_all rfl))) (fun w s5 q5 => ⟨Nat.le_trans k q5.1, q5.2⟩) fun _ _ z => z.2
theorem pe_repl1 {y z : Str} {j k : Nat} {apos c0 c1 : Pos} (ho : P1 X e te) (hyz : (y == z) = false := by decide)
    (hst : starEach [.Constant (.str y) j c0, .Constant (.str z) k c1] X.env = [(false, eval (.Constant (.str y) j c0) X.env), (false, eval (.Constant (.str z) k c1) X.env)] := by rfl)
    (hbase : attributeBase e "replace" X.env (eval e X.env) = eval e X.env := by rfl) (hline : (apos.endLine == pos.line) = true := by rfl) :
    PE X (.Call (.Attribute e "replace" apos) [.Constant (.str y) j c0, .Constant (.str z) k c1] [] pos) (CwR.tReplC te y z) := by
  refine ⟨fun pins s σ H Q I h => ?_⟩
  refine PySem.Call_method2 hbase hst hline (wpAny_mono (ho pins s σ H _ I h) (fun v s1 q => ?_) fun _ _ z => z)
  obtain ⟨hk, v', H1, I1, r1, x, e1, hb, q⟩ := q
  subst e1
  obtain ⟨tx, e2⟩ := r1
  subst e2
  refine ⟨"str", _, PySem.F.plainAttrs_str, PySem.F.slot_str_replace, PySem.F.type_str_replace, typeIs_str _ _ _, (fun _ e => nomatch e), Calls.callWith_builtin rfl (Calls.evalArgs_plain (Calls.spliced_cons ?_))⟩
  refine Calls.Constant_str (Calls.spliced_cons (Calls.Constant_str (Calls.spliced_nil ?_)))
  exact PySem.SC.replace (by show s1.toks ≠ 0; omega) (by show s1.toks + 1 ≠ 0; omega) (by show s1.toks ≠ s1.toks + 1; omega) hyz hb fun t' k => ⟨.str (Txt.replace _ y z), H1, I1.tok k, ⟨t', rfl⟩, q⟩
end
section
variable {X : Cx} {PL : PoolP}
structure Q1 (X : Cx) (PL : PoolP) (e : Expr) (de : DE) : Prop where
  p1 : P1 X e (lE X.K PL de)
theorem q1_of {e : Expr} {t : TE} {de : DE} (h : P1 X e t) (hw : ∀ G B c σ H Qd Q, Conc X.K PL G B c σ H → de c Qd → (∀ r c' B' H' v, Qd r c' → Same B B' → CR X.K PL G B' c' σ H' r v → Q v H') → t σ H Q) : Q1 X PL e de :=
  ⟨P1.weak h fun σ H Q ⟨G, B, c, Qd, h1, h2, h3⟩ => hw G B c σ H Qd Q h1 h2 h3⟩
theorem q1_int {i : Int} {j : Nat} {pos : Pos} : Q1 X PL (.Constant (.int i) j pos) (dC (.int i)) := q1_of p1_int fun G B c σ H Qd Q hc hd2 hq => hq _ _ _ _ _ hd2 (Same.refl B) ⟨hc, by unfold Rep; rfl⟩
theorem q1_op {a b : Expr} {op : Operator} {pos : Pos} {r : R2} {f : OpF} {da db : DE} (ho : OpR X (binaryOp op) r) (hd' : OpD X.K PL r f) (ha : QE X PL a da) (hb : Q1 X PL b db) : Q1 X PL (.BinOp a op b pos) (dBin f da db) :=
  q1_of (p1_op ho ha.pe hb.p1) fun _ _ _ _ _ _ _ hc hd2 hq => bin_ok hd' hc hd2 hq
theorem o1_of {e : Expr} {de : DE} (h : Q1 X PL e de) : O1 X (some e) (lO X.K PL (dPart de)) := O1.weak (o1_some h.p1) fun σ H Q ⟨G, B, c, Qd, h1, h2, h3⟩ => by
  refine ⟨G, B, c, _, h1, h2, fun r c1 B1 H1 v hr e1 cr => ?_⟩
  cases r with
  | dat d =>
    cases d with
    | int i =>
      obtain ⟨c2, r2⟩ := cr
      unfold Rep at r2
      exact ⟨i, r2, h3 _ _ _ _ hr e1 c2⟩
    | _ => exact hr.elim
  | _ => exact hr.elim
theorem q1_slT {e : Expr} {lo hi : Option Expr} {p2 pos : Pos} {da : DE} {dl dh : CEnv → (Option Int → CEnv → Prop) → Prop} (h : QE X PL e da) (h1 : QO X PL lo dl) (h2 : QO X PL hi dh) (h3 : O1 X lo (lO X.K PL dl) ∨ O1 X hi (lO X.K PL dh)) : Q1 X PL (.Subscript e (.Slice lo hi none p2) pos) (dSlT da dl dh) := by
  refine q1_of (p1_slice (SlR.or sl_list (SlR.or sl_tupA sl_str)) h.pe h1.po h2.po h3) fun G B c σ H Qd Q hc hd2 hq => ?_
  refine ⟨G, B, c, _, hc, hd2, fun r c1 B1 H1 v g1 e1 cr => ?_⟩
  obtain ⟨B2, e2, hc2, hh⟩ := cr.hold
  refine ⟨G, B2, c1, _, hc2, g1, fun o1 c2 B3 H2 g2 e3 hc3 => ?_⟩
  refine ⟨G, B3, c2, _, hc3, g2, fun o2 c3 B4 H3 g3 e4 hc4 => ?_⟩
  obtain ⟨x, rx, hf⟩ := on1_ok hc4 (hh.mono (e3.trans e4)) g3
  have ee : Same B B4 := ((e1.trans e2).trans e3).trans e4
  cases x with
  | lst l =>
    obtain ⟨a, xs, rfl, q1, q2⟩ := rx
    exact .inl ⟨a, xs, rfl, .of q1, fun p hp => hq _ _ B4 _ _ hf ee (conc_lst hc4 hp (cut_rep q2 _ _))⟩
  | tup l =>
    obtain ⟨a, xs, rfl, q1, q2⟩ := rx
    refine .inr (.inl ⟨a, xs, rfl, sameT hc4.same q1, fun z => ?_, fun _ p hp => ?_⟩)
    · rw [q2.length] at z
      have hf : Qd (.dat (.tup (cut l o1 o2))) c3 := hf
      rw [cut_whole z] at hf
      exact hq _ _ _ _ _ hf ee ⟨hc4, by unfold Rep; exact ⟨a, xs, rfl, q1, q2⟩⟩
    · obtain ⟨e5, cr5⟩ := conc_tup hc4 hp (cut_rep q2 o1 o2)
      exact hq _ _ _ _ _ hf (ee.trans e5) cr5
  | str s =>
    have q : v = .str (S s) := rx
    subst q
    obtain ⟨f1, f2⟩ := hf
    refine .inr (.inr ⟨S s, rfl, by rw [S_len]; exact sz7 f1, hq _ _ B4 _ _ f2 ee ⟨hc4, ?_⟩⟩)
    unfold Rep cutS cut
    rw [S_len]
    rfl
  | _ => exact hf.elim
/-- s[..].replace(y, z) -/
theorem qe_repl1 {e : Expr} {de : DE} {y z : Str} {j j2 : Nat} {yl zl : List Nat} {apos c0 c1 pos : Pos} (h : Q1 X PL e de) (hy : y = S yl) (hz : z = S zl) (hyz : (y == z) = false)
    (hst : starEach [.Constant (.str y) j c0, .Constant (.str z) j2 c1] X.env = [(false, eval (.Constant (.str y) j c0) X.env), (false, eval (.Constant (.str z) j2 c1) X.env)] := by rfl)
    (hbase : attributeBase e "replace" X.env (eval e X.env) = eval e X.env := by rfl) (hline : (apos.endLine == pos.line) = true := by rfl) :
    QE X PL (.Call (.Attribute e "replace" apos) [.Constant (.str y) j c0, .Constant (.str z) j2 c1] [] pos) (dReplW yl zl de) := by
  refine q_of (pe_repl1 h.p1 hyz hst hbase hline) fun G B c σ H Qd Q hc hd2 hq => ?_
  refine ⟨G, B, c, _, hc, hd2, fun r c' B' H' v q e2 cr => ?_⟩
  obtain ⟨B2, e3, hc2, hh⟩ := cr.hold
  obtain ⟨d, rd, hf2⟩ := on1_ok hc2 hh q
  obtain ⟨t, rfl, hl, hk2⟩ := replWD_ok hf2
  have e4 : v = .str (S t) := rd
  subst e4 hy hz
  refine ⟨S t, rfl, by rw [S_len, S_len]; exact hl, ?_⟩
  exact hq _ _ _ _ _ hk2 (e2.trans e3) ⟨hc2, by unfold Rep replW; rfl⟩
end
end Cl

namespace Cl
open PySem PySem.Spec PyProof.Rows L2
variable {PL : PoolP}
/-! ### t.count(c) -/
theorem cnt_list (ch : Nat) : ∀ s : List Nat, cnt ch s = ((s.count ch : Nat) : Int)
  | [] => rfl
  | a :: r => by
    have ih := cnt_list ch r
    rw [cnt_cons, ih, List.count_cons]
    by_cases e : a = ch
    · simp [e]
      omega
    · simp [e]
theorem count_S (s : List Nat) (ch : Nat) : (Txt.count (S s) (S [ch]) : Int) = ((s.count ch : Nat) : Int) := by
  rw [← cnt_list]
  exact count_cnt _ _
def count1D (s : List Nat) (x : Dt) (k : Res → Prop) : Prop := match x with
  | .str t => one1 t fun ch => k (.dat (.int ((s.count ch : Nat) : Int)))
  | _ => False
def fCount1 : MtF := strM fun s => arg1 (count1D s)
theorem mtd_count1 {K : PySem.W.Frag} : MtD K PL (fun x xs H Q => ∃ a b, x = .str a ∧ xs = [.str b] ∧ Q (.int (Txt.count a b)) H) fCount1 := by
  intro G B c σ H s xs vs k Q hc rx hf hq
  obtain ⟨x, rfl, hf⟩ := arg1_ok hf
  cases x with
  | str t =>
    obtain ⟨ch, rfl, h2⟩ := one1_ok (show one1 t _ from hf)
    obtain ⟨v, rfl, h3⟩ := repHs1 rx
    have e : v = .str (S [ch]) := h3
    subst e
    refine ⟨S s, S [ch], rfl, rfl, hq _ _ B H h2 (Same.refl B) ⟨hc, ?_⟩⟩
    unfold Rep
    rw [count_S]
  | _ => exact hf.elim
theorem c_count1 {s : List Nat} {ch : Nat} {k : Res → Prop} : fCount1 (.str s) [.str [ch]] k = k (.dat (.int ((s.count ch : Nat) : Int))) := rfl
end Cl

namespace K48
open PySem PySem.Spec PyProof.Rows L2 Cl
/-! ### feeds, lines, places -/
def fd (t : List Nat) : List Nat := occs t 10 0 t.length
def st (t : List Nat) (j : Nat) : Nat := if j = 0 then 0 else (fd t).getD (j - 1) 0 + 1
def en (t : List Nat) (j : Nat) : Nat := (fd t).getD j t.length
def ln (t : List Nat) (k : Nat) : Nat := (t.take k).count 10
def nf (t : List Nat) : Nat := (fd t).length
theorem fd_sorted (t : List Nat) : (fd t).Pairwise (· < ·) := by
  unfold fd occs
  exact (List.pairwise_lt_range' _).sublist (List.filter_sublist ..)
theorem fd_mem {t : List Nat} {i : Nat} : i ∈ fd t ↔ t[i]? = some 10 := by
  unfold fd
  rw [occs_mem]
  exact ⟨fun h => h.2.2, fun h => ⟨Nat.zero_le _, (List.getElem?_eq_some_iff.mp h).1, h⟩⟩
theorem occs_cut {t : List Nat} {k : Nat} (h : k ≤ t.length) : fd t = occs t 10 0 k ++ occs t 10 k t.length := by
  unfold fd occs
  rw [← List.filter_append, Nat.sub_zero, Nat.sub_zero]
  congr 1
  rw [show t.length = k + (t.length - k) by omega, ← List.range'_append_1, Nat.zero_add]
  congr 2
  omega
theorem ln_occs {t : List Nat} {k : Nat} (h : k ≤ t.length) : (occs t 10 0 k).length = ln t k := occs_count t 10 k h
theorem ln_le {t : List Nat} {k : Nat} (h : k ≤ t.length) : ln t k ≤ nf t := by
  unfold nf
  rw [occs_cut h, List.length_append, ln_occs h]
  omega
theorem ln_all (t : List Nat) : ln t t.length = nf t := (ln_occs (Nat.le_refl _)).symm
theorem ln_zero (t : List Nat) : ln t 0 = 0 := rfl
theorem ln_next {t : List Nat} {k : Nat} (h : k < t.length) : ln t (k + 1) = ln t k + if t[k] = 10 then 1 else 0 := by
  unfold ln
  rw [List.take_add_one, List.getElem?_eq_getElem h, List.count_append]
  congr 1
  show [t[k]].count 10 = _
  rw [List.count_singleton]
  by_cases hc : t[k] = 10
  · rw [if_pos hc, hc]
    rfl
  · rw [if_neg hc, if_neg (by simpa using hc)]
/-- the feed at k is the one behind as many as stand ahead of k -/
theorem fd_at {t : List Nat} {k : Nat} (h : t[k]? = some 10) : (fd t)[ln t k]? = some k := by
  have hk := (List.getElem?_eq_some_iff.mp h).1
  rw [occs_cut (Nat.le_of_lt hk), List.getElem?_append_right (by rw [ln_occs (Nat.le_of_lt hk)]; exact Nat.le_refl _), ln_occs (Nat.le_of_lt hk), Nat.sub_self, occs_next hk, if_pos h]
  rfl
theorem st_feed {t : List Nat} {k : Nat} (h : t[k]? = some 10) : st t (ln t k + 1) = k + 1 := by
  unfold st
  rw [if_neg (Nat.succ_ne_zero _), Nat.add_sub_cancel, List.getD_eq_getElem?_getD, fd_at h]
  rfl
theorem st_zero (t : List Nat) : st t 0 = 0 := rfl
/-- the last feed ahead of k -/
theorem last_st {t : List Nat} {k : Nat} {v : Int} (h : k ≤ t.length) (hv : IsLast t 10 0 k v) : v + 1 = (st t (ln t k) : Nat) := by
  rcases hv with ⟨rfl, h1⟩ | ⟨n, rfl, _, h2, h3, h4⟩
  · have e : occs t 10 0 k = [] := by
      refine List.eq_nil_iff_forall_not_mem.mpr fun i hi => ?_
      obtain ⟨_, i2, i3⟩ := occs_mem.mp hi
      exact h1 i (Nat.zero_le _) i2 i3
    have := ln_occs h
    rw [e] at this
    have this : ln t k = 0 := this.symm
    rw [this]
    rfl
  · have hn : ln t k = ln t (n + 1) := by
      have a1 := occs_count t 10 k h
      have a2 := occs_count t 10 (n + 1) (by omega)
      have e : occs t 10 0 k = occs t 10 0 (n + 1) := by
        unfold occs
        rw [Nat.sub_zero, Nat.sub_zero, show k = (n + 1) + (k - (n + 1)) by omega, ← List.range'_append_1, List.filter_append]
        have : ((List.range' (0 + (n + 1)) (k - (n + 1))).filter fun i => decide (t[i]? = some 10)) = [] := by
          refine List.filter_eq_nil_iff.mpr fun i hi => ?_
          rw [List.mem_range'_1] at hi
          have := h4 i (by omega) (by omega)
          simpa using this
        rw [this, List.append_nil]
      show (t.take k).count 10 = (t.take (n + 1)).count 10
      rw [← a1, ← a2, e]
    have hn2 : n < t.length := by omega
    have hc : t[n] = 10 := by
      rw [List.getElem?_eq_getElem hn2] at h3
      exact Option.some.inj h3
    rw [hn, ln_next hn2, if_pos hc, st_feed h3]
    omega
theorem st_le {t : List Nat} {j : Nat} (h : j ≤ nf t) : st t j ≤ t.length := by
  unfold st
  split
  · exact Nat.zero_le _
  · rename_i hj
    have hl : j - 1 < (fd t).length := by unfold nf at h; omega
    rw [List.getD_eq_getElem?_getD, List.getElem?_eq_getElem hl]
    have := (List.getElem?_eq_some_iff.mp (fd_mem.mp (List.getElem_mem hl))).1
    show (fd t)[j - 1] + 1 ≤ t.length
    omega
theorem fd_lt {t : List Nat} {i j : Nat} (hij : i < j) (hj : j < (fd t).length) : (fd t).getD i 0 < (fd t).getD j 0 := by
  have hi : i < (fd t).length := by omega
  rw [List.getD_eq_getElem?_getD, List.getD_eq_getElem?_getD, List.getElem?_eq_getElem hi, List.getElem?_eq_getElem hj]
  exact List.pairwise_iff_getElem.mp (fd_sorted t) i j hi hj hij
/-- the first feed from the start of line j on -/
theorem first_st {t : List Nat} {j : Nat} {v : Int} (h : j ≤ nf t) (hv : IsFirst t 10 (st t j) v) : if j < nf t then v = (((fd t).getD j 0 : Nat) : Int) else v = -1 := by
  have hnf : nf t = (fd t).length := rfl
  by_cases hj : j < nf t
  · rw [if_pos hj]
    have hl : j < (fd t).length := hj
    have hm : t[(fd t).getD j 0]? = some 10 := by
      rw [List.getD_eq_getElem?_getD, List.getElem?_eq_getElem hl]
      exact fd_mem.mp (List.getElem_mem hl)
    have hs : st t j ≤ (fd t).getD j 0 := by
      unfold st
      split
      · exact Nat.zero_le _
      · exact fd_lt (by omega) hl
    rcases hv with ⟨_, h1⟩ | ⟨n, rfl, h1, h2, h3⟩
    · exact absurd hm (h1 _ hs)
    · have hn : n ∈ fd t := fd_mem.mpr h2
      obtain ⟨i, hi, e⟩ := List.getElem_of_mem hn
      have ei : (fd t).getD i 0 = n := by
        rw [List.getD_eq_getElem?_getD, List.getElem?_eq_getElem hi]
        exact e
      have g1 : ¬ (fd t).getD j 0 < n := fun z => h3 _ hs z hm
      rcases Nat.lt_trichotomy i j with hlt | heq | hgt
      · exfalso
        unfold st at h1
        rw [if_neg (by omega)] at h1
        have : (fd t).getD i 0 ≤ (fd t).getD (j - 1) 0 := by
          rcases Nat.lt_or_ge i (j - 1) with a | a
          · exact Nat.le_of_lt (fd_lt a (by omega))
          · rw [show i = j - 1 by omega]
            exact Nat.le_refl _
        omega
      · rw [← heq, ei]
      · have := fd_lt hgt hi
        omega
  · rw [if_neg hj]
    rcases hv with ⟨h0, _⟩ | ⟨n, rfl, h1, h2, _⟩
    · exact h0
    · exfalso
      obtain ⟨i, hi, e⟩ := List.getElem_of_mem (fd_mem.mpr h2)
      have ei : (fd t).getD i 0 = n := by
        rw [List.getD_eq_getElem?_getD, List.getElem?_eq_getElem hi]
        exact e
      unfold st at h1
      rw [if_neg (by omega)] at h1
      have : (fd t).getD i 0 ≤ (fd t).getD (j - 1) 0 := by
        rcases Nat.lt_or_ge i (j - 1) with a | a
        · exact Nat.le_of_lt (fd_lt a (by omega))
        · rw [show i = j - 1 by omega]
          exact Nat.le_refl _
      omega
theorem st_succ {t : List Nat} {j : Nat} : st t (j + 1) = (fd t).getD j 0 + 1 := by
  unfold st
  rw [if_neg (Nat.succ_ne_zero _), Nat.add_sub_cancel]
theorem en_in {t : List Nat} {j : Nat} (h : j < nf t) : en t j = (fd t).getD j 0 := by
  unfold en
  have hl : j < (fd t).length := h
  rw [List.getD_eq_getElem?_getD, List.getD_eq_getElem?_getD, List.getElem?_eq_getElem hl]
  rfl
theorem en_end {t : List Nat} : en t (nf t) = t.length := by
  unfold en nf
  rw [List.getD_eq_getElem?_getD, List.getElem?_eq_none (Nat.le_refl _)]
  rfl
theorem st_en {t : List Nat} {j : Nat} (h : j ≤ nf t) : st t j ≤ en t j ∧ en t j ≤ t.length := by
  by_cases hj : j < nf t
  · rw [en_in hj]
    have h1 := st_le (t := t) (j := j + 1) (by omega)
    rw [st_succ] at h1
    refine ⟨?_, by omega⟩
    unfold st
    split
    · exact Nat.zero_le _
    · exact fd_lt (by omega) hj
  · obtain rfl : j = nf t := by omega
    rw [en_end]
    exact ⟨st_le h, Nat.le_refl _⟩
/-! ### where lines lie -/
theorem ln_mono {t : List Nat} {a b : Nat} (h : a ≤ b) : ln t a ≤ ln t b := by
  unfold ln
  rw [show b = a + (b - a) by omega, List.take_add, List.count_append]
  omega
theorem ln_line {t : List Nat} {k j : Nat} (hk : k ≤ t.length) (hj : j ≤ nf t) : ln t k = j ↔ st t j ≤ k ∧ k ≤ en t j := by
  -- a feed's line
  have at_fd : ∀ i, i < nf t → ln t ((fd t).getD i 0) = i ∧ (fd t).getD i 0 < t.length ∧ t[(fd t).getD i 0]? = some 10 := by
    intro i hi
    have hl : i < (fd t).length := hi
    have e : (fd t).getD i 0 = (fd t)[i] := by rw [List.getD_eq_getElem?_getD, List.getElem?_eq_getElem hl]; rfl
    have hm : t[(fd t)[i]]? = some 10 := fd_mem.mp (List.getElem_mem hl)
    have hlt := (List.getElem?_eq_some_iff.mp hm).1
    rw [e]
    refine ⟨?_, hlt, hm⟩
    have h1 := fd_at hm
    obtain ⟨h2, h3⟩ := List.getElem?_eq_some_iff.mp h1
    rcases Nat.lt_trichotomy (ln t (fd t)[i]) i with a | a | a
    · have := List.pairwise_iff_getElem.mp (fd_sorted t) _ _ h2 hl a
      omega
    · exact a
    · have := List.pairwise_iff_getElem.mp (fd_sorted t) _ _ hl h2 a
      omega
  have up : ∀ i, i < nf t → ln t ((fd t).getD i 0 + 1) = i + 1 := by
    intro i hi
    obtain ⟨h1, h2, h3⟩ := at_fd i hi
    have hc : t[(fd t).getD i 0] = 10 := by
      rw [List.getElem?_eq_getElem h2] at h3
      exact Option.some.inj h3
    rw [ln_next h2, if_pos hc, h1]
  constructor
  · intro e
    constructor
    · cases j with
      | zero => exact Nat.zero_le _
      | succ j =>
        rw [st_succ]
        obtain ⟨h1, h2, h3⟩ := at_fd j (by omega)
        by_cases c : (fd t).getD j 0 + 1 ≤ k
        · exact c
        · have := ln_mono (t := t) (show k ≤ (fd t).getD j 0 by omega)
          omega
    · by_cases hn : j < nf t
      · rw [en_in hn]
        by_cases c : k ≤ (fd t).getD j 0
        · exact c
        · have := ln_mono (t := t) (show (fd t).getD j 0 + 1 ≤ k by omega)
          rw [up j hn] at this
          omega
      · rw [show j = nf t by omega, en_end]
        exact hk
  · rintro ⟨h1, h2⟩
    have lo : j ≤ ln t k := by
      cases j with
      | zero => exact Nat.zero_le _
      | succ j =>
        rw [st_succ] at h1
        have := ln_mono (t := t) h1
        rw [up j (by omega)] at this
        exact this
    have hi : ln t k ≤ j := by
      by_cases hn : j < nf t
      · rw [en_in hn] at h2
        have := ln_mono (t := t) h2
        rw [(at_fd j hn).1] at this
        exact this
      · have := ln_le hk
        omega
    omega
/-! ### classes of signs -/
def digs : List Nat := [48, 49, 50, 51, 52, 53, 54, 55, 56, 57]
def lets : List Nat := [97, 98, 99, 100, 101, 102, 103, 104, 105, 106, 107, 108, 109, 110, 111, 112, 113, 114, 115, 116, 117, 118, 119, 120, 121, 122, 65, 66, 67, 68, 69, 70, 71, 72, 73, 74, 75, 76, 77, 78, 79, 80, 81, 82, 83, 84, 85, 86, 87, 88, 89, 90, 95]
def oths : List Nat := [33, 34, 35, 36, 38, 39, 40, 41, 42, 43, 44, 45, 46, 47, 58, 59, 60, 61, 62, 63, 64, 91, 92, 93, 94, 96, 123, 124, 125, 126]
def clsT : List (List Nat) := [lets ++ digs, oths, [32], [10]]
def cl (ch : Nat) : Nat := if ch ∈ lets ++ digs then 0 else if ch ∈ oths then 1 else if ch ∈ [32] then 2 else if ch ∈ [10] then 3 else 4
def Gp (t : List Nat) : Prop := ∀ ch ∈ t, cl ch < 4
/-- the words of the kinds -/
def nm (c : Nat) : List Nat := if c = 0 then [108, 101, 116, 116, 101, 114] else if c = 1 then [111, 116, 104, 101, 114] else if c = 2 then [98, 108, 97, 110, 107] else [102, 101, 101, 100]
def kd (ch : Nat) : List Nat := if ch ∈ digs then [100, 105, 103, 105, 116] else nm (cl ch)
def cA (t : List Nat) (k : Nat) : Nat := cl (t.getD k 0)
/-! ### the motions -/
def col (t : List Nat) (k : Nat) : Nat := k - st t (ln t k)
def plN (t : List Nat) (j c : Nat) : Nat := min (st t j + c) (en t j)
def OnS (t : List Nat) (p c q : Nat) : Prop := p ≤ q ∧ q ≤ t.length ∧ (∀ k, p ≤ k → k < q → cA t k = c) ∧ (q < t.length → cA t q ≠ c)
def BkO (t : List Nat) (p c q : Nat) : Prop := q ≤ p ∧ (∀ k, q ≤ k → k < p → cA t k = c) ∧ (0 < q → cA t (q - 1) ≠ c)
def NxS (t : List Nat) (p q : Nat) : Prop := if p = t.length then q = p else if cA t p = 3 then q = p + 1 else p < q ∧ q ≤ t.length ∧ (∀ k, p < k → k < q → ¬ (cA t k ≠ 2 ∧ cA t k ≠ cA t (k - 1))) ∧ (q < t.length → cA t q ≠ 2 ∧ cA t q ≠ cA t (q - 1))
def bkC (t : List Nat) (k : Nat) : Prop := cA t (k - 1) = 3 ∨ (cA t k ≠ 2 ∧ cA t (k - 1) ≠ cA t k)
def BkS (t : List Nat) (p q : Nat) : Prop := if p = 0 then q = 0 else if cA t (p - 1) = 3 then q = p - 1 else q < p ∧ (0 < q → bkC t q) ∧ ∀ k, q < k → k < p → ¬ bkC t k
def MvS (i : Nat) (t : List Nat) (p q : Nat) : Prop := match i with
  | 0 => q = p - 1
  | 1 => q = min (p + 1) t.length
  | 2 => q = if ln t p = 0 then p else plN t (ln t p - 1) (col t p)
  | 3 => q = if ln t p = nf t then p else plN t (ln t p + 1) (col t p)
  | 4 => q = st t (ln t p)
  | 5 => q = en t (ln t p)
  | 6 => q = 0
  | 7 => q = t.length
  | 8 => NxS t p q
  | _ => BkS t p q
def wds : List (List Nat) := [[108, 101, 102, 116], [114, 105, 103, 104, 116], [117, 112], [100, 111, 119, 110], [104, 111, 109, 101], [101, 110, 100], [115, 116, 97, 114, 116], [102, 105, 110, 105, 115, 104], [119, 111, 114, 100], [119, 111, 114, 100, 98, 97, 99, 107]]
def wd (i : Nat) : List Nat := wds.getD i []
def xPlace (k : Int) : Exn := ⟨"BadPlace", ["at"], [.int k]⟩
/-! ### contracts -/
def spD (t : List Nat) (k : Nat) : Dt := .tup [.int (ln t k : Nat), .int (col t k : Nat)]
def tblD (t : List Nat) : List Dt := (List.range (t.length + 1)).map (spD t)
def kdsD (t : List Nat) : List Dt := t.map fun ch => .int (cl ch : Nat)
def F_kind_of : FS := fun as R => ∃ ch : Nat, as = [.dat (.str [ch])] ∧ cl ch < 4 ∧ R (.dat (.str (kd ch))) as
def F_spot_of : FS := fun as R => ∃ (t : List Nat) (p : Nat), as = [.dat (.str t), .dat (.int p)] ∧ t.length ≤ 10000 ∧ p ≤ t.length ∧ R (.dat (spD t p)) as
def F_row_bounds : FS := fun as R => ∃ (t : List Nat) (j : Nat), as = [.dat (.str t), .dat (.int j)] ∧ t.length ≤ 10000 ∧ j ≤ nf t ∧ R (.dat (.tup [.int (st t j : Nat), .int (en t j : Nat)])) as
def F_place_of : FS := fun as R => ∃ (t : List Nat) (j c : Nat), as = [.dat (.str t), .dat (.int j), .dat (.int c)] ∧ t.length ≤ 10000 ∧ j ≤ nf t ∧ R (.dat (.int (plN t j c : Nat))) as
def F_mo (i : Nat) : FS := fun as R => ∃ (t : List Nat) (p : Nat), as = [.dat (.str t), .dat (.int p)] ∧ Gp t ∧ t.length ≤ 10000 ∧ p ≤ t.length ∧ ∀ q : Nat, MvS i t p q → R (.dat (.int q)) as
def F_to_left : FS := F_mo 0
def F_to_right : FS := F_mo 1
def F_to_line_above : FS := F_mo 2
def F_to_line_below : FS := F_mo 3
def F_to_row_home : FS := F_mo 4
def F_to_row_end : FS := F_mo 5
def F_to_text_start : FS := F_mo 6
def F_to_text_finish : FS := F_mo 7
def F_to_next_word : FS := F_mo 8
def F_to_word_before : FS := F_mo 9
def F_run_kind : FS := fun as R => ∃ ch : Nat, as = [.dat (.str [ch])] ∧ cl ch < 4 ∧ R (.dat (.str (nm (cl ch)))) as
def F_on_over : FS := fun as R => ∃ (t : List Nat) (p c : Nat), as = [.dat (.str t), .dat (.int p), .dat (.str (nm c))] ∧ Gp t ∧ t.length ≤ 10000 ∧ p ≤ t.length ∧ c < 4 ∧ ∀ q : Nat, OnS t p c q → R (.dat (.int q)) as
def F_back_over : FS := fun as R => ∃ (t : List Nat) (p c : Nat), as = [.dat (.str t), .dat (.int p), .dat (.str (nm c))] ∧ Gp t ∧ t.length ≤ 10000 ∧ p ≤ t.length ∧ c < 4 ∧ ∀ q : Nat, BkO t p c q → R (.dat (.int q)) as
def F_moved : FSX := fun as R Z => ∃ (t : List Nat) (p i : Nat), as = [.dat (.str t), .dat (.int p), .dat (.str (wd i))] ∧ i < 10 ∧ Gp t ∧ t.length ≤ 10000 ∧ (p ≤ t.length → ∀ q : Nat, MvS i t p q → R (.dat (.int q)) as) ∧ (t.length < p → Z (xPlace p) as)
def F_law_draws : FS := F_boxNew
def F_law_take : FS := F_boxPick
def F_law_classes : FS := fun as R => as = [] ∧ R (.new (.lst (clsT.map Dt.str))) as
def F_law_text : FS := fun as R => ∃ n : Int, as = [.ob .pool, .dat (.int n)] ∧ 0 ≤ n ∧ n ≤ 1000 ∧ ∀ t : List Nat, Gp t → (t.length : Int) ≤ n → R (.dat (.str t)) as
def F_law_runs : FS := fun as R => as = [.ob .pool] ∧ ∀ t : List Nat, Gp t → t.length ≤ 1000 → R (.dat (.str t)) as
def F_law_class : FS := fun as R => ∃ ch : Nat, as = [.dat (.str [ch])] ∧ cl ch < 4 ∧ R (.dat (.int (cl ch : Nat))) as
def F_law_table : FS := fun as R => ∃ t : List Nat, as = [.dat (.str t)] ∧ t.length ≤ 10000 ∧ R (.new (.lst (tblD t))) as
def F_law_nearest : FS := fun as R => ∃ (t : List Nat) (j c : Nat), as = [.dat (.lst (tblD t)), .dat (.int j), .dat (.int c)] ∧ t.length ≤ 10000 ∧ j ≤ nf t ∧ R (.dat (.int (plN t j c : Nat))) as
def F_law_on : FS := fun as R => ∃ (t : List Nat) (p q : Nat), as = [.dat (.lst (kdsD t)), .dat (.int p)] ∧ t.length ≤ 10000 ∧ p ≤ t.length ∧ NxS t p q ∧ R (.dat (.int q)) as
def F_law_back : FS := fun as R => ∃ (t : List Nat) (p q : Nat), as = [.dat (.lst (kdsD t)), .dat (.int p)] ∧ t.length ≤ 10000 ∧ p ≤ t.length ∧ BkS t p q ∧ R (.dat (.int q)) as
def F_law_due : FS := fun as R => ∃ (t : List Nat) (p q i : Nat), as = [.dat (.str t), .dat (.lst (kdsD t)), .dat (.lst (tblD t)), .dat (.int p), .dat (.str (wd i))] ∧ i < 10 ∧ t.length ≤ 10000 ∧ p ≤ t.length ∧ MvS i t p q ∧ R (.dat (.int q)) as
def F_law_number : FS := fun as R => ∃ i : Int, as = [.dat (.int i)] ∧ R (.dat (.bl true)) as
def F_law_refused : FS := fun as R => ∃ (t : List Nat) (p i : Nat), as = [.dat (.str t), .dat (.int p), .dat (.str (wd i))] ∧ i < 10 ∧ Gp t ∧ t.length ≤ 10000 ∧ t.length < p ∧ R (.dat (.bl true)) as
def F_law_words : FS := fun as R => as = [] ∧ R (.new (.lst (wds.map Dt.str))) as
def F_law_words_told : FS := fun as R => as = [] ∧ R (.dat (.bl true)) as
def F_law_far : FS := fun as R => as = [.ob .pool] ∧ R (.dat (.bl true)) [.ob .pool]
def F_law : FS := fun as R => ∃ ns : List Int, as = [.dat (.frz (ns.map .int))] ∧ ns.length ≤ 63 ∧ R (.dat (.bl true)) as
end K48

namespace K48
open PySem PySem.Spec PyProof.Rows L2 Cl
def topS (i : Nat) : Stmt := PySem.Challenge.pw_deedstand_k48_motions_lead_by_spots.main.body.getD i (.Pass ⟨0, 0, 0, 0⟩)
def c_DIGITS : List Nat := [48, 49, 50, 51, 52, 53, 54, 55, 56, 57]
def c_GREAT_LETTERS : List Nat := [65, 66, 67, 68, 69, 70, 71, 72, 73, 74, 75, 76, 77, 78, 79, 80, 81, 82, 83, 84, 85, 86, 87, 88, 89, 90]
def c_SMALL_LETTERS : List Nat := [97, 98, 99, 100, 101, 102, 103, 104, 105, 106, 107, 108, 109, 110, 111, 112, 113, 114, 115, 116, 117, 118, 119, 120, 121, 122]
def c_WORDS : List (List Nat) := [[108, 101, 102, 116], [114, 105, 103, 104, 116], [117, 112], [100, 111, 119, 110], [104, 111, 109, 101], [101, 110, 100], [115, 116, 97, 114, 116], [102, 105, 110, 105, 115, 104], [119, 111, 114, 100], [119, 111, 114, 100, 98, 97, 99, 107]]
def tab_MOTIONS : List (List Nat × FS) := [([108, 101, 102, 116], F_to_left), ([114, 105, 103, 104, 116], F_to_right), ([117, 112], F_to_line_above), ([100, 111, 119, 110], F_to_line_below), ([104, 111, 109, 101], F_to_row_home), ([101, 110, 100], F_to_row_end), ([115, 116, 97, 114, 116], F_to_text_start), ([102, 105, 110, 105, 115, 104], F_to_text_finish), ([119, 111, 114, 100], F_to_next_word), ([119, 111, 114, 100, 98, 97, 99, 107], F_to_word_before)]
abbrev s_kind_of : Stmt := topS 7
abbrev N_kind_of : List Str := ["sign"]
abbrev P_kind_of : List Str := ["sign"]
theorem sc_kind_of : FnScope N_kind_of P_kind_of (defScope s_kind_of) := ⟨rfl, rfl, rfl, by decide +kernel, rfl, by decide +kernel, by decide +kernel⟩
abbrev s_spot_of : Stmt := topS 9
abbrev N_spot_of : List Str := ["text", "place"]
abbrev P_spot_of : List Str := ["text", "place"]
theorem sc_spot_of : FnScope N_spot_of P_spot_of (defScope s_spot_of) := ⟨rfl, rfl, rfl, by decide +kernel, rfl, by decide +kernel, by decide +kernel⟩
abbrev s_row_bounds : Stmt := topS 10
abbrev N_row_bounds : List Str := ["text", "line", "first", "_", "last", "feed"]
abbrev P_row_bounds : List Str := ["text", "line"]
theorem sc_row_bounds : FnScope N_row_bounds P_row_bounds (defScope s_row_bounds) := ⟨rfl, rfl, rfl, by decide +kernel, rfl, by decide +kernel, by decide +kernel⟩
abbrev s_place_of : Stmt := topS 11
abbrev N_place_of : List Str := ["text", "line", "column", "first", "last"]
abbrev P_place_of : List Str := ["text", "line", "column"]
theorem sc_place_of : FnScope N_place_of P_place_of (defScope s_place_of) := ⟨rfl, rfl, rfl, by decide +kernel, rfl, by decide +kernel, by decide +kernel⟩
abbrev s_to_left : Stmt := topS 14
abbrev N_to_left : List Str := ["text", "place"]
abbrev P_to_left : List Str := ["text", "place"]
theorem sc_to_left : FnScope N_to_left P_to_left (defScope s_to_left) := ⟨rfl, rfl, rfl, by decide +kernel, rfl, by decide +kernel, by decide +kernel⟩
abbrev s_to_right : Stmt := topS 15
abbrev N_to_right : List Str := ["text", "place"]
abbrev P_to_right : List Str := ["text", "place"]
theorem sc_to_right : FnScope N_to_right P_to_right (defScope s_to_right) := ⟨rfl, rfl, rfl, by decide +kernel, rfl, by decide +kernel, by decide +kernel⟩
abbrev s_to_line_above : Stmt := topS 16
abbrev N_to_line_above : List Str := ["text", "place", "line", "column"]
abbrev P_to_line_above : List Str := ["text", "place"]
theorem sc_to_line_above : FnScope N_to_line_above P_to_line_above (defScope s_to_line_above) := ⟨rfl, rfl, rfl, by decide +kernel, rfl, by decide +kernel, by decide +kernel⟩
abbrev s_to_line_below : Stmt := topS 17
abbrev N_to_line_below : List Str := ["text", "place", "line", "column"]
abbrev P_to_line_below : List Str := ["text", "place"]
theorem sc_to_line_below : FnScope N_to_line_below P_to_line_below (defScope s_to_line_below) := ⟨rfl, rfl, rfl, by decide +kernel, rfl, by decide +kernel, by decide +kernel⟩
abbrev s_to_row_home : Stmt := topS 18
abbrev N_to_row_home : List Str := ["text", "place", "line", "_"]
abbrev P_to_row_home : List Str := ["text", "place"]
theorem sc_to_row_home : FnScope N_to_row_home P_to_row_home (defScope s_to_row_home) := ⟨rfl, rfl, rfl, by decide +kernel, rfl, by decide +kernel, by decide +kernel⟩
abbrev s_to_row_end : Stmt := topS 19
abbrev N_to_row_end : List Str := ["text", "place", "line", "_"]
abbrev P_to_row_end : List Str := ["text", "place"]
theorem sc_to_row_end : FnScope N_to_row_end P_to_row_end (defScope s_to_row_end) := ⟨rfl, rfl, rfl, by decide +kernel, rfl, by decide +kernel, by decide +kernel⟩
abbrev s_to_text_start : Stmt := topS 20
abbrev N_to_text_start : List Str := ["text", "place"]
abbrev P_to_text_start : List Str := ["text", "place"]
theorem sc_to_text_start : FnScope N_to_text_start P_to_text_start (defScope s_to_text_start) := ⟨rfl, rfl, rfl, by decide +kernel, rfl, by decide +kernel, by decide +kernel⟩
abbrev s_to_text_finish : Stmt := topS 21
abbrev N_to_text_finish : List Str := ["text", "place"]
abbrev P_to_text_finish : List Str := ["text", "place"]
theorem sc_to_text_finish : FnScope N_to_text_finish P_to_text_finish (defScope s_to_text_finish) := ⟨rfl, rfl, rfl, by decide +kernel, rfl, by decide +kernel, by decide +kernel⟩
abbrev s_run_kind : Stmt := topS 22
abbrev N_run_kind : List Str := ["sign", "kind"]
abbrev P_run_kind : List Str := ["sign"]
theorem sc_run_kind : FnScope N_run_kind P_run_kind (defScope s_run_kind) := ⟨rfl, rfl, rfl, by decide +kernel, rfl, by decide +kernel, by decide +kernel⟩
abbrev s_on_over : Stmt := topS 23
abbrev N_on_over : List Str := ["text", "place", "kind"]
abbrev P_on_over : List Str := ["text", "place", "kind"]
theorem sc_on_over : FnScope N_on_over P_on_over (defScope s_on_over) := ⟨rfl, rfl, rfl, by decide +kernel, rfl, by decide +kernel, by decide +kernel⟩
abbrev s_back_over : Stmt := topS 24
abbrev N_back_over : List Str := ["text", "place", "kind"]
abbrev P_back_over : List Str := ["text", "place", "kind"]
theorem sc_back_over : FnScope N_back_over P_back_over (defScope s_back_over) := ⟨rfl, rfl, rfl, by decide +kernel, rfl, by decide +kernel, by decide +kernel⟩
abbrev s_to_next_word : Stmt := topS 25
abbrev N_to_next_word : List Str := ["text", "place", "kind"]
abbrev P_to_next_word : List Str := ["text", "place"]
theorem sc_to_next_word : FnScope N_to_next_word P_to_next_word (defScope s_to_next_word) := ⟨rfl, rfl, rfl, by decide +kernel, rfl, by decide +kernel, by decide +kernel⟩
abbrev s_to_word_before : Stmt := topS 26
abbrev N_to_word_before : List Str := ["text", "place", "kind"]
abbrev P_to_word_before : List Str := ["text", "place"]
theorem sc_to_word_before : FnScope N_to_word_before P_to_word_before (defScope s_to_word_before) := ⟨rfl, rfl, rfl, by decide +kernel, rfl, by decide +kernel, by decide +kernel⟩
abbrev s_moved : Stmt := topS 28
abbrev N_moved : List Str := ["text", "place", "word", "motion"]
abbrev P_moved : List Str := ["text", "place", "word"]
theorem sc_moved : FnScope N_moved P_moved (defScope s_moved) := ⟨rfl, rfl, rfl, by decide +kernel, rfl, by decide +kernel, by decide +kernel⟩
abbrev s_law_draws : Stmt := topS 30
abbrev N_law_draws : List Str := ["script", "state", "pool", "cell", "size"]
abbrev P_law_draws : List Str := ["script"]
theorem sc_law_draws : FnScope N_law_draws P_law_draws (defScope s_law_draws) := ⟨rfl, rfl, rfl, by decide +kernel, rfl, by decide +kernel, by decide +kernel⟩
abbrev s_law_take : Stmt := topS 31
abbrev N_law_take : List Str := ["flow", "many", "pool", "got"]
abbrev P_law_take : List Str := ["flow", "many"]
theorem sc_law_take : FnScope N_law_take P_law_take (defScope s_law_take) := ⟨rfl, rfl, rfl, by decide +kernel, rfl, by decide +kernel, by decide +kernel⟩
abbrev s_law_classes : Stmt := topS 32
abbrev N_law_classes : List Str := ["letters", "others"]
abbrev P_law_classes : List Str := []
theorem sc_law_classes : FnScope N_law_classes P_law_classes (defScope s_law_classes) := ⟨rfl, rfl, rfl, by decide +kernel, rfl, by decide +kernel, by decide +kernel⟩
abbrev s_law_text : Stmt := topS 33
abbrev N_law_text : List Str := ["flow", "size", "kinds", "body", "k", "kind", "signs", "run"]
abbrev P_law_text : List Str := ["flow", "size"]
theorem sc_law_text : FnScope N_law_text P_law_text (defScope s_law_text) := ⟨rfl, rfl, rfl, by decide +kernel, rfl, by decide +kernel, by decide +kernel⟩
abbrev s_law_runs : Stmt := topS 34
abbrev N_law_runs : List Str := ["flow", "kinds", "body", "lap", "signs", "first", "k"]
abbrev P_law_runs : List Str := ["flow"]
theorem sc_law_runs : FnScope N_law_runs P_law_runs (defScope s_law_runs) := ⟨rfl, rfl, rfl, by decide +kernel, rfl, by decide +kernel, by decide +kernel⟩
abbrev s_law_class : Stmt := topS 35
abbrev N_law_class : List Str := ["sign", "kinds", "k"]
abbrev P_law_class : List Str := ["sign"]
theorem sc_law_class : FnScope N_law_class P_law_class (defScope s_law_class) := ⟨rfl, rfl, rfl, by decide +kernel, rfl, by decide +kernel, by decide +kernel⟩
abbrev s_law_table : Stmt := topS 36
abbrev N_law_table : List Str := ["body", "spots", "line", "column", "k"]
abbrev P_law_table : List Str := ["body"]
theorem sc_law_table : FnScope N_law_table P_law_table (defScope s_law_table) := ⟨rfl, rfl, rfl, by decide +kernel, rfl, by decide +kernel, by decide +kernel⟩
abbrev s_law_nearest : Stmt := topS 37
abbrev N_law_nearest : List Str := ["spots", "line", "column", "found", "k"]
abbrev P_law_nearest : List Str := ["spots", "line", "column"]
theorem sc_law_nearest : FnScope N_law_nearest P_law_nearest (defScope s_law_nearest) := ⟨rfl, rfl, rfl, by decide +kernel, rfl, by decide +kernel, by decide +kernel⟩
abbrev s_law_on : Stmt := topS 38
abbrev N_law_on : List Str := ["kinds", "spot", "last", "k"]
abbrev P_law_on : List Str := ["kinds", "spot"]
theorem sc_law_on : FnScope N_law_on P_law_on (defScope s_law_on) := ⟨rfl, rfl, rfl, by decide +kernel, rfl, by decide +kernel, by decide +kernel⟩
abbrev s_law_back : Stmt := topS 39
abbrev N_law_back : List Str := ["kinds", "spot", "found", "k"]
abbrev P_law_back : List Str := ["kinds", "spot"]
theorem sc_law_back : FnScope N_law_back P_law_back (defScope s_law_back) := ⟨rfl, rfl, rfl, by decide +kernel, rfl, by decide +kernel, by decide +kernel⟩
abbrev s_law_due : Stmt := topS 40
abbrev N_law_due : List Str := ["body", "kinds", "spots", "spot", "word", "line", "column", "last"]
abbrev P_law_due : List Str := ["body", "kinds", "spots", "spot", "word"]
theorem sc_law_due : FnScope N_law_due P_law_due (defScope s_law_due) := ⟨rfl, rfl, rfl, by decide +kernel, rfl, by decide +kernel, by decide +kernel⟩
abbrev s_law_number : Stmt := topS 41
abbrev N_law_number : List Str := ["thing"]
abbrev P_law_number : List Str := ["thing"]
theorem sc_law_number : FnScope N_law_number P_law_number (defScope s_law_number) := ⟨rfl, rfl, rfl, by decide +kernel, rfl, by decide +kernel, by decide +kernel⟩
abbrev s_law_refused : Stmt := topS 42
abbrev N_law_refused : List Str := ["body", "spot", "word", "e"]
abbrev P_law_refused : List Str := ["body", "spot", "word"]
theorem sc_law_refused : FnScope N_law_refused P_law_refused (defScope s_law_refused) := ⟨rfl, rfl, rfl, by decide +kernel, rfl, by decide +kernel, by decide +kernel⟩
abbrev s_law_words : Stmt := topS 43
abbrev N_law_words : List Str := []
abbrev P_law_words : List Str := []
theorem sc_law_words : FnScope N_law_words P_law_words (defScope s_law_words) := ⟨rfl, rfl, rfl, by decide +kernel, rfl, by decide +kernel, by decide +kernel⟩
abbrev s_law_words_told : Stmt := topS 44
abbrev N_law_words_told : List Str := ["due", "k"]
abbrev P_law_words_told : List Str := []
theorem sc_law_words_told : FnScope N_law_words_told P_law_words_told (defScope s_law_words_told) := ⟨rfl, rfl, rfl, by decide +kernel, rfl, by decide +kernel, by decide +kernel⟩
abbrev s_law_far : Stmt := topS 45
abbrev N_law_far : List Str := ["flow", "signs", "body", "edges", "lap", "kinds", "spots", "asked", "word", "some", "first", "k", "spot", "told", "sign"]
abbrev P_law_far : List Str := ["flow"]
theorem sc_law_far : FnScope N_law_far P_law_far (defScope s_law_far) := ⟨rfl, rfl, rfl, by decide +kernel, rfl, by decide +kernel, by decide +kernel⟩
abbrev s_law : Stmt := topS 46
abbrev N_law : List Str := ["script", "flow", "size", "body", "asked", "kinds", "spots", "word", "spot", "told", "beyond", "k", "sign"]
abbrev P_law : List Str := ["script"]
theorem sc_law : FnScope N_law P_law (defScope s_law) := ⟨rfl, rfl, rfl, by decide +kernel, rfl, by decide +kernel, by decide +kernel⟩
abbrev s_init_BadPlace : Stmt := clsS (topS 2) 0
abbrev N_init_BadPlace : List Str := ["self", "at"]
theorem sc_init_BadPlace : FnScope N_init_BadPlace N_init_BadPlace (defScope s_init_BadPlace) := ⟨rfl, rfl, rfl, by decide +kernel, rfl, by decide +kernel, by decide +kernel⟩
theorem bi_init_BadPlace {K : PySem.W.Frag} {f : Addr} {fd : FuncData} (F : FunD K "__init__" "BadPlace.__init__" (defArgs s_init_BadPlace) (defBody s_init_BadPlace) (defScope s_init_BadPlace) [] [] f fd) : ∃ ws ds, Vals ws ds ∧ (∀ B, RepL K B [] ws) ∧ Binds K fd N_init_BadPlace ds := bi_N F fun _ _ _ _ _ _ us hl => match us, hl with
  | [_, _], _ => rfl
theorem q_init_BadPlace {P : Program} {w : World} {mg : Str → Option Value} {base : Heap} {K : PySem.W.Frag} {f : Addr} {fd : FuncData} (F : FunD K "__init__" "BadPlace.__init__" (defArgs s_init_BadPlace) (defBody s_init_BadPlace) (defScope s_init_BadPlace) [] [] f fd) : FnOk P w K mg base CX0 1 f fd N_init_BadPlace (spI1 K "at") := F.ok sc_init_BadPlace (fun vs H Q E h => by obtain ⟨a, C, y, rfl, _⟩ := h; rfl) fun cdv A outer s H vs Q E hr h => ⟨_, pss_one (ps_ost (pv 0) (pv 1)), ini_sp h⟩
theorem bi_kind_of {K : PySem.W.Frag} {f : Addr} {fd : FuncData} (F : FunD K "kind_of" "kind_of" (defArgs s_kind_of) (defBody s_kind_of) (defScope s_kind_of) [] [] f fd) : ∃ ws ds, Vals ws ds ∧ (∀ B, RepL K B [] ws) ∧ Binds K fd P_kind_of ds := bi_N F fun _ _ _ _ _ _ us hl => match us, hl with
  | [_], _ => rfl
theorem bi_spot_of {K : PySem.W.Frag} {f : Addr} {fd : FuncData} (F : FunD K "spot_of" "spot_of" (defArgs s_spot_of) (defBody s_spot_of) (defScope s_spot_of) [] [] f fd) : ∃ ws ds, Vals ws ds ∧ (∀ B, RepL K B [] ws) ∧ Binds K fd P_spot_of ds := bi_N F fun _ _ _ _ _ _ us hl => match us, hl with
  | [_, _], _ => rfl
theorem bi_row_bounds {K : PySem.W.Frag} {f : Addr} {fd : FuncData} (F : FunD K "row_bounds" "row_bounds" (defArgs s_row_bounds) (defBody s_row_bounds) (defScope s_row_bounds) [] [] f fd) : ∃ ws ds, Vals ws ds ∧ (∀ B, RepL K B [] ws) ∧ Binds K fd P_row_bounds ds := bi_N F fun _ _ _ _ _ _ us hl => match us, hl with
  | [_, _], _ => rfl
theorem bi_place_of {K : PySem.W.Frag} {f : Addr} {fd : FuncData} (F : FunD K "place_of" "place_of" (defArgs s_place_of) (defBody s_place_of) (defScope s_place_of) [] [] f fd) : ∃ ws ds, Vals ws ds ∧ (∀ B, RepL K B [] ws) ∧ Binds K fd P_place_of ds := bi_N F fun _ _ _ _ _ _ us hl => match us, hl with
  | [_, _, _], _ => rfl
theorem bi_to_left {K : PySem.W.Frag} {f : Addr} {fd : FuncData} (F : FunD K "_to_left" "_to_left" (defArgs s_to_left) (defBody s_to_left) (defScope s_to_left) [] [] f fd) : ∃ ws ds, Vals ws ds ∧ (∀ B, RepL K B [] ws) ∧ Binds K fd P_to_left ds := bi_N F fun _ _ _ _ _ _ us hl => match us, hl with
  | [_, _], _ => rfl
theorem bi_to_right {K : PySem.W.Frag} {f : Addr} {fd : FuncData} (F : FunD K "_to_right" "_to_right" (defArgs s_to_right) (defBody s_to_right) (defScope s_to_right) [] [] f fd) : ∃ ws ds, Vals ws ds ∧ (∀ B, RepL K B [] ws) ∧ Binds K fd P_to_right ds := bi_N F fun _ _ _ _ _ _ us hl => match us, hl with
  | [_, _], _ => rfl
theorem bi_to_line_above {K : PySem.W.Frag} {f : Addr} {fd : FuncData} (F : FunD K "_to_line_above" "_to_line_above" (defArgs s_to_line_above) (defBody s_to_line_above) (defScope s_to_line_above) [] [] f fd) : ∃ ws ds, Vals ws ds ∧ (∀ B, RepL K B [] ws) ∧ Binds K fd P_to_line_above ds := bi_N F fun _ _ _ _ _ _ us hl => match us, hl with
  | [_, _], _ => rfl
theorem bi_to_line_below {K : PySem.W.Frag} {f : Addr} {fd : FuncData} (F : FunD K "_to_line_below" "_to_line_below" (defArgs s_to_line_below) (defBody s_to_line_below) (defScope s_to_line_below) [] [] f fd) : ∃ ws ds, Vals ws ds ∧ (∀ B, RepL K B [] ws) ∧ Binds K fd P_to_line_below ds := bi_N F fun _ _ _ _ _ _ us hl => match us, hl with
  | [_, _], _ => rfl
theorem bi_to_row_home {K : PySem.W.Frag} {f : Addr} {fd : FuncData} (F : FunD K "_to_row_home" "_to_row_home" (defArgs s_to_row_home) (defBody s_to_row_home) (defScope s_to_row_home) [] [] f fd) : ∃ ws ds, Vals ws ds ∧ (∀ B, RepL K B [] ws) ∧ Binds K fd P_to_row_home ds := bi_N F fun _ _ _ _ _ _ us hl => match us, hl with
  | [_, _], _ => rfl
theorem bi_to_row_end {K : PySem.W.Frag} {f : Addr} {fd : FuncData} (F : FunD K "_to_row_end" "_to_row_end" (defArgs s_to_row_end) (defBody s_to_row_end) (defScope s_to_row_end) [] [] f fd) : ∃ ws ds, Vals ws ds ∧ (∀ B, RepL K B [] ws) ∧ Binds K fd P_to_row_end ds := bi_N F fun _ _ _ _ _ _ us hl => match us, hl with
  | [_, _], _ => rfl
theorem bi_to_text_start {K : PySem.W.Frag} {f : Addr} {fd : FuncData} (F : FunD K "_to_text_start" "_to_text_start" (defArgs s_to_text_start) (defBody s_to_text_start) (defScope s_to_text_start) [] [] f fd) : ∃ ws ds, Vals ws ds ∧ (∀ B, RepL K B [] ws) ∧ Binds K fd P_to_text_start ds := bi_N F fun _ _ _ _ _ _ us hl => match us, hl with
  | [_, _], _ => rfl
theorem bi_to_text_finish {K : PySem.W.Frag} {f : Addr} {fd : FuncData} (F : FunD K "_to_text_finish" "_to_text_finish" (defArgs s_to_text_finish) (defBody s_to_text_finish) (defScope s_to_text_finish) [] [] f fd) : ∃ ws ds, Vals ws ds ∧ (∀ B, RepL K B [] ws) ∧ Binds K fd P_to_text_finish ds := bi_N F fun _ _ _ _ _ _ us hl => match us, hl with
  | [_, _], _ => rfl
theorem bi_run_kind {K : PySem.W.Frag} {f : Addr} {fd : FuncData} (F : FunD K "_run_kind" "_run_kind" (defArgs s_run_kind) (defBody s_run_kind) (defScope s_run_kind) [] [] f fd) : ∃ ws ds, Vals ws ds ∧ (∀ B, RepL K B [] ws) ∧ Binds K fd P_run_kind ds := bi_N F fun _ _ _ _ _ _ us hl => match us, hl with
  | [_], _ => rfl
theorem bi_on_over {K : PySem.W.Frag} {f : Addr} {fd : FuncData} (F : FunD K "_on_over" "_on_over" (defArgs s_on_over) (defBody s_on_over) (defScope s_on_over) [] [] f fd) : ∃ ws ds, Vals ws ds ∧ (∀ B, RepL K B [] ws) ∧ Binds K fd P_on_over ds := bi_N F fun _ _ _ _ _ _ us hl => match us, hl with
  | [_, _, _], _ => rfl
theorem bi_back_over {K : PySem.W.Frag} {f : Addr} {fd : FuncData} (F : FunD K "_back_over" "_back_over" (defArgs s_back_over) (defBody s_back_over) (defScope s_back_over) [] [] f fd) : ∃ ws ds, Vals ws ds ∧ (∀ B, RepL K B [] ws) ∧ Binds K fd P_back_over ds := bi_N F fun _ _ _ _ _ _ us hl => match us, hl with
  | [_, _, _], _ => rfl
theorem bi_to_next_word {K : PySem.W.Frag} {f : Addr} {fd : FuncData} (F : FunD K "_to_next_word" "_to_next_word" (defArgs s_to_next_word) (defBody s_to_next_word) (defScope s_to_next_word) [] [] f fd) : ∃ ws ds, Vals ws ds ∧ (∀ B, RepL K B [] ws) ∧ Binds K fd P_to_next_word ds := bi_N F fun _ _ _ _ _ _ us hl => match us, hl with
  | [_, _], _ => rfl
theorem bi_to_word_before {K : PySem.W.Frag} {f : Addr} {fd : FuncData} (F : FunD K "_to_word_before" "_to_word_before" (defArgs s_to_word_before) (defBody s_to_word_before) (defScope s_to_word_before) [] [] f fd) : ∃ ws ds, Vals ws ds ∧ (∀ B, RepL K B [] ws) ∧ Binds K fd P_to_word_before ds := bi_N F fun _ _ _ _ _ _ us hl => match us, hl with
  | [_, _], _ => rfl
theorem bi_moved {K : PySem.W.Frag} {f : Addr} {fd : FuncData} (F : FunD K "moved" "moved" (defArgs s_moved) (defBody s_moved) (defScope s_moved) [] [] f fd) : ∃ ws ds, Vals ws ds ∧ (∀ B, RepL K B [] ws) ∧ Binds K fd P_moved ds := bi_N F fun _ _ _ _ _ _ us hl => match us, hl with
  | [_, _, _], _ => rfl
theorem kb_moved_0 {K : PySem.W.Frag} {f : Addr} {fd : FuncData} (F : FunD K "moved" "moved" (defArgs s_moved) (defBody s_moved) (defScope s_moved) [] [] f fd) : ∃ g gV, KBn K fd P_moved 0 ["word", "text", "place"] g gV ∧ ∀ B σ avs kvs vs zs, avs.length = 0 → kvs.length = 3 → AVOk K B σ avs vs → AVOk K B σ kvs zs → AVOk K B σ (pick (.dat .non) [.inr 1, .inr 2, .inr 0] avs kvs ++ []) (gV vs zs) := kb_all F 0 ["word", "text", "place"] _ fun _ _ _ _ _ _ us ws h1 h2 => match us, ws, h1, h2 with
  | [], [_, _, _], _, _ => rfl
theorem bi_law_draws {K : PySem.W.Frag} {f : Addr} {fd : FuncData} (F : FunD K "_law_draws" "_law_draws" (defArgs s_law_draws) (defBody s_law_draws) (defScope s_law_draws) [] [] f fd) : ∃ ws ds, Vals ws ds ∧ (∀ B, RepL K B [] ws) ∧ Binds K fd P_law_draws ds := bi_N F fun _ _ _ _ _ _ us hl => match us, hl with
  | [_], _ => rfl
theorem bi_law_take {K : PySem.W.Frag} {f : Addr} {fd : FuncData} (F : FunD K "_law_take" "_law_take" (defArgs s_law_take) (defBody s_law_take) (defScope s_law_take) [] [] f fd) : ∃ ws ds, Vals ws ds ∧ (∀ B, RepL K B [] ws) ∧ Binds K fd P_law_take ds := bi_N F fun _ _ _ _ _ _ us hl => match us, hl with
  | [_, _], _ => rfl
theorem bi_law_classes {K : PySem.W.Frag} {f : Addr} {fd : FuncData} (F : FunD K "_law_classes" "_law_classes" (defArgs s_law_classes) (defBody s_law_classes) (defScope s_law_classes) [] [] f fd) : ∃ ws ds, Vals ws ds ∧ (∀ B, RepL K B [] ws) ∧ Binds K fd P_law_classes ds := bi_N F fun _ _ _ _ _ _ us hl => match us, hl with
  | [], _ => rfl
theorem bi_law_text {K : PySem.W.Frag} {f : Addr} {fd : FuncData} (F : FunD K "_law_text" "_law_text" (defArgs s_law_text) (defBody s_law_text) (defScope s_law_text) [] [] f fd) : ∃ ws ds, Vals ws ds ∧ (∀ B, RepL K B [] ws) ∧ Binds K fd P_law_text ds := bi_N F fun _ _ _ _ _ _ us hl => match us, hl with
  | [_, _], _ => rfl
theorem bi_law_runs {K : PySem.W.Frag} {f : Addr} {fd : FuncData} (F : FunD K "_law_runs" "_law_runs" (defArgs s_law_runs) (defBody s_law_runs) (defScope s_law_runs) [] [] f fd) : ∃ ws ds, Vals ws ds ∧ (∀ B, RepL K B [] ws) ∧ Binds K fd P_law_runs ds := bi_N F fun _ _ _ _ _ _ us hl => match us, hl with
  | [_], _ => rfl
theorem bi_law_class {K : PySem.W.Frag} {f : Addr} {fd : FuncData} (F : FunD K "_law_class" "_law_class" (defArgs s_law_class) (defBody s_law_class) (defScope s_law_class) [] [] f fd) : ∃ ws ds, Vals ws ds ∧ (∀ B, RepL K B [] ws) ∧ Binds K fd P_law_class ds := bi_N F fun _ _ _ _ _ _ us hl => match us, hl with
  | [_], _ => rfl
theorem bi_law_table {K : PySem.W.Frag} {f : Addr} {fd : FuncData} (F : FunD K "_law_table" "_law_table" (defArgs s_law_table) (defBody s_law_table) (defScope s_law_table) [] [] f fd) : ∃ ws ds, Vals ws ds ∧ (∀ B, RepL K B [] ws) ∧ Binds K fd P_law_table ds := bi_N F fun _ _ _ _ _ _ us hl => match us, hl with
  | [_], _ => rfl
theorem bi_law_nearest {K : PySem.W.Frag} {f : Addr} {fd : FuncData} (F : FunD K "_law_nearest" "_law_nearest" (defArgs s_law_nearest) (defBody s_law_nearest) (defScope s_law_nearest) [] [] f fd) : ∃ ws ds, Vals ws ds ∧ (∀ B, RepL K B [] ws) ∧ Binds K fd P_law_nearest ds := bi_N F fun _ _ _ _ _ _ us hl => match us, hl with
  | [_, _, _], _ => rfl
theorem bi_law_on {K : PySem.W.Frag} {f : Addr} {fd : FuncData} (F : FunD K "_law_on" "_law_on" (defArgs s_law_on) (defBody s_law_on) (defScope s_law_on) [] [] f fd) : ∃ ws ds, Vals ws ds ∧ (∀ B, RepL K B [] ws) ∧ Binds K fd P_law_on ds := bi_N F fun _ _ _ _ _ _ us hl => match us, hl with
  | [_, _], _ => rfl
theorem bi_law_back {K : PySem.W.Frag} {f : Addr} {fd : FuncData} (F : FunD K "_law_back" "_law_back" (defArgs s_law_back) (defBody s_law_back) (defScope s_law_back) [] [] f fd) : ∃ ws ds, Vals ws ds ∧ (∀ B, RepL K B [] ws) ∧ Binds K fd P_law_back ds := bi_N F fun _ _ _ _ _ _ us hl => match us, hl with
  | [_, _], _ => rfl
theorem bi_law_due {K : PySem.W.Frag} {f : Addr} {fd : FuncData} (F : FunD K "_law_due" "_law_due" (defArgs s_law_due) (defBody s_law_due) (defScope s_law_due) [] [] f fd) : ∃ ws ds, Vals ws ds ∧ (∀ B, RepL K B [] ws) ∧ Binds K fd P_law_due ds := bi_N F fun _ _ _ _ _ _ us hl => match us, hl with
  | [_, _, _, _, _], _ => rfl
theorem bi_law_number {K : PySem.W.Frag} {f : Addr} {fd : FuncData} (F : FunD K "_law_number" "_law_number" (defArgs s_law_number) (defBody s_law_number) (defScope s_law_number) [] [] f fd) : ∃ ws ds, Vals ws ds ∧ (∀ B, RepL K B [] ws) ∧ Binds K fd P_law_number ds := bi_N F fun _ _ _ _ _ _ us hl => match us, hl with
  | [_], _ => rfl
theorem bi_law_refused {K : PySem.W.Frag} {f : Addr} {fd : FuncData} (F : FunD K "_law_refused" "_law_refused" (defArgs s_law_refused) (defBody s_law_refused) (defScope s_law_refused) [] [] f fd) : ∃ ws ds, Vals ws ds ∧ (∀ B, RepL K B [] ws) ∧ Binds K fd P_law_refused ds := bi_N F fun _ _ _ _ _ _ us hl => match us, hl with
  | [_, _, _], _ => rfl
theorem bi_law_words {K : PySem.W.Frag} {f : Addr} {fd : FuncData} (F : FunD K "_law_words" "_law_words" (defArgs s_law_words) (defBody s_law_words) (defScope s_law_words) [] [] f fd) : ∃ ws ds, Vals ws ds ∧ (∀ B, RepL K B [] ws) ∧ Binds K fd P_law_words ds := bi_N F fun _ _ _ _ _ _ us hl => match us, hl with
  | [], _ => rfl
theorem bi_law_words_told {K : PySem.W.Frag} {f : Addr} {fd : FuncData} (F : FunD K "_law_words_told" "_law_words_told" (defArgs s_law_words_told) (defBody s_law_words_told) (defScope s_law_words_told) [] [] f fd) : ∃ ws ds, Vals ws ds ∧ (∀ B, RepL K B [] ws) ∧ Binds K fd P_law_words_told ds := bi_N F fun _ _ _ _ _ _ us hl => match us, hl with
  | [], _ => rfl
theorem bi_law_far {K : PySem.W.Frag} {f : Addr} {fd : FuncData} (F : FunD K "_law_far" "_law_far" (defArgs s_law_far) (defBody s_law_far) (defScope s_law_far) [] [] f fd) : ∃ ws ds, Vals ws ds ∧ (∀ B, RepL K B [] ws) ∧ Binds K fd P_law_far ds := bi_N F fun _ _ _ _ _ _ us hl => match us, hl with
  | [_], _ => rfl
theorem bi_law {K : PySem.W.Frag} {f : Addr} {fd : FuncData} (F : FunD K "law" "law" (defArgs s_law) (defBody s_law) (defScope s_law) [] [] f fd) : ∃ ws ds, Vals ws ds ∧ (∀ B, RepL K B [] ws) ∧ Binds K fd P_law ds := bi_N F fun _ _ _ _ _ _ us hl => match us, hl with
  | [_], _ => rfl
def t_kind_of1 : DS := (dRet (dC (.str [111, 116, 104, 101, 114])))
def b_kind_of : DS := (dSeq (dIf (dBinT fEq (dVar 0) (dC (.str [10]))) (dRet (dC (.str [102, 101, 101, 100]))) dNext)
      (dSeq (dIf (dBinT fEq (dVar 0) (dC (.str [32]))) (dRet (dC (.str [98, 108, 97, 110, 107]))) dNext)
      (dSeq (dIf (dBinT (fIn false) (dVar 0) (dC (.str c_DIGITS))) (dRet (dC (.str [100, 105, 103, 105, 116]))) dNext)
      (dSeq (dIf (dOr (dBinT fEq (dVar 0) (dC (.str [95]))) (dOr (dBinT (fIn false) (dVar 0) (dC (.str c_SMALL_LETTERS))) (dBinT (fIn false) (dVar 0) (dC (.str c_GREAT_LETTERS))))) (dRet (dC (.str [108, 101, 116, 116, 101, 114]))) dNext)
      t_kind_of1))))
theorem q_kind_of {P : Program} {w : World} {K : PySem.W.Frag} {mg : Str → Option Value} {base : Heap} {PL : PoolP} {f : Addr} {t_DIGITS : Tok} (g_DIGITS : mg "DIGITS" = some (.str (S c_DIGITS) t_DIGITS)) {t_GREAT_LETTERS : Tok} (g_GREAT_LETTERS : mg "GREAT_LETTERS" = some (.str (S c_GREAT_LETTERS) t_GREAT_LETTERS)) {t_SMALL_LETTERS : Tok} (g_SMALL_LETTERS : mg "SMALL_LETTERS" = some (.str (S c_SMALL_LETTERS) t_SMALL_LETTERS)) {cdv : Value} {A : Around} {outer : List Env} {s : Shared} {H : Hp} {E : XK} (hr : Room 0 (A.deeper (envOfC "kind_of" (defScope s_kind_of) s.heap.objs.size f cdv))) : QSs (cxOf CX0 P w K mg base N_kind_of "kind_of" (defScope s_kind_of) f cdv A outer s H E).nox PL (defBody s_kind_of) b_kind_of := by
  delta b_kind_of t_kind_of1
  exact (qss_cons (qs_if (qt_cmp (opr_eq hr.units) opd_eq (qe_var (pv 0)) (qe_str [10] (by decide +kernel)) (nomark _)) (qss_one (qs_ret (qe_str [102, 101, 101, 100] (by decide +kernel)))) qss_nil)
      (qss_cons (qs_if (qt_cmp (opr_eq hr.units) opd_eq (qe_var (pv 0)) (qe_str [32] (by decide +kernel)) (nomark _)) (qss_one (qs_ret (qe_str [98, 108, 97, 110, 107] (by decide +kernel)))) qss_nil)
      (qss_cons (qs_if (qt_cmp opr_in (opd_in (neg := false)) (qe_var (pv 0)) (qe_glob (d := .str c_DIGITS) (v := .str (S c_DIGITS)) (by rfl) g_DIGITS ⟨_, rfl⟩ (fun _ => by unfold Rep; rfl)) rfl) (qss_one (qs_ret (qe_str [100, 105, 103, 105, 116] (by decide +kernel)))) qss_nil)
      (qss_cons (qs_if (QW.t (qw_or (qt_cmp (opr_eq hr.units) opd_eq (qe_var (pv 0)) (qe_str [95] (by decide +kernel)) (nomark _)) (qw_or (qt_cmp opr_in (opd_in (neg := false)) (qe_var (pv 0)) (qe_glob (d := .str c_SMALL_LETTERS) (v := .str (S c_SMALL_LETTERS)) (by rfl) g_SMALL_LETTERS ⟨_, rfl⟩ (fun _ => by unfold Rep; rfl)) rfl) (qw_or1 (qt_cmp opr_in (opd_in (neg := false)) (qe_var (pv 0)) (qe_glob (d := .str c_GREAT_LETTERS) (v := .str (S c_GREAT_LETTERS)) (by rfl) g_GREAT_LETTERS ⟨_, rfl⟩ (fun _ => by unfold Rep; rfl)) rfl))))) (qss_one (qs_ret (qe_str [108, 101, 116, 116, 101, 114] (by decide +kernel)))) qss_nil)
      (qss_one (qs_ret (qe_str [111, 116, 104, 101, 114] (by decide +kernel))))))))
def t_spot_of1 : DS := (dRet (dTup (lCons (dMt fCount4 (dVar 0) (aCons (dC (.str [10])) (aCons (dC (.int 0)) (aCons (dVar 1) aNil)))) (lCons (dBin fSub (dBin fSub (dVar 1) (dMt fRfind4 (dVar 0) (aCons (dC (.str [10])) (aCons (dC (.int 0)) (aCons (dVar 1) aNil))))) (dC (.int 1))) lNil))))
def b_spot_of : DS := (dSeq (dIf (dBinT fGt (dVar 1) (dCB fLen (aCons (dVar 0) aNil))) dBad dNext)
      t_spot_of1)
theorem q_spot_of {P : Program} {w : World} {K : PySem.W.Frag} {mg : Str → Option Value} {base : Heap} {PL : PoolP} {f : Addr} (z_len : mg "len" = none) {cdv : Value} {A : Around} {outer : List Env} {s : Shared} {H : Hp} {E : XK} (hr : Room 0 (A.deeper (envOfC "spot_of" (defScope s_spot_of) s.heap.objs.size f cdv))) : QSs (cxOf CX0 P w K mg base N_spot_of "spot_of" (defScope s_spot_of) f cdv A outer s H E).nox PL (defBody s_spot_of) b_spot_of := by
  delta b_spot_of t_spot_of1
  exact (qss_cons (qs_if (qt_cmp op_gt opd_gt (qe_var (pv 1)) (qe_cb cr_lenA cd_len (by rfl) z_len (by decide +kernel) (qa_cons (qe_var (pv 0)) qa_nil)) (nomark _)) (qss_one qs_bad) qss_nil)
      (qss_one (qs_ret (qe_tup (ql_cons (qe_mt PySem.F.plainAttrs_str PySem.F.slot_str_count PySem.F.type_str_count mt_count4 mtd_count4 (qe_var (pv 0)) (qa_cons (qe_str [10] (by decide +kernel)) (qa_cons qe_int (qa_cons (qe_var (pv 1)) qa_nil)))) (ql_cons (qe_op op_sub opd_sub (qe_op op_sub opd_sub (qe_var (pv 1)) (qe_mt PySem.F.plainAttrs_str PySem.F.slot_str_rfind PySem.F.type_str_rfind mt_rfind4 mtd_rfind4 (qe_var (pv 0)) (qa_cons (qe_str [10] (by decide +kernel)) (qa_cons qe_int (qa_cons (qe_var (pv 1)) qa_nil))))) qe_int) ql_nil))))))
def l_row_bounds1 : DS := (dSeq (dAsg 5 (dMt fFind3 (dVar 0) (aCons (dC (.str [10])) (aCons (dVar 2) aNil))))
      (dSeq (dIf (dBinT fLt (dVar 5) (dC (.int 0))) dBad dNext)
      (dAsg 2 (dBin fAddT (dVar 5) (dC (.int 1))))))
def t_row_bounds2 : DS := (dRet (dTup (lCons (dVar 2) (lCons (dVar 4) lNil))))
def t_row_bounds3 : DS := (dSeq (dAsg 4 (dMt fFind3 (dVar 0) (aCons (dC (.str [10])) (aCons (dVar 2) aNil))))
      (dSeq (dIf (dBinT fLt (dVar 4) (dC (.int 0))) (dAsg 4 (dCB fLen (aCons (dVar 0) aNil))) dNext)
      t_row_bounds2))
def b_row_bounds : DS := (dSeq (dAsg 2 (dC (.int 0)))
      (dSeq (dFor (dRng1 (lCons (dVar 1) lNil)) (gN 3) l_row_bounds1)
      t_row_bounds3))
theorem q_row_bounds {P : Program} {w : World} {K : PySem.W.Frag} {mg : Str → Option Value} {base : Heap} {PL : PoolP} {f : Addr} (z_len : mg "len" = none) (z_range : mg "range" = none) {cdv : Value} {A : Around} {outer : List Env} {s : Shared} {H : Hp} {E : XK} (hr : Room 0 (A.deeper (envOfC "row_bounds" (defScope s_row_bounds) s.heap.objs.size f cdv))) : QSs (cxOf CX0 P w K mg base N_row_bounds "row_bounds" (defScope s_row_bounds) f cdv A outer s H E).nox PL (defBody s_row_bounds) b_row_bounds := by
  delta b_row_bounds t_row_bounds3 t_row_bounds2 l_row_bounds1
  exact (qss_cons (qs_set (i := 2) qe_int sc_row_bounds.nd rfl (Or.inl rfl))
      (qss_cons (qs_for (qi_rng1 (ql_cons (qe_var (pv 1)) ql_nil) (by rfl) z_range) (qg_name (i := 3) sc_row_bounds.nd rfl (Or.inl rfl)) (qss_cons (qs_set (i := 5) (qe_mt PySem.F.plainAttrs_str PySem.F.slot_str_find PySem.F.type_str_find mt_find3 mtd_find3 (qe_var (pv 0)) (qa_cons (qe_str [10] (by decide +kernel)) (qa_cons (qe_var (pv 2)) qa_nil))) sc_row_bounds.nd rfl (Or.inl rfl))
      (qss_cons (qs_if (qt_cmp op_lt opd_lt (qe_var (pv 5)) qe_int (nomark _)) (qss_one qs_bad) qss_nil)
      (qss_one (qs_set (i := 2) (qe_op opr_addT opd_addT (qe_var (pv 5)) qe_int) sc_row_bounds.nd rfl (Or.inl rfl))))) PassesOwn.never rfl)
      (qss_cons (qs_set (i := 4) (qe_mt PySem.F.plainAttrs_str PySem.F.slot_str_find PySem.F.type_str_find mt_find3 mtd_find3 (qe_var (pv 0)) (qa_cons (qe_str [10] (by decide +kernel)) (qa_cons (qe_var (pv 2)) qa_nil))) sc_row_bounds.nd rfl (Or.inl rfl))
      (qss_cons (qs_if (qt_cmp op_lt opd_lt (qe_var (pv 4)) qe_int (nomark _)) (qss_one (qs_set (i := 4) (qe_cb cr_lenA cd_len (by rfl) z_len (by decide +kernel) (qa_cons (qe_var (pv 0)) qa_nil)) sc_row_bounds.nd rfl (Or.inl rfl))) qss_nil)
      (qss_one (qs_ret (qe_tup (ql_cons (qe_var (pv 2)) (ql_cons (qe_var (pv 4)) ql_nil)))))))))
def b_place_of : DS := (dSeq (dAsgG (gT 2 (gsCons (gN 3) (gsCons (gN 4) gsNil))) (dCall P_row_bounds.length F_row_bounds [] (vCons (dVar 0) (vCons (dVar 1) vNil))))
      (dRet (dCB fMin2 (aCons (dBin fAddT (dVar 3) (dVar 2)) (aCons (dVar 4) aNil)))))
theorem q_place_of {P : Program} {w : World} {K : PySem.W.Frag} {mg : Str → Option Value} {base : Heap} {PL : PoolP} {f : Addr} (D_row_bounds : Def P w K mg base PL CX0 1 "row_bounds" s_row_bounds [] [] P_row_bounds F_row_bounds) (z_min : mg "min" = none) {cdv : Value} {A : Around} {outer : List Env} {s : Shared} {H : Hp} {E : XK} (hr : Room 1 (A.deeper (envOfC "place_of" (defScope s_place_of) s.heap.objs.size f cdv))) : QSs (cxOf CX0 P w K mg base N_place_of "place_of" (defScope s_place_of) f cdv A outer s H E).nox PL (defBody s_place_of) b_place_of := by
  delta b_place_of
  exact (qss_cons (qs_asg (qe_call D_row_bounds rfl rfl rfl rfl rfl bi_row_bounds (qv_cons (qe_var (pv 0)) (qv_cons (qe_var (pv 1)) qv_nil)) (hr.mono (by decide)) (by rfl) pass0) (qg_tup rfl (qgs_cons (qg_name (i := 3) sc_place_of.nd rfl (Or.inl rfl)) (qgs_cons (qg_name (i := 4) sc_place_of.nd rfl (Or.inl rfl)) qgs_nil))))
      (qss_one (qs_ret (qe_cb (call_min2 rfl) cd_min2 (by rfl) z_min (by decide +kernel) (qa_cons (qe_op opr_addT opd_addT (qe_var (pv 3)) (qe_var (pv 2))) (qa_cons (qe_var (pv 4)) qa_nil))))))
def b_to_left : DS := (dRet (dCB fMax2 (aCons (dBin fSub (dVar 1) (dC (.int 1))) (aCons (dC (.int 0)) aNil))))
theorem q_to_left {P : Program} {w : World} {K : PySem.W.Frag} {mg : Str → Option Value} {base : Heap} {PL : PoolP} {f : Addr} (z_max : mg "max" = none) {cdv : Value} {A : Around} {outer : List Env} {s : Shared} {H : Hp} {E : XK} (hr : Room 0 (A.deeper (envOfC "_to_left" (defScope s_to_left) s.heap.objs.size f cdv))) : QSs (cxOf CX0 P w K mg base N_to_left "_to_left" (defScope s_to_left) f cdv A outer s H E).nox PL (defBody s_to_left) b_to_left := by
  delta b_to_left
  exact (qss_one (qs_ret (qe_cb (call_max2 rfl) cd_max2 (by rfl) z_max (by decide +kernel) (qa_cons (qe_op op_sub opd_sub (qe_var (pv 1)) qe_int) (qa_cons qe_int qa_nil)))))
def b_to_right : DS := (dRet (dCB fMin2 (aCons (dBin fAddT (dVar 1) (dC (.int 1))) (aCons (dCB fLen (aCons (dVar 0) aNil)) aNil))))
theorem q_to_right {P : Program} {w : World} {K : PySem.W.Frag} {mg : Str → Option Value} {base : Heap} {PL : PoolP} {f : Addr} (z_len : mg "len" = none) (z_min : mg "min" = none) {cdv : Value} {A : Around} {outer : List Env} {s : Shared} {H : Hp} {E : XK} (hr : Room 0 (A.deeper (envOfC "_to_right" (defScope s_to_right) s.heap.objs.size f cdv))) : QSs (cxOf CX0 P w K mg base N_to_right "_to_right" (defScope s_to_right) f cdv A outer s H E).nox PL (defBody s_to_right) b_to_right := by
  delta b_to_right
  exact (qss_one (qs_ret (qe_cb (call_min2 rfl) cd_min2 (by rfl) z_min (by decide +kernel) (qa_cons (qe_op opr_addT opd_addT (qe_var (pv 1)) qe_int) (qa_cons (qe_cb cr_lenA cd_len (by rfl) z_len (by decide +kernel) (qa_cons (qe_var (pv 0)) qa_nil)) qa_nil)))))
def b_to_line_above : DS := (dSeq (dAsgG (gT 2 (gsCons (gN 2) (gsCons (gN 3) gsNil))) (dCall P_spot_of.length F_spot_of [] (vCons (dVar 0) (vCons (dVar 1) vNil))))
      (dSeq (dIf (dBinT fEq (dVar 2) (dC (.int 0))) (dRet (dVar 1)) dNext)
      (dRet (dCall P_place_of.length F_place_of [] (vCons (dVar 0) (vCons (dBin fSub (dVar 2) (dC (.int 1))) (vCons (dVar 3) vNil)))))))
theorem q_to_line_above {P : Program} {w : World} {K : PySem.W.Frag} {mg : Str → Option Value} {base : Heap} {PL : PoolP} {f : Addr} (D_spot_of : Def P w K mg base PL CX0 1 "spot_of" s_spot_of [] [] P_spot_of F_spot_of) (D_place_of : Def P w K mg base PL CX0 2 "place_of" s_place_of [] [] P_place_of F_place_of) {cdv : Value} {A : Around} {outer : List Env} {s : Shared} {H : Hp} {E : XK} (hr : Room 2 (A.deeper (envOfC "_to_line_above" (defScope s_to_line_above) s.heap.objs.size f cdv))) : QSs (cxOf CX0 P w K mg base N_to_line_above "_to_line_above" (defScope s_to_line_above) f cdv A outer s H E).nox PL (defBody s_to_line_above) b_to_line_above := by
  delta b_to_line_above
  exact (qss_cons (qs_asg (qe_call D_spot_of rfl rfl rfl rfl rfl bi_spot_of (qv_cons (qe_var (pv 0)) (qv_cons (qe_var (pv 1)) qv_nil)) (hr.mono (by decide)) (by rfl) pass0) (qg_tup rfl (qgs_cons (qg_name (i := 2) sc_to_line_above.nd rfl (Or.inl rfl)) (qgs_cons (qg_name (i := 3) sc_to_line_above.nd rfl (Or.inl rfl)) qgs_nil))))
      (qss_cons (qs_if (qt_cmp (opr_eq hr.units) opd_eq (qe_var (pv 2)) qe_int (nomark _)) (qss_one (qs_ret (qe_var (pv 1)))) qss_nil)
      (qss_one (qs_ret (qe_call D_place_of rfl rfl rfl rfl rfl bi_place_of (qv_cons (qe_var (pv 0)) (qv_cons (qe_op op_sub opd_sub (qe_var (pv 2)) qe_int) (qv_cons (qe_var (pv 3)) qv_nil))) (hr.mono (by decide)) (by rfl) pass0)))))
def t_to_line_below1 : DS := (dRet (dCall P_place_of.length F_place_of [] (vCons (dVar 0) (vCons (dBin fAddT (dVar 2) (dC (.int 1))) (vCons (dVar 3) vNil)))))
def b_to_line_below : DS := (dSeq (dAsgG (gT 2 (gsCons (gN 2) (gsCons (gN 3) gsNil))) (dCall P_spot_of.length F_spot_of [] (vCons (dVar 0) (vCons (dVar 1) vNil))))
      (dSeq (dIf (dBinT fEq (dVar 2) (dMt fCount1 (dVar 0) (aCons (dC (.str [10])) aNil))) (dRet (dVar 1)) dNext)
      t_to_line_below1))
theorem q_to_line_below {P : Program} {w : World} {K : PySem.W.Frag} {mg : Str → Option Value} {base : Heap} {PL : PoolP} {f : Addr} (D_spot_of : Def P w K mg base PL CX0 1 "spot_of" s_spot_of [] [] P_spot_of F_spot_of) (D_place_of : Def P w K mg base PL CX0 2 "place_of" s_place_of [] [] P_place_of F_place_of) {cdv : Value} {A : Around} {outer : List Env} {s : Shared} {H : Hp} {E : XK} (hr : Room 2 (A.deeper (envOfC "_to_line_below" (defScope s_to_line_below) s.heap.objs.size f cdv))) : QSs (cxOf CX0 P w K mg base N_to_line_below "_to_line_below" (defScope s_to_line_below) f cdv A outer s H E).nox PL (defBody s_to_line_below) b_to_line_below := by
  delta b_to_line_below t_to_line_below1
  exact (qss_cons (qs_asg (qe_call D_spot_of rfl rfl rfl rfl rfl bi_spot_of (qv_cons (qe_var (pv 0)) (qv_cons (qe_var (pv 1)) qv_nil)) (hr.mono (by decide)) (by rfl) pass0) (qg_tup rfl (qgs_cons (qg_name (i := 2) sc_to_line_below.nd rfl (Or.inl rfl)) (qgs_cons (qg_name (i := 3) sc_to_line_below.nd rfl (Or.inl rfl)) qgs_nil))))
      (qss_cons (qs_if (qt_cmp (opr_eq hr.units) opd_eq (qe_var (pv 2)) (qe_mt PySem.F.plainAttrs_str PySem.F.slot_str_count PySem.F.type_str_count mt_count mtd_count1 (qe_var (pv 0)) (qa_cons (qe_str [10] (by decide +kernel)) qa_nil)) (nomark _)) (qss_one (qs_ret (qe_var (pv 1)))) qss_nil)
      (qss_one (qs_ret (qe_call D_place_of rfl rfl rfl rfl rfl bi_place_of (qv_cons (qe_var (pv 0)) (qv_cons (qe_op opr_addT opd_addT (qe_var (pv 2)) qe_int) (qv_cons (qe_var (pv 3)) qv_nil))) (hr.mono (by decide)) (by rfl) pass0)))))
def b_to_row_home : DS := (dSeq (dAsgG (gT 2 (gsCons (gN 2) (gsCons (gN 3) gsNil))) (dCall P_spot_of.length F_spot_of [] (vCons (dVar 0) (vCons (dVar 1) vNil))))
      (dRet (dBin fIx (dCall P_row_bounds.length F_row_bounds [] (vCons (dVar 0) (vCons (dVar 2) vNil))) (dC (.int 0)))))
theorem q_to_row_home {P : Program} {w : World} {K : PySem.W.Frag} {mg : Str → Option Value} {base : Heap} {PL : PoolP} {f : Addr} (D_spot_of : Def P w K mg base PL CX0 1 "spot_of" s_spot_of [] [] P_spot_of F_spot_of) (D_row_bounds : Def P w K mg base PL CX0 1 "row_bounds" s_row_bounds [] [] P_row_bounds F_row_bounds) {cdv : Value} {A : Around} {outer : List Env} {s : Shared} {H : Hp} {E : XK} (hr : Room 1 (A.deeper (envOfC "_to_row_home" (defScope s_to_row_home) s.heap.objs.size f cdv))) : QSs (cxOf CX0 P w K mg base N_to_row_home "_to_row_home" (defScope s_to_row_home) f cdv A outer s H E).nox PL (defBody s_to_row_home) b_to_row_home := by
  delta b_to_row_home
  exact (qss_cons (qs_asg (qe_call D_spot_of rfl rfl rfl rfl rfl bi_spot_of (qv_cons (qe_var (pv 0)) (qv_cons (qe_var (pv 1)) qv_nil)) (hr.mono (by decide)) (by rfl) pass0) (qg_tup rfl (qgs_cons (qg_name (i := 2) sc_to_row_home.nd rfl (Or.inl rfl)) (qgs_cons (qg_name (i := 3) sc_to_row_home.nd rfl (Or.inl rfl)) qgs_nil))))
      (qss_one (qs_ret (qe_ix ix_seq opd_ix (qe_call D_row_bounds rfl rfl rfl rfl rfl bi_row_bounds (qv_cons (qe_var (pv 0)) (qv_cons (qe_var (pv 2)) qv_nil)) (hr.mono (by decide)) (by rfl) pass0) qe_int (fun _ _ => rfl)))))
def b_to_row_end : DS := (dSeq (dAsgG (gT 2 (gsCons (gN 2) (gsCons (gN 3) gsNil))) (dCall P_spot_of.length F_spot_of [] (vCons (dVar 0) (vCons (dVar 1) vNil))))
      (dRet (dBin fIx (dCall P_row_bounds.length F_row_bounds [] (vCons (dVar 0) (vCons (dVar 2) vNil))) (dC (.int 1)))))
theorem q_to_row_end {P : Program} {w : World} {K : PySem.W.Frag} {mg : Str → Option Value} {base : Heap} {PL : PoolP} {f : Addr} (D_spot_of : Def P w K mg base PL CX0 1 "spot_of" s_spot_of [] [] P_spot_of F_spot_of) (D_row_bounds : Def P w K mg base PL CX0 1 "row_bounds" s_row_bounds [] [] P_row_bounds F_row_bounds) {cdv : Value} {A : Around} {outer : List Env} {s : Shared} {H : Hp} {E : XK} (hr : Room 1 (A.deeper (envOfC "_to_row_end" (defScope s_to_row_end) s.heap.objs.size f cdv))) : QSs (cxOf CX0 P w K mg base N_to_row_end "_to_row_end" (defScope s_to_row_end) f cdv A outer s H E).nox PL (defBody s_to_row_end) b_to_row_end := by
  delta b_to_row_end
  exact (qss_cons (qs_asg (qe_call D_spot_of rfl rfl rfl rfl rfl bi_spot_of (qv_cons (qe_var (pv 0)) (qv_cons (qe_var (pv 1)) qv_nil)) (hr.mono (by decide)) (by rfl) pass0) (qg_tup rfl (qgs_cons (qg_name (i := 2) sc_to_row_end.nd rfl (Or.inl rfl)) (qgs_cons (qg_name (i := 3) sc_to_row_end.nd rfl (Or.inl rfl)) qgs_nil))))
      (qss_one (qs_ret (qe_ix ix_seq opd_ix (qe_call D_row_bounds rfl rfl rfl rfl rfl bi_row_bounds (qv_cons (qe_var (pv 0)) (qv_cons (qe_var (pv 2)) qv_nil)) (hr.mono (by decide)) (by rfl) pass0) qe_int (fun _ _ => rfl)))))
def b_to_text_start : DS := (dRet (dC (.int 0)))
theorem q_to_text_start {P : Program} {w : World} {K : PySem.W.Frag} {mg : Str → Option Value} {base : Heap} {PL : PoolP} {f : Addr}  {cdv : Value} {A : Around} {outer : List Env} {s : Shared} {H : Hp} {E : XK} (hr : Room 0 (A.deeper (envOfC "_to_text_start" (defScope s_to_text_start) s.heap.objs.size f cdv))) : QSs (cxOf CX0 P w K mg base N_to_text_start "_to_text_start" (defScope s_to_text_start) f cdv A outer s H E).nox PL (defBody s_to_text_start) b_to_text_start := by
  delta b_to_text_start
  exact (qss_one (qs_ret qe_int))
def b_to_text_finish : DS := (dRet (dCB fLen (aCons (dVar 0) aNil)))
theorem q_to_text_finish {P : Program} {w : World} {K : PySem.W.Frag} {mg : Str → Option Value} {base : Heap} {PL : PoolP} {f : Addr} (z_len : mg "len" = none) {cdv : Value} {A : Around} {outer : List Env} {s : Shared} {H : Hp} {E : XK} (hr : Room 0 (A.deeper (envOfC "_to_text_finish" (defScope s_to_text_finish) s.heap.objs.size f cdv))) : QSs (cxOf CX0 P w K mg base N_to_text_finish "_to_text_finish" (defScope s_to_text_finish) f cdv A outer s H E).nox PL (defBody s_to_text_finish) b_to_text_finish := by
  delta b_to_text_finish
  exact (qss_one (qs_ret (qe_cb cr_lenA cd_len (by rfl) z_len (by decide +kernel) (qa_cons (qe_var (pv 0)) qa_nil))))
def b_run_kind : DS := (dSeq (dAsg 1 (dCall P_kind_of.length F_kind_of [] (vCons (dVar 0) vNil)))
      (dRet (dIfE (dBinT fEq (dVar 1) (dC (.str [100, 105, 103, 105, 116]))) (dC (.str [108, 101, 116, 116, 101, 114])) (dVar 1))))
theorem q_run_kind {P : Program} {w : World} {K : PySem.W.Frag} {mg : Str → Option Value} {base : Heap} {PL : PoolP} {f : Addr} (D_kind_of : Def P w K mg base PL CX0 1 "kind_of" s_kind_of [] [] P_kind_of F_kind_of) {cdv : Value} {A : Around} {outer : List Env} {s : Shared} {H : Hp} {E : XK} (hr : Room 1 (A.deeper (envOfC "_run_kind" (defScope s_run_kind) s.heap.objs.size f cdv))) : QSs (cxOf CX0 P w K mg base N_run_kind "_run_kind" (defScope s_run_kind) f cdv A outer s H E).nox PL (defBody s_run_kind) b_run_kind := by
  delta b_run_kind
  exact (qss_cons (qs_set (i := 1) (qe_call D_kind_of rfl rfl rfl rfl rfl bi_kind_of (qv_cons (qe_var (pv 0)) qv_nil) (hr.mono (by decide)) (by rfl) pass0) sc_run_kind.nd rfl (Or.inl rfl))
      (qss_one (qs_ret (qe_if (qt_cmp (opr_eq hr.units) opd_eq (qe_var (pv 1)) (qe_str [100, 105, 103, 105, 116] (by decide +kernel)) (nomark _)) (qe_str [108, 101, 116, 116, 101, 114] (by decide +kernel)) (qe_var (pv 1))))))
def l_on_over1 : DS := (dAug 1 fAddI (dC (.int 1)))
def t_on_over2 : DS := (dRet (dVar 1))
def b_on_over : DS := (dSeq (dWhile (dAnd (dBinT fLt (dVar 1) (dCB fLen (aCons (dVar 0) aNil))) (dBinT fEq (dCall P_run_kind.length F_run_kind [] (vCons (dBin fIx (dVar 0) (dVar 1)) vNil)) (dVar 2))) l_on_over1)
      t_on_over2)
theorem q_on_over {P : Program} {w : World} {K : PySem.W.Frag} {mg : Str → Option Value} {base : Heap} {PL : PoolP} {f : Addr} (D_run_kind : Def P w K mg base PL CX0 2 "_run_kind" s_run_kind [] [] P_run_kind F_run_kind) (z_len : mg "len" = none) {cdv : Value} {A : Around} {outer : List Env} {s : Shared} {H : Hp} {E : XK} (hr : Room 2 (A.deeper (envOfC "_on_over" (defScope s_on_over) s.heap.objs.size f cdv))) : QSs (cxOf CX0 P w K mg base N_on_over "_on_over" (defScope s_on_over) f cdv A outer s H E).nox PL (defBody s_on_over) b_on_over := by
  delta b_on_over t_on_over2 l_on_over1
  exact (qss_cons (qs_while (QW.t (qw_and (qt_cmp op_lt opd_lt (qe_var (pv 1)) (qe_cb cr_lenA cd_len (by rfl) z_len (by decide +kernel) (qa_cons (qe_var (pv 0)) qa_nil)) (nomark _)) (qw_and1 (qt_cmp (opr_eq hr.units) opd_eq (qe_call D_run_kind rfl rfl rfl rfl rfl bi_run_kind (qv_cons (qe_ix ix_seq opd_ix (qe_var (pv 0)) (qe_var (pv 1)) (fun _ _ => rfl)) qv_nil) (hr.mono (by decide)) (by rfl) pass0) (qe_var (pv 2)) (nomark _))))) (qss_one (qs_aug (i := 1) (f := fAddI) qe_int sc_on_over.nd rfl (Or.inl rfl) ip_add opd_I0)) PassesOwn.never)
      (qss_one (qs_ret (qe_var (pv 1)))))
def l_back_over1 : DS := (dAug 1 fSub (dC (.int 1)))
def t_back_over2 : DS := (dRet (dVar 1))
def b_back_over : DS := (dSeq (dWhile (dAnd (dBinT fGt (dVar 1) (dC (.int 0))) (dBinT fEq (dCall P_run_kind.length F_run_kind [] (vCons (dBin fIx (dVar 0) (dBin fSub (dVar 1) (dC (.int 1)))) vNil)) (dVar 2))) l_back_over1)
      t_back_over2)
theorem q_back_over {P : Program} {w : World} {K : PySem.W.Frag} {mg : Str → Option Value} {base : Heap} {PL : PoolP} {f : Addr} (D_run_kind : Def P w K mg base PL CX0 2 "_run_kind" s_run_kind [] [] P_run_kind F_run_kind) {cdv : Value} {A : Around} {outer : List Env} {s : Shared} {H : Hp} {E : XK} (hr : Room 2 (A.deeper (envOfC "_back_over" (defScope s_back_over) s.heap.objs.size f cdv))) : QSs (cxOf CX0 P w K mg base N_back_over "_back_over" (defScope s_back_over) f cdv A outer s H E).nox PL (defBody s_back_over) b_back_over := by
  delta b_back_over t_back_over2 l_back_over1
  exact (qss_cons (qs_while (QW.t (qw_and (qt_cmp op_gt opd_gt (qe_var (pv 1)) qe_int (nomark _)) (qw_and1 (qt_cmp (opr_eq hr.units) opd_eq (qe_call D_run_kind rfl rfl rfl rfl rfl bi_run_kind (qv_cons (qe_ix ix_seq opd_ix (qe_var (pv 0)) (qe_op op_sub opd_sub (qe_var (pv 1)) qe_int) (fun _ _ => rfl)) qv_nil) (hr.mono (by decide)) (by rfl) pass0) (qe_var (pv 2)) (nomark _))))) (qss_one (qs_aug (i := 1) (f := fSub) qe_int sc_back_over.nd rfl (Or.inl rfl) ip_sub opd_I0)) PassesOwn.never)
      (qss_one (qs_ret (qe_var (pv 1)))))
def t_to_next_word1 : DS := (dRet (dCall P_on_over.length F_on_over [] (vCons (dVar 0) (vCons (dVar 1) (vCons (dC (.str [98, 108, 97, 110, 107])) vNil)))))
def t_to_next_word2 : DS := (dSeq (dAsg 2 (dCall P_run_kind.length F_run_kind [] (vCons (dBin fIx (dVar 0) (dVar 1)) vNil)))
      (dSeq (dIf (dBinT fEq (dVar 2) (dC (.str [102, 101, 101, 100]))) (dRet (dBin fAddT (dVar 1) (dC (.int 1)))) dNext)
      (dSeq (dIf (dBinT fNe (dVar 2) (dC (.str [98, 108, 97, 110, 107]))) (dAsg 1 (dCall P_on_over.length F_on_over [] (vCons (dVar 0) (vCons (dVar 1) (vCons (dVar 2) vNil))))) dNext)
      t_to_next_word1)))
def b_to_next_word : DS := (dSeq (dIf (dBinT fEq (dVar 1) (dCB fLen (aCons (dVar 0) aNil))) (dRet (dVar 1)) dNext)
      t_to_next_word2)
theorem q_to_next_word {P : Program} {w : World} {K : PySem.W.Frag} {mg : Str → Option Value} {base : Heap} {PL : PoolP} {f : Addr} (D_run_kind : Def P w K mg base PL CX0 2 "_run_kind" s_run_kind [] [] P_run_kind F_run_kind) (D_on_over : Def P w K mg base PL CX0 3 "_on_over" s_on_over [] [] P_on_over F_on_over) (z_len : mg "len" = none) {cdv : Value} {A : Around} {outer : List Env} {s : Shared} {H : Hp} {E : XK} (hr : Room 3 (A.deeper (envOfC "_to_next_word" (defScope s_to_next_word) s.heap.objs.size f cdv))) : QSs (cxOf CX0 P w K mg base N_to_next_word "_to_next_word" (defScope s_to_next_word) f cdv A outer s H E).nox PL (defBody s_to_next_word) b_to_next_word := by
  delta b_to_next_word t_to_next_word2 t_to_next_word1
  exact (qss_cons (qs_if (qt_cmp (opr_eq hr.units) opd_eq (qe_var (pv 1)) (qe_cb cr_lenA cd_len (by rfl) z_len (by decide +kernel) (qa_cons (qe_var (pv 0)) qa_nil)) (nomark _)) (qss_one (qs_ret (qe_var (pv 1)))) qss_nil)
      (qss_cons (qs_set (i := 2) (qe_call D_run_kind rfl rfl rfl rfl rfl bi_run_kind (qv_cons (qe_ix ix_seq opd_ix (qe_var (pv 0)) (qe_var (pv 1)) (fun _ _ => rfl)) qv_nil) (hr.mono (by decide)) (by rfl) pass0) sc_to_next_word.nd rfl (Or.inl rfl))
      (qss_cons (qs_if (qt_cmp (opr_eq hr.units) opd_eq (qe_var (pv 2)) (qe_str [102, 101, 101, 100] (by decide +kernel)) (nomark _)) (qss_one (qs_ret (qe_op opr_addT opd_addT (qe_var (pv 1)) qe_int))) qss_nil)
      (qss_cons (qs_if (qt_cmp (opr_ne hr.units) opd_ne (qe_var (pv 2)) (qe_str [98, 108, 97, 110, 107] (by decide +kernel)) (nomark _)) (qss_one (qs_set (i := 1) (qe_call D_on_over rfl rfl rfl rfl rfl bi_on_over (qv_cons (qe_var (pv 0)) (qv_cons (qe_var (pv 1)) (qv_cons (qe_var (pv 2)) qv_nil))) (hr.mono (by decide)) (by rfl) pass0) sc_to_next_word.nd rfl (Or.inl rfl))) qss_nil)
      (qss_one (qs_ret (qe_call D_on_over rfl rfl rfl rfl rfl bi_on_over (qv_cons (qe_var (pv 0)) (qv_cons (qe_var (pv 1)) (qv_cons (qe_str [98, 108, 97, 110, 107] (by decide +kernel)) qv_nil))) (hr.mono (by decide)) (by rfl) pass0)))))))
def t_to_word_before1 : DS := (dSeq (dAsg 1 (dCall P_back_over.length F_back_over [] (vCons (dVar 0) (vCons (dVar 1) (vCons (dC (.str [98, 108, 97, 110, 107])) vNil)))))
      (dSeq (dIf (dBinT fEq (dVar 1) (dC (.int 0))) (dRet (dVar 1)) dNext)
      (dSeq (dAsg 2 (dCall P_run_kind.length F_run_kind [] (vCons (dBin fIx (dVar 0) (dBin fSub (dVar 1) (dC (.int 1)))) vNil)))
      (dRet (dIfE (dBinT fEq (dVar 2) (dC (.str [102, 101, 101, 100]))) (dVar 1) (dCall P_back_over.length F_back_over [] (vCons (dVar 0) (vCons (dVar 1) (vCons (dVar 2) vNil)))))))))
def b_to_word_before : DS := (dSeq (dIf (dBinT fEq (dVar 1) (dC (.int 0))) (dRet (dVar 1)) dNext)
      (dSeq (dIf (dBinT fEq (dCall P_run_kind.length F_run_kind [] (vCons (dBin fIx (dVar 0) (dBin fSub (dVar 1) (dC (.int 1)))) vNil)) (dC (.str [102, 101, 101, 100]))) (dRet (dBin fSub (dVar 1) (dC (.int 1)))) dNext)
      t_to_word_before1))
theorem q_to_word_before {P : Program} {w : World} {K : PySem.W.Frag} {mg : Str → Option Value} {base : Heap} {PL : PoolP} {f : Addr} (D_back_over : Def P w K mg base PL CX0 3 "_back_over" s_back_over [] [] P_back_over F_back_over) (D_run_kind : Def P w K mg base PL CX0 2 "_run_kind" s_run_kind [] [] P_run_kind F_run_kind) {cdv : Value} {A : Around} {outer : List Env} {s : Shared} {H : Hp} {E : XK} (hr : Room 3 (A.deeper (envOfC "_to_word_before" (defScope s_to_word_before) s.heap.objs.size f cdv))) : QSs (cxOf CX0 P w K mg base N_to_word_before "_to_word_before" (defScope s_to_word_before) f cdv A outer s H E).nox PL (defBody s_to_word_before) b_to_word_before := by
  delta b_to_word_before t_to_word_before1
  exact (qss_cons (qs_if (qt_cmp (opr_eq hr.units) opd_eq (qe_var (pv 1)) qe_int (nomark _)) (qss_one (qs_ret (qe_var (pv 1)))) qss_nil)
      (qss_cons (qs_if (qt_cmp (opr_eq hr.units) opd_eq (qe_call D_run_kind rfl rfl rfl rfl rfl bi_run_kind (qv_cons (qe_ix ix_seq opd_ix (qe_var (pv 0)) (qe_op op_sub opd_sub (qe_var (pv 1)) qe_int) (fun _ _ => rfl)) qv_nil) (hr.mono (by decide)) (by rfl) pass0) (qe_str [102, 101, 101, 100] (by decide +kernel)) (nomark _)) (qss_one (qs_ret (qe_op op_sub opd_sub (qe_var (pv 1)) qe_int))) qss_nil)
      (qss_cons (qs_set (i := 1) (qe_call D_back_over rfl rfl rfl rfl rfl bi_back_over (qv_cons (qe_var (pv 0)) (qv_cons (qe_var (pv 1)) (qv_cons (qe_str [98, 108, 97, 110, 107] (by decide +kernel)) qv_nil))) (hr.mono (by decide)) (by rfl) pass0) sc_to_word_before.nd rfl (Or.inl rfl))
      (qss_cons (qs_if (qt_cmp (opr_eq hr.units) opd_eq (qe_var (pv 1)) qe_int (nomark _)) (qss_one (qs_ret (qe_var (pv 1)))) qss_nil)
      (qss_cons (qs_set (i := 2) (qe_call D_run_kind rfl rfl rfl rfl rfl bi_run_kind (qv_cons (qe_ix ix_seq opd_ix (qe_var (pv 0)) (qe_op op_sub opd_sub (qe_var (pv 1)) qe_int) (fun _ _ => rfl)) qv_nil) (hr.mono (by decide)) (by rfl) pass0) sc_to_word_before.nd rfl (Or.inl rfl))
      (qss_one (qs_ret (qe_if (qt_cmp (opr_eq hr.units) opd_eq (qe_var (pv 2)) (qe_str [102, 101, 101, 100] (by decide +kernel)) (nomark _)) (qe_var (pv 1)) (qe_call D_back_over rfl rfl rfl rfl rfl bi_back_over (qv_cons (qe_var (pv 0)) (qv_cons (qe_var (pv 1)) (qv_cons (qe_var (pv 2)) qv_nil))) (hr.mono (by decide)) (by rfl) pass0)))))))))
def t_moved1 : DS := (dDisp 3 2 tab_MOTIONS 2 (vCons (dVar 0) (vCons (dVar 1) vNil)))
def b_moved : DS := (dSeq (dIf (dBinT fGt (dVar 1) (dCB fLen (aCons (dVar 0) aNil))) (dRaise "BadPlace" ["at"] (lCons (dVar 1) lNil)) dNext)
      t_moved1)
theorem q_moved {P : Program} {w : World} {K : PySem.W.Frag} {mg : Str → Option Value} {base : Heap} {PL : PoolP} {f : Addr} (I_BadPlace : IniX P w K mg base 1 "BadPlace" "at") (z_len : mg "len" = none) (g_MOTIONS : mg "_MOTIONS" = some (.ref (He.ga K "_MOTIONS"))) (T_MOTIONS : DispOk P w K mg base PL 4 2 (He.ga K "_MOTIONS") tab_MOTIONS) {cdv : Value} {A : Around} {outer : List Env} {s : Shared} {H : Hp} {E : XK} (hr : Room 4 (A.deeper (envOfC "moved" (defScope s_moved) s.heap.objs.size f cdv))) : RSs (cxOf (L2N.CX P w) P w K mg base N_moved "moved" (defScope s_moved) f cdv A outer s H E) PL (fun cls d _ H => E cls d H) (defBody s_moved) b_moved := by
  delta b_moved t_moved1
  exact (rss_cons (rs_if (qt_cmp op_gt opd_gt (qe_var (pv 1)) (qe_cb cr_lenA cd_len (by rfl) z_len (by decide +kernel) (qa_cons (qe_var (pv 0)) qa_nil)) (nomark _)) (rss_one (rs_raise1 I_BadPlace rfl rfl rfl rfl rfl rfl (ql_cons (qe_var (pv 1)) ql_nil) (hr.mono (by decide)) (by rfl) takesC)) rss_nil)
      (rss_of (qss_disp (mi := 3) (wi := 2) T_MOTIONS sc_moved.nd rfl rfl (Or.inl rfl) (Or.inl rfl) (by rfl) g_MOTIONS (qv_cons (qe_var (pv 0)) (qv_cons (qe_var (pv 1)) qv_nil)) (hr.mono (by decide)) (hx := fun _ _ => rfl))))
theorem raw_law_draws {P : Program} {w : World} {K : PySem.W.Frag} {mg : Str → Option Value} {base : Heap} {qual : Str} {f : Addr} {fd : FuncData} (Fn : FunD K "_law_draws" qual (defArgs s_law_draws) (defBody s_law_draws) (defScope s_law_draws) [] [] f fd) (z_abs : mg "abs" = none) (z_int : mg "int" = none) : FnOk P w K mg base CX0 1 f fd P_law_draws (spC K flowPL P_law_draws.length F_boxNew) := by
  refine Fn.ok sc_law_draws (fun vs H Q E h => ?_) fun cdv A outer s H vs Q E hr h => ?_
  · obtain ⟨B, as, fs, R, h1, _, h3, _⟩ := h
    rw [← h3.1, h1]
  · obtain ⟨p, ns, rfl, hp, hl, fin⟩ := flow_new h
    have nd := sc_law_draws.nd
    refine ⟨_, PSs.nox (pss_cons (ps_set (i := 1) nd rfl (Or.inl rfl) pe_int)
      (pss_cons (ps_set (i := 2) nd rfl (Or.inl rfl) (pe_lst pa_nil))
      (pss_cons (ps_for PassesOwn.never rfl (pi_list (pv 0)) (pg_name (i := 3) nd rfl (Or.inl rfl))
        (pss_cons (ps_set (i := 4) nd rfl (Or.inl rfl) (pe_op op_add (pe_op op_mul (pe_callB call_abs (by rfl) z_abs (by decide +kernel) (pa_cons (pe_callTy call_int1 (by rfl) z_int (by decide +kernel) (pa_cons (pv 3) pa_nil)) pa_nil)) pe_int) (pe_callTy call_int1 (by rfl) z_int (by decide +kernel) (pa_cons (pe_cmpR op_lt (pe_callTy call_int1 (by rfl) z_int (by decide +kernel) (pa_cons (pv 3) pa_nil)) pe_int (nomark _)) pa_nil))))
        (pss_cons (ps_set (i := 1) nd rfl (Or.inl rfl) (pe_op op_mod (pe_callTy call_int1 (by rfl) z_int (by decide +kernel) (pa_cons (pe_op op_add (pe_op op_add (pe_op op_mul (pv 1) pe_int) (pe_op op_mod (pe_callTy call_int1 (by rfl) z_int (by decide +kernel) (pa_cons (pv 4) pa_nil)) pe_int)) pe_int) pa_nil)) pe_int))
        (pss_one (ps_if (pt_cmpR op_ge (pv 4) pe_int (nomark _)) (pss_one (ps_expr (pe_bm PySem.F.plainAttrs_list PySem.F.slot_list_append PySem.F.type_list_append mt_append (pv 2) (pa_cons (pv 4) pa_nil)))) pss_nil)))))
      (pss_one (ps_ret (pe_lst (pa_cons (pv 1) (pa_cons pe_int (pa_cons (pv 2) pa_nil))))))))), ?_⟩
    refine ⟨by show 0 ≤ sizeLine; exact Nat.zero_le _, fun q hq => ?_⟩
    refine ⟨_, rfl, p, rfl, ⟨_, Same.seq (Same.new hq) hp⟩, for_list (xs := ns.map V.int) (fun k σ H1 => ∃ (st : Int) (hs : List Int) (v3 v4 : Option V), σ = [some (.ref p), some (.int st), some (.ref q), v3, v4] ∧ hs.length ≤ k ∧ H1 q = some (.lst (hs.map V.int)) ∧ ∀ x, x ≠ q → H1 x = H x) ?_ ?_ ?_ ?_⟩
    · exact ⟨_, [], _, _, rfl, Nat.le_refl _, upd_same, fun x hx => upd_ne hx⟩
    · rintro k σ H1 hk ⟨st, hs, v3, v4, rfl, h1, h2, h3⟩
      refine Same.seq (fun x o e => ?_) hp
      rw [h3 x (fun z => by rw [z, hq] at e; cases e)]
      exact e
    · rintro k x σ H1 hx ⟨st, hs, v3, v4, rfl, h1, h2, h3⟩
      have hkl := (List.getElem?_eq_some_iff.mp hx).1
      rw [List.length_map] at hkl
      rw [List.getElem?_map] at hx
      cases g : ns[k]? with
      | none => rw [g] at hx; cases hx
      | some n =>
      rw [g] at hx
      cases hx
      refine ⟨_, rfl, .inl ⟨_, rfl, n, rfl, _, _, rfl, rfl, .inr ⟨by decide, by decide⟩, _, rfl, .inl ⟨_, rfl, _, _, rfl, rfl, .inr ⟨_, rfl, _, _, rfl, rfl, ?_⟩⟩⟩⟩
      refine ⟨_, rfl, _, _, rfl, rfl, .inr ⟨by decide, by decide⟩, _, rfl, .inl ⟨_, rfl, _, _, rfl, rfl, (by show (0 : Int) < 991027; decide), _, _, rfl, rfl, _, _, rfl, rfl, .inl ⟨_, rfl, _, _, rfl, rfl, (by show (0 : Int) < 2147483563; decide), ?_⟩⟩⟩
      refine ⟨_, rfl, _, _, rfl, rfl, _, rfl, ite2 (fun _ => ?_) (fun _ => ?_)⟩
      · refine ⟨_, rfl, .inl ⟨rfl, _, SqL.of h2⟩, _, rfl, q, _, _, rfl, rfl, h2, by rw [List.length_map]; exact Nat.lt_of_lt_of_le (show hs.length < 10000000 by omega) (by rw [sizeLine_eq]; decide), ?_⟩
        refine ⟨_, hs ++ [(if n < 0 then -n else n) * 2 + if decide (n < 0) = true then 1 else 0], _, _, rfl, by rw [List.length_append, List.length_singleton]; omega, ?_, fun x hx => ?_⟩
        · rw [upd_same, List.map_append]
          rfl
        · rw [upd_ne hx]
          exact h3 x hx
      · exact ⟨_, hs, _, _, rfl, by omega, h2, h3⟩
    · rintro σ H1 ⟨st, hs, v3, v4, rfl, h1, h2, h3⟩
      rw [List.length_map] at h1
      refine ⟨_, rfl, _, rfl, (by show 3 ≤ sizeLine; rw [sizeLine_eq]; decide), fun a ha => ?_⟩
      have haq : a ≠ q := fun e => by rw [e, h2] at ha; cases ha
      refine fin a q _ st 0 hs haq ?_ hq upd_same ?_ h1 fun x hx hxq => ?_
      · rw [← h3 a haq]
        exact ha
      · rw [upd_ne (fun e => haq e.symm)]
        exact h2
      · rw [upd_ne hx]
        exact h3 x hxq

theorem raw_law_take {P : Program} {w : World} {K : PySem.W.Frag} {mg : Str → Option Value} {base : Heap} {qual : Str} {f : Addr} {fd : FuncData} (Fn : FunD K "_law_take" qual (defArgs s_law_take) (defBody s_law_take) (defScope s_law_take) [] [] f fd) (z_len : mg "len" = none) (z_int : mg "int" = none) : FnOk P w K mg base CX0 1 f fd P_law_take (spC K flowPL P_law_take.length F_law_take) := by
  refine Fn.ok sc_law_take (fun vs H Q E h => ?_) fun cdv A outer s H vs Q E hr h => ?_
  · obtain ⟨B, as, fs, R, h1, _, h3, _⟩ := h
    rw [← h3.1, h1]
  · obtain ⟨a, bq, st, ct, hs, m, rfl, hne, ha, hb, hm1, hm2, fin⟩ := flow_pick h
    have nd := sc_law_take.nd
    refine ⟨_, pss_cons (ps_set (i := 2) nd rfl (Or.inl rfl) (pe_ix ix_list (pv 0) pe_int (fun _ _ => rfl)))
      (pss_cons (ps_if (pt_cmpR op_gt (pe_callB call_len_seq (by rfl) z_len PySem.boot_len (pa_cons (pv 2) pa_nil)) pe_int (nomark _))
        (pss_cons (ps_set (i := 3) nd rfl (Or.inl rfl) (pe_op op_mod (pe_callTy call_int1 (by rfl) z_int (by decide +kernel) (pa_cons (pe_ix ix_list (pv 2) pe_int (fun _ _ => rfl)) pa_nil)) (pv 1)))
          (pss_cons (ps_asg (pe_op op_fdiv (pe_ix ix_list (pv 2) pe_int (fun _ _ => rfl)) (pv 1)) (pg_sub (pv 2) pe_int set_list))
          (pss_cons (ps_if (pt_cmpR op_eq (pe_ix ix_list (pv 2) pe_int (fun _ _ => rfl)) pe_int (nomark _))
            (pss_one (ps_expr (pe_bm PySem.F.plainAttrs_list PySem.F.slot_list_pop PySem.F.type_list_pop mt_popAt (pv 2) (pa_cons pe_int pa_nil)))) pss_nil)
          (pss_one (ps_ret (pv 3)))))) pss_nil)
      (pss_cons (ps_asg (pe_op op_add (pe_ix ix_list (pv 0) pe_int (fun _ _ => rfl)) pe_int) (pg_sub (pv 0) pe_int set_list))
      (pss_cons (ps_asg (pe_op op_mod (pe_callTy call_int1 (by rfl) z_int (by decide +kernel) (pa_cons (pe_op op_add (pe_op op_add (pe_op op_mul (pe_ix ix_list (pv 0) pe_int (fun _ _ => rfl)) pe_int) (pe_op op_mul (pe_ix ix_list (pv 0) pe_int (fun _ _ => rfl)) pe_int)) pe_int) pa_nil)) pe_int) (pg_sub (pv 0) pe_int set_list))
      (pss_one (ps_ret (pe_op op_mod (pe_callTy call_int1 (by rfl) z_int (by decide +kernel) (pa_cons (pe_op op_mod (pe_callTy call_int1 (by rfl) z_int (by decide +kernel) (pa_cons (pe_op op_add (pe_op op_fdiv (pe_ix ix_list (pv 0) pe_int (fun _ _ => rfl)) pe_int) (pe_op op_mul (pe_ix ix_list (pv 0) pe_int (fun _ _ => rfl)) pe_int)) pa_nil)) pe_int) pa_nil)) (pv 1))))))), ?_⟩
    have hba : bq ≠ a := fun e => hne e.symm
    refine ⟨_, rfl, a, _, 2, .ref bq, rfl, rfl, SqL.of ha, rfl, ?_⟩
    refine ⟨_, rfl, bq, _, rfl, .inl (SqL.of hb), _, _, rfl, rfl, _, rfl, ?_⟩
    refine ite2 (fun hp => ?_) (fun hp => ?_)
    · obtain ⟨x, hs, rfl⟩ : ∃ x l, hs = x :: l := by
        cases hs with
        | nil => simp at hp
        | cons x l => exact ⟨x, l, rfl⟩
      refine ⟨_, rfl, bq, _, 0, .int x, rfl, rfl, SqL.of hb, atI_nat (j := 0) rfl, .inl ⟨_, rfl, _, rfl, _, _, rfl, rfl, by omega, ?_⟩⟩
      refine ⟨_, rfl, bq, _, 0, .int x, rfl, rfl, SqL.of hb, atI_nat (j := 0) rfl, _, rfl, _, _, rfl, rfl, ⟨by omega, by omega⟩, ?_⟩
      refine ⟨_, rfl, bq, _, 0, 0, rfl, rfl, hb, ixN_ok (m := 0) rfl (by simp), ?_⟩
      refine ⟨_, rfl, bq, _, 0, .int (x / m), rfl, rfl, SqL.of upd_same, atI_nat (j := 0) rfl, ?_⟩
      have hr0 := Int.emod_nonneg x (show m ≠ 0 by omega)
      have hr1 := Int.emod_lt_of_pos x (show 0 < m by omega)
      refine ⟨rfl, _, rfl, ite2 (fun hz => ?_) (fun hz => ?_)⟩
      · refine ⟨_, rfl, .inl ⟨rfl, _, SqL.of upd_same⟩, bq, _, 0, 0, _, rfl, rfl, upd_same, by omega, by omega, sx0 (by simp), rfl, ?_⟩
        refine ⟨_, rfl, ?_⟩
        refine fin _ _ st ct hs hr0 hr1 ?_ upd_same (by simp) fun y y1 y2 => ?_
        · rw [upd_ne hne, upd_ne hne]
          exact ha
        · rw [upd_ne y2, upd_ne y2]
      · refine ⟨_, rfl, ?_⟩
        refine fin _ _ st ct ((x / m) :: hs) hr0 hr1 ?_ upd_same (by simp) fun y y1 y2 => ?_
        · rw [upd_ne hne]
          exact ha
        · rw [upd_ne y2]
    · refine ⟨_, rfl, a, _, 1, .int ct, rfl, rfl, SqL.of ha, atI_nat (j := 1) rfl, _, _, rfl, rfl, _, rfl, a, _, 1, 1, rfl, rfl, ha, ixN_ok (m := 1) rfl (by simp), ?_⟩
      refine ⟨_, rfl, a, _, 0, .int st, rfl, rfl, SqL.of upd_same, atI_nat (j := 0) rfl, _, _, rfl, rfl, .inr ⟨by decide, by decide⟩, _, rfl, a, _, 1, .int (ct + 1), rfl, rfl, SqL.of upd_same, atI_nat (j := 1) rfl, _, _, rfl, rfl, .inr ⟨by decide, by decide⟩, _, _, rfl, rfl, _, _, rfl, rfl, .inl ⟨_, rfl, _, _, rfl, rfl, (by show (0 : Int) < 2147483563; decide), ?_⟩⟩
      refine ⟨_, rfl, a, _, 0, 0, rfl, rfl, upd_same, ixN_ok (m := 0) rfl (by simp), ?_⟩
      refine ⟨_, rfl, a, _, 0, .int _, rfl, rfl, SqL.of upd_same, atI_nat (j := 0) rfl, _, _, rfl, rfl, ⟨by decide, by decide⟩, _, rfl, a, _, 0, .int _, rfl, rfl, SqL.of upd_same, atI_nat (j := 0) rfl, _, _, rfl, rfl, .inr ⟨by decide, by decide⟩, _, _, rfl, rfl, .inl ⟨_, rfl, _, _, rfl, rfl, (by show (0 : Int) < 1000081; decide), .inl ⟨_, rfl, _, rfl, _, _, rfl, rfl, by omega, ?_⟩⟩⟩
      refine fin _ _ _ (ct + 1) hs (Int.emod_nonneg _ (by omega)) (Int.emod_lt_of_pos _ (by omega)) upd_same ?_ (Nat.le_refl _) fun y y1 y2 => ?_
      · rw [upd_ne hba, upd_ne hba]
        exact hb
      · rw [upd_ne y1, upd_ne y1]

def b_law_classes : DS := (dSeq (dAsg 0 (dC (.str [97, 98, 99, 100, 101, 102, 103, 104, 105, 106, 107, 108, 109, 110, 111, 112, 113, 114, 115, 116, 117, 118, 119, 120, 121, 122, 65, 66, 67, 68, 69, 70, 71, 72, 73, 74, 75, 76, 77, 78, 79, 80, 81, 82, 83, 84, 85, 86, 87, 88, 89, 90, 95])))
      (dSeq (dAsg 1 (dC (.str [33, 34, 35, 36, 38, 39, 40, 41, 42, 43, 44, 45, 46, 47, 58, 59, 60, 61, 62, 63, 64, 91, 92, 93, 94, 96, 123, 124, 125, 126])))
      (dRet (dLst (lCons (dBin fAddT (dVar 0) (dC (.str [48, 49, 50, 51, 52, 53, 54, 55, 56, 57]))) (lCons (dVar 1) (lCons (dC (.str [32])) (lCons (dC (.str [10])) lNil))))))))
theorem q_law_classes {P : Program} {w : World} {K : PySem.W.Frag} {mg : Str → Option Value} {base : Heap} {PL : PoolP} {f : Addr}  {cdv : Value} {A : Around} {outer : List Env} {s : Shared} {H : Hp} {E : XK} (hr : Room 0 (A.deeper (envOfC "_law_classes" (defScope s_law_classes) s.heap.objs.size f cdv))) : QSs (cxOf CX0 P w K mg base N_law_classes "_law_classes" (defScope s_law_classes) f cdv A outer s H E).nox PL (defBody s_law_classes) b_law_classes := by
  delta b_law_classes
  exact (qss_cons (qs_set (i := 0) (qe_str [97, 98, 99, 100, 101, 102, 103, 104, 105, 106, 107, 108, 109, 110, 111, 112, 113, 114, 115, 116, 117, 118, 119, 120, 121, 122, 65, 66, 67, 68, 69, 70, 71, 72, 73, 74, 75, 76, 77, 78, 79, 80, 81, 82, 83, 84, 85, 86, 87, 88, 89, 90, 95] (by decide +kernel)) sc_law_classes.nd rfl (Or.inl rfl))
      (qss_cons (qs_set (i := 1) (qe_str [33, 34, 35, 36, 38, 39, 40, 41, 42, 43, 44, 45, 46, 47, 58, 59, 60, 61, 62, 63, 64, 91, 92, 93, 94, 96, 123, 124, 125, 126] (by decide +kernel)) sc_law_classes.nd rfl (Or.inl rfl))
      (qss_one (qs_ret (qe_lst (ql_cons (qe_op opr_addT opd_addT (qe_var (pv 0)) (qe_str [48, 49, 50, 51, 52, 53, 54, 55, 56, 57] (by decide +kernel))) (ql_cons (qe_var (pv 1)) (ql_cons (qe_str [32] (by decide +kernel)) (ql_cons (qe_str [10] (by decide +kernel)) ql_nil)))))))))
def l_law_text1 : DS := (dIf (dBinT fLt (dCB fLen (aCons (dVar 3) aNil)) (dVar 1)) (dAsg 3 (dBin fAddT (dVar 3) (dBin fIx (dVar 6) (dCall P_law_take.length F_law_take [] (vOwn 0 (vCons (dCB fLen (aCons (dVar 6) aNil)) vNil)))))) dNext)
def t_law_text2 : DS := (dIf (dBinT fEq (dCB fLen (aCons (dVar 3) aNil)) (dVar 1)) dBreak dNext)
def t_law_text3 : DS := (dSeq (dFor (dRng1 (lCons (dBin fAddT (dC (.int 1)) (dCall P_law_take.length F_law_take [] (vOwn 0 (vCons (dC (.int 3)) vNil)))) lNil)) (gN 7) l_law_text1)
      t_law_text2)
def l_law_text4 : DS := (dSeq (dAsg 5 (dBin fIx (dLst (lCons (dC (.int 0)) (lCons (dC (.int 0)) (lCons (dC (.int 0)) (lCons (dC (.int 1)) (lCons (dC (.int 1)) (lCons (dC (.int 2)) (lCons (dC (.int 2)) (lCons (dC (.int 3)) lNil))))))))) (dCall P_law_take.length F_law_take [] (vOwn 0 (vCons (dC (.int 8)) vNil)))))
      (dSeq (dAsg 6 (dBin fIx (dVar 2) (dVar 5)))
      (dSeq (dIf (dBinT fEq (dVar 5) (dC (.int 0))) (dAsg 6 (dBin fIx (dLst (lCons (dC (.str [48, 49, 50, 51, 52, 53, 54, 55, 56, 57])) (lCons (dC (.str [95, 97, 57, 90, 95])) (lCons (dVar 6) (lCons (dVar 6) lNil))))) (dCall P_law_take.length F_law_take [] (vOwn 0 (vCons (dC (.int 4)) vNil))))) dNext)
      t_law_text3)))
def t_law_text5 : DS := (dRet (dVar 3))
def b_law_text : DS := (dSeq (dAsg 2 (dCall P_law_classes.length F_law_classes [] vNil))
      (dSeq (dAsg 3 (dC (.str [])))
      (dSeq (dFor (dRng1 (lCons (dVar 1) lNil)) (gN 4) l_law_text4)
      t_law_text5)))
theorem q_law_text {P : Program} {w : World} {K : PySem.W.Frag} {mg : Str → Option Value} {base : Heap} {PL : PoolP} {f : Addr} (D_law_classes : Def P w K mg base PL CX0 1 "_law_classes" s_law_classes [] [] P_law_classes F_law_classes) (D_law_take : Def P w K mg base PL CX0 1 "_law_take" s_law_take [] [] P_law_take F_law_take) (z_len : mg "len" = none) (z_range : mg "range" = none) {cdv : Value} {A : Around} {outer : List Env} {s : Shared} {H : Hp} {E : XK} (hr : Room 1 (A.deeper (envOfC "_law_text" (defScope s_law_text) s.heap.objs.size f cdv))) : QSs (cxOf CX0 P w K mg base N_law_text "_law_text" (defScope s_law_text) f cdv A outer s H E).nox PL (defBody s_law_text) b_law_text := by
  delta b_law_text t_law_text5 l_law_text4 t_law_text3 t_law_text2 l_law_text1
  exact (qss_cons (qs_set (i := 2) (qe_call0 D_law_classes rfl rfl rfl rfl rfl bi_law_classes (hr.mono (by decide)) (by rfl) pass0) sc_law_text.nd rfl (Or.inl rfl))
      (qss_cons (qs_set (i := 3) (qe_str [] (by decide +kernel)) sc_law_text.nd rfl (Or.inl rfl))
      (qss_cons (qs_for (qi_rng1 (ql_cons (qe_var (pv 1)) ql_nil) (by rfl) z_range) (qg_name (i := 4) sc_law_text.nd rfl (Or.inl rfl)) (qss_cons (qs_set (i := 5) (qe_ix ix_seq opd_ix (qe_lst (ql_cons qe_int (ql_cons qe_int (ql_cons qe_int (ql_cons qe_int (ql_cons qe_int (ql_cons qe_int (ql_cons qe_int (ql_cons qe_int ql_nil))))))))) (qe_call D_law_take rfl rfl rfl rfl rfl bi_law_take (qv_own (pv 0) (qv_cons qe_int qv_nil)) (hr.mono (by decide)) (by rfl) pass0) (fun _ _ => rfl)) sc_law_text.nd rfl (Or.inl rfl))
      (qss_cons (qs_set (i := 6) (qe_ix ix_seq opd_ix (qe_var (pv 2)) (qe_var (pv 5)) (fun _ _ => rfl)) sc_law_text.nd rfl (Or.inl rfl))
      (qss_cons (qs_if (qt_cmp (opr_eq hr.units) opd_eq (qe_var (pv 5)) qe_int (nomark _)) (qss_one (qs_set (i := 6) (qe_ix ix_seq opd_ix (qe_lst (ql_cons (qe_str [48, 49, 50, 51, 52, 53, 54, 55, 56, 57] (by decide +kernel)) (ql_cons (qe_str [95, 97, 57, 90, 95] (by decide +kernel)) (ql_cons (qe_var (pv 6)) (ql_cons (qe_var (pv 6)) ql_nil))))) (qe_call D_law_take rfl rfl rfl rfl rfl bi_law_take (qv_own (pv 0) (qv_cons qe_int qv_nil)) (hr.mono (by decide)) (by rfl) pass0) (fun _ _ => rfl)) sc_law_text.nd rfl (Or.inl rfl))) qss_nil)
      (qss_cons (qs_for (qi_rng1 (ql_cons (qe_op opr_addT opd_addT qe_int (qe_call D_law_take rfl rfl rfl rfl rfl bi_law_take (qv_own (pv 0) (qv_cons qe_int qv_nil)) (hr.mono (by decide)) (by rfl) pass0)) ql_nil) (by rfl) z_range) (qg_name (i := 7) sc_law_text.nd rfl (Or.inl rfl)) (qss_one (qs_if (qt_cmp op_lt opd_lt (qe_cb cr_lenA cd_len (by rfl) z_len (by decide +kernel) (qa_cons (qe_var (pv 3)) qa_nil)) (qe_var (pv 1)) (nomark _)) (qss_one (qs_set (i := 3) (qe_op opr_addT opd_addT (qe_var (pv 3)) (qe_ix ix_seq opd_ix (qe_var (pv 6)) (qe_call D_law_take rfl rfl rfl rfl rfl bi_law_take (qv_own (pv 0) (qv_cons (qe_cb cr_lenA cd_len (by rfl) z_len (by decide +kernel) (qa_cons (qe_var (pv 6)) qa_nil)) qv_nil)) (hr.mono (by decide)) (by rfl) pass0) (fun _ _ => rfl))) sc_law_text.nd rfl (Or.inl rfl))) qss_nil)) PassesOwn.never rfl)
      (qss_one (qs_if (qt_cmp (opr_eq hr.units) opd_eq (qe_cb cr_lenA cd_len (by rfl) z_len (by decide +kernel) (qa_cons (qe_var (pv 3)) qa_nil)) (qe_var (pv 1)) (nomark _)) (qss_one qs_break) qss_nil)))))) PassesOwn.never rfl)
      (qss_one (qs_ret (qe_var (pv 3)))))))
def l_law_runs1 : DS := (dAsg 2 (dBin fAddT (dVar 2) (dBin fIx (dVar 4) (dBin fMod (dCB fInt1 (aCons (dBin fAddT (dVar 5) (dBin fMul (dC (.int 7)) (dVar 6))) aNil)) (dCB fLen (aCons (dVar 4) aNil))))))
def t_law_runs2 : DS := (dAsg 2 (dBin fAddT (dBin fAddT (dVar 2) (dBin fMul (dC (.str [32])) (dBin fIx (dLst (lCons (dC (.int 0)) (lCons (dC (.int 1)) (lCons (dC (.int 9)) (lCons (dC (.int 12)) (lCons (dC (.int 21)) (lCons (dC (.int 34)) lNil))))))) (dCall P_law_take.length F_law_take [] (vOwn 0 (vCons (dC (.int 6)) vNil)))))) (dCall P_law_text.length F_law_text [] (vOwn 0 (vCons (dCall P_law_take.length F_law_take [] (vOwn 0 (vCons (dC (.int 6)) vNil))) vNil)))))
def l_law_runs3 : DS := (dSeq (dAsg 4 (dBin fIx (dVar 1) (dCall P_law_take.length F_law_take [] (vOwn 0 (vCons (dC (.int 2)) vNil)))))
      (dSeq (dAsg 5 (dCall P_law_take.length F_law_take [] (vOwn 0 (vCons (dCB fLen (aCons (dVar 4) aNil)) vNil))))
      (dSeq (dFor (dRng1 (lCons (dBin fAddT (dC (.int 10)) (dCall P_law_take.length F_law_take [] (vOwn 0 (vCons (dC (.int 51)) vNil)))) lNil)) (gN 6) l_law_runs1)
      t_law_runs2)))
def t_law_runs4 : DS := (dRet (dVar 2))
def b_law_runs : DS := (dSeq (dAsg 1 (dCall P_law_classes.length F_law_classes [] vNil))
      (dSeq (dAsg 2 (dCall P_law_text.length F_law_text [] (vOwn 0 (vCons (dCall P_law_take.length F_law_take [] (vOwn 0 (vCons (dC (.int 6)) vNil))) vNil))))
      (dSeq (dFor (dRng1 (lCons (dBin fAddT (dC (.int 1)) (dCall P_law_take.length F_law_take [] (vOwn 0 (vCons (dC (.int 2)) vNil)))) lNil)) (gN 3) l_law_runs3)
      t_law_runs4)))
theorem q_law_runs {P : Program} {w : World} {K : PySem.W.Frag} {mg : Str → Option Value} {base : Heap} {PL : PoolP} {f : Addr} (D_law_classes : Def P w K mg base PL CX0 1 "_law_classes" s_law_classes [] [] P_law_classes F_law_classes) (D_law_text : Def P w K mg base PL CX0 2 "_law_text" s_law_text [] [] P_law_text F_law_text) (D_law_take : Def P w K mg base PL CX0 1 "_law_take" s_law_take [] [] P_law_take F_law_take) (z_int : mg "int" = none) (z_len : mg "len" = none) (z_range : mg "range" = none) {cdv : Value} {A : Around} {outer : List Env} {s : Shared} {H : Hp} {E : XK} (hr : Room 2 (A.deeper (envOfC "_law_runs" (defScope s_law_runs) s.heap.objs.size f cdv))) : QSs (cxOf CX0 P w K mg base N_law_runs "_law_runs" (defScope s_law_runs) f cdv A outer s H E).nox PL (defBody s_law_runs) b_law_runs := by
  delta b_law_runs t_law_runs4 l_law_runs3 t_law_runs2 l_law_runs1
  exact (qss_cons (qs_set (i := 1) (qe_call0 D_law_classes rfl rfl rfl rfl rfl bi_law_classes (hr.mono (by decide)) (by rfl) pass0) sc_law_runs.nd rfl (Or.inl rfl))
      (qss_cons (qs_set (i := 2) (qe_call D_law_text rfl rfl rfl rfl rfl bi_law_text (qv_own (pv 0) (qv_cons (qe_call D_law_take rfl rfl rfl rfl rfl bi_law_take (qv_own (pv 0) (qv_cons qe_int qv_nil)) (hr.mono (by decide)) (by rfl) pass0) qv_nil)) (hr.mono (by decide)) (by rfl) pass0) sc_law_runs.nd rfl (Or.inl rfl))
      (qss_cons (qs_for (qi_rng1 (ql_cons (qe_op opr_addT opd_addT qe_int (qe_call D_law_take rfl rfl rfl rfl rfl bi_law_take (qv_own (pv 0) (qv_cons qe_int qv_nil)) (hr.mono (by decide)) (by rfl) pass0)) ql_nil) (by rfl) z_range) (qg_name (i := 3) sc_law_runs.nd rfl (Or.inl rfl)) (qss_cons (qs_set (i := 4) (qe_ix ix_seq opd_ix (qe_var (pv 1)) (qe_call D_law_take rfl rfl rfl rfl rfl bi_law_take (qv_own (pv 0) (qv_cons qe_int qv_nil)) (hr.mono (by decide)) (by rfl) pass0) (fun _ _ => rfl)) sc_law_runs.nd rfl (Or.inl rfl))
      (qss_cons (qs_set (i := 5) (qe_call D_law_take rfl rfl rfl rfl rfl bi_law_take (qv_own (pv 0) (qv_cons (qe_cb cr_lenA cd_len (by rfl) z_len (by decide +kernel) (qa_cons (qe_var (pv 4)) qa_nil)) qv_nil)) (hr.mono (by decide)) (by rfl) pass0) sc_law_runs.nd rfl (Or.inl rfl))
      (qss_cons (qs_for (qi_rng1 (ql_cons (qe_op opr_addT opd_addT qe_int (qe_call D_law_take rfl rfl rfl rfl rfl bi_law_take (qv_own (pv 0) (qv_cons qe_int qv_nil)) (hr.mono (by decide)) (by rfl) pass0)) ql_nil) (by rfl) z_range) (qg_name (i := 6) sc_law_runs.nd rfl (Or.inl rfl)) (qss_one (qs_set (i := 2) (qe_op opr_addT opd_addT (qe_var (pv 2)) (qe_ix ix_seq opd_ix (qe_var (pv 4)) (qe_op op_mod opd_mod (qe_cty call_int1 cd_int1 (by rfl) z_int (by decide +kernel) (qa_cons (qe_op opr_addT opd_addT (qe_var (pv 5)) (qe_op opr_mul opd_mul qe_int (qe_var (pv 6)))) qa_nil)) (qe_cb cr_lenA cd_len (by rfl) z_len (by decide +kernel) (qa_cons (qe_var (pv 4)) qa_nil))) (fun _ _ => rfl))) sc_law_runs.nd rfl (Or.inl rfl))) PassesOwn.never rfl)
      (qss_one (qs_set (i := 2) (qe_op opr_addT opd_addT (qe_op opr_addT opd_addT (qe_var (pv 2)) (qe_op opr_mul opd_mul (qe_str [32] (by decide +kernel)) (qe_ix ix_seq opd_ix (qe_lst (ql_cons qe_int (ql_cons qe_int (ql_cons qe_int (ql_cons qe_int (ql_cons qe_int (ql_cons qe_int ql_nil))))))) (qe_call D_law_take rfl rfl rfl rfl rfl bi_law_take (qv_own (pv 0) (qv_cons qe_int qv_nil)) (hr.mono (by decide)) (by rfl) pass0) (fun _ _ => rfl)))) (qe_call D_law_text rfl rfl rfl rfl rfl bi_law_text (qv_own (pv 0) (qv_cons (qe_call D_law_take rfl rfl rfl rfl rfl bi_law_take (qv_own (pv 0) (qv_cons qe_int qv_nil)) (hr.mono (by decide)) (by rfl) pass0) qv_nil)) (hr.mono (by decide)) (by rfl) pass0)) sc_law_runs.nd rfl (Or.inl rfl)))))) PassesOwn.never rfl)
      (qss_one (qs_ret (qe_var (pv 2)))))))
def l_law_class1 : DS := (dIf (dBinT (fIn false) (dVar 0) (dBin fIx (dVar 1) (dVar 2))) (dRet (dVar 2)) dNext)
def t_law_class2 : DS := (dRet (dC (.int 4)))
def b_law_class : DS := (dSeq (dAsg 1 (dCall P_law_classes.length F_law_classes [] vNil))
      (dSeq (dFor (dRng1 (lCons (dC (.int 4)) lNil)) (gN 2) l_law_class1)
      t_law_class2))
theorem q_law_class {P : Program} {w : World} {K : PySem.W.Frag} {mg : Str → Option Value} {base : Heap} {PL : PoolP} {f : Addr} (D_law_classes : Def P w K mg base PL CX0 1 "_law_classes" s_law_classes [] [] P_law_classes F_law_classes) (z_range : mg "range" = none) {cdv : Value} {A : Around} {outer : List Env} {s : Shared} {H : Hp} {E : XK} (hr : Room 1 (A.deeper (envOfC "_law_class" (defScope s_law_class) s.heap.objs.size f cdv))) : QSs (cxOf CX0 P w K mg base N_law_class "_law_class" (defScope s_law_class) f cdv A outer s H E).nox PL (defBody s_law_class) b_law_class := by
  delta b_law_class t_law_class2 l_law_class1
  exact (qss_cons (qs_set (i := 1) (qe_call0 D_law_classes rfl rfl rfl rfl rfl bi_law_classes (hr.mono (by decide)) (by rfl) pass0) sc_law_class.nd rfl (Or.inl rfl))
      (qss_cons (qs_for (qi_rng1 (ql_cons qe_int ql_nil) (by rfl) z_range) (qg_name (i := 2) sc_law_class.nd rfl (Or.inl rfl)) (qss_one (qs_if (qt_cmp opr_in (opd_in (neg := false)) (qe_var (pv 0)) (qe_ix ix_seq opd_ix (qe_var (pv 1)) (qe_var (pv 2)) (fun _ _ => rfl)) rfl) (qss_one (qs_ret (qe_var (pv 2)))) qss_nil)) PassesOwn.never rfl)
      (qss_one (qs_ret qe_int))))
def l_law_table1 : DS := (dSeq (dDrop (dMeth 1 mAppend (lCons (dTup (lCons (dVar 2) (lCons (dVar 3) lNil))) lNil)))
      (dSeq (dAsg 3 (dBin fAddT (dVar 3) (dC (.int 1))))
      (dIf (dAnd (dBinT fLt (dVar 4) (dCB fLen (aCons (dVar 0) aNil))) (dBinT fEq (dBin fIx (dVar 0) (dVar 4)) (dC (.str [10])))) (dSeq (dAsg 2 (dBin fAddT (dVar 2) (dC (.int 1))))
      (dAsg 3 (dC (.int 0)))) dNext)))
def t_law_table2 : DS := (dRet (dVar 1))
def b_law_table : DS := (dSeq (dAsg 1 (dLst lNil))
      (dSeq (dAsg 2 (dC (.int 0)))
      (dSeq (dAsg 3 (dC (.int 0)))
      (dSeq (dFor (dRng1 (lCons (dBin fAddT (dCB fLen (aCons (dVar 0) aNil)) (dC (.int 1))) lNil)) (gN 4) l_law_table1)
      t_law_table2))))
theorem q_law_table {P : Program} {w : World} {K : PySem.W.Frag} {mg : Str → Option Value} {base : Heap} {PL : PoolP} {f : Addr} (z_len : mg "len" = none) (z_range : mg "range" = none) {cdv : Value} {A : Around} {outer : List Env} {s : Shared} {H : Hp} {E : XK} (hr : Room 0 (A.deeper (envOfC "_law_table" (defScope s_law_table) s.heap.objs.size f cdv))) : QSs (cxOf CX0 P w K mg base N_law_table "_law_table" (defScope s_law_table) f cdv A outer s H E).nox PL (defBody s_law_table) b_law_table := by
  delta b_law_table t_law_table2 l_law_table1
  exact (qss_cons (qs_set (i := 1) (qe_lst ql_nil) sc_law_table.nd rfl (Or.inl rfl))
      (qss_cons (qs_set (i := 2) qe_int sc_law_table.nd rfl (Or.inl rfl))
      (qss_cons (qs_set (i := 3) qe_int sc_law_table.nd rfl (Or.inl rfl))
      (qss_cons (qs_for (qi_rng1 (ql_cons (qe_op opr_addT opd_addT (qe_cb cr_lenA cd_len (by rfl) z_len (by decide +kernel) (qa_cons (qe_var (pv 0)) qa_nil)) qe_int) ql_nil) (by rfl) z_range) (qg_name (i := 4) sc_law_table.nd rfl (Or.inl rfl)) (qss_cons (qs_expr (qe_meth (T := "list") PySem.F.plainAttrs_list PySem.F.slot_list_append PySem.F.type_list_append mt_append mut_append (pv 1) (ql_cons (qe_tup (ql_cons (qe_var (pv 2)) (ql_cons (qe_var (pv 3)) ql_nil))) ql_nil)))
      (qss_cons (qs_set (i := 3) (qe_op opr_addT opd_addT (qe_var (pv 3)) qe_int) sc_law_table.nd rfl (Or.inl rfl))
      (qss_one (qs_if (QW.t (qw_and (qt_cmp op_lt opd_lt (qe_var (pv 4)) (qe_cb cr_lenA cd_len (by rfl) z_len (by decide +kernel) (qa_cons (qe_var (pv 0)) qa_nil)) (nomark _)) (qw_and1 (qt_cmp (opr_eq hr.units) opd_eq (qe_ix ix_seq opd_ix (qe_var (pv 0)) (qe_var (pv 4)) (fun _ _ => rfl)) (qe_str [10] (by decide +kernel)) (nomark _))))) (qss_cons (qs_set (i := 2) (qe_op opr_addT opd_addT (qe_var (pv 2)) qe_int) sc_law_table.nd rfl (Or.inl rfl))
      (qss_one (qs_set (i := 3) qe_int sc_law_table.nd rfl (Or.inl rfl)))) qss_nil)))) PassesOwn.never rfl)
      (qss_one (qs_ret (qe_var (pv 1))))))))
def l_law_nearest1 : DS := (dIf (dAnd (dBinT fEq (dBin fIx (dBin fIx (dVar 0) (dVar 4)) (dC (.int 0))) (dVar 1)) (dBinT fLe (dBin fIx (dBin fIx (dVar 0) (dVar 4)) (dC (.int 1))) (dVar 2))) (dAsg 3 (dVar 4)) dNext)
def t_law_nearest2 : DS := (dRet (dVar 3))
def b_law_nearest : DS := (dSeq (dAsg 3 (dUn fNeg (dC (.int 1))))
      (dSeq (dFor (dRng1 (lCons (dCB fLen (aCons (dVar 0) aNil)) lNil)) (gN 4) l_law_nearest1)
      t_law_nearest2))
theorem q_law_nearest {P : Program} {w : World} {K : PySem.W.Frag} {mg : Str → Option Value} {base : Heap} {PL : PoolP} {f : Addr} (z_len : mg "len" = none) (z_range : mg "range" = none) {cdv : Value} {A : Around} {outer : List Env} {s : Shared} {H : Hp} {E : XK} (hr : Room 0 (A.deeper (envOfC "_law_nearest" (defScope s_law_nearest) s.heap.objs.size f cdv))) : QSs (cxOf CX0 P w K mg base N_law_nearest "_law_nearest" (defScope s_law_nearest) f cdv A outer s H E).nox PL (defBody s_law_nearest) b_law_nearest := by
  delta b_law_nearest t_law_nearest2 l_law_nearest1
  exact (qss_cons (qs_set (i := 3) (qe_un un_neg und_neg qe_int) sc_law_nearest.nd rfl (Or.inl rfl))
      (qss_cons (qs_for (qi_rng1 (ql_cons (qe_cb cr_lenA cd_len (by rfl) z_len (by decide +kernel) (qa_cons (qe_var (pv 0)) qa_nil)) ql_nil) (by rfl) z_range) (qg_name (i := 4) sc_law_nearest.nd rfl (Or.inl rfl)) (qss_one (qs_if (QW.t (qw_and (qt_cmp (opr_eq hr.units) opd_eq (qe_ix ix_seq opd_ix (qe_ix ix_seq opd_ix (qe_var (pv 0)) (qe_var (pv 4)) (fun _ _ => rfl)) qe_int (fun _ _ => rfl)) (qe_var (pv 1)) (nomark _)) (qw_and1 (qt_cmp op_le opd_le (qe_ix ix_seq opd_ix (qe_ix ix_seq opd_ix (qe_var (pv 0)) (qe_var (pv 4)) (fun _ _ => rfl)) qe_int (fun _ _ => rfl)) (qe_var (pv 2)) (nomark _))))) (qss_one (qs_set (i := 3) (qe_var (pv 4)) sc_law_nearest.nd rfl (Or.inl rfl))) qss_nil)) PassesOwn.never rfl)
      (qss_one (qs_ret (qe_var (pv 3))))))
def l_law_on1 : DS := (dIf (dAnd (dBinT fNe (dBin fIx (dVar 0) (dVar 3)) (dC (.int 2))) (dBinT fNe (dBin fIx (dVar 0) (dVar 3)) (dBin fIx (dVar 0) (dBin fSub (dVar 3) (dC (.int 1)))))) (dRet (dVar 3)) dNext)
def t_law_on2 : DS := (dRet (dVar 2))
def b_law_on : DS := (dSeq (dAsg 2 (dCB fLen (aCons (dVar 0) aNil)))
      (dSeq (dIf (dBinT fEq (dVar 1) (dVar 2)) (dRet (dVar 1)) dNext)
      (dSeq (dIf (dBinT fEq (dBin fIx (dVar 0) (dVar 1)) (dC (.int 3))) (dRet (dBin fAddT (dVar 1) (dC (.int 1)))) dNext)
      (dSeq (dFor (dRng2 (lCons (dBin fAddT (dVar 1) (dC (.int 1))) (lCons (dVar 2) lNil))) (gN 3) l_law_on1)
      t_law_on2))))
theorem q_law_on {P : Program} {w : World} {K : PySem.W.Frag} {mg : Str → Option Value} {base : Heap} {PL : PoolP} {f : Addr} (z_len : mg "len" = none) (z_range : mg "range" = none) {cdv : Value} {A : Around} {outer : List Env} {s : Shared} {H : Hp} {E : XK} (hr : Room 0 (A.deeper (envOfC "_law_on" (defScope s_law_on) s.heap.objs.size f cdv))) : QSs (cxOf CX0 P w K mg base N_law_on "_law_on" (defScope s_law_on) f cdv A outer s H E).nox PL (defBody s_law_on) b_law_on := by
  delta b_law_on t_law_on2 l_law_on1
  exact (qss_cons (qs_set (i := 2) (qe_cb cr_lenA cd_len (by rfl) z_len (by decide +kernel) (qa_cons (qe_var (pv 0)) qa_nil)) sc_law_on.nd rfl (Or.inl rfl))
      (qss_cons (qs_if (qt_cmp (opr_eq hr.units) opd_eq (qe_var (pv 1)) (qe_var (pv 2)) (nomark _)) (qss_one (qs_ret (qe_var (pv 1)))) qss_nil)
      (qss_cons (qs_if (qt_cmp (opr_eq hr.units) opd_eq (qe_ix ix_seq opd_ix (qe_var (pv 0)) (qe_var (pv 1)) (fun _ _ => rfl)) qe_int (nomark _)) (qss_one (qs_ret (qe_op opr_addT opd_addT (qe_var (pv 1)) qe_int))) qss_nil)
      (qss_cons (qs_for (qi_rng2 (ql_cons (qe_op opr_addT opd_addT (qe_var (pv 1)) qe_int) (ql_cons (qe_var (pv 2)) ql_nil)) (by rfl) z_range) (qg_name (i := 3) sc_law_on.nd rfl (Or.inl rfl)) (qss_one (qs_if (QW.t (qw_and (qt_cmp (opr_ne hr.units) opd_ne (qe_ix ix_seq opd_ix (qe_var (pv 0)) (qe_var (pv 3)) (fun _ _ => rfl)) qe_int (nomark _)) (qw_and1 (qt_cmp (opr_ne hr.units) opd_ne (qe_ix ix_seq opd_ix (qe_var (pv 0)) (qe_var (pv 3)) (fun _ _ => rfl)) (qe_ix ix_seq opd_ix (qe_var (pv 0)) (qe_op op_sub opd_sub (qe_var (pv 3)) qe_int) (fun _ _ => rfl)) (nomark _))))) (qss_one (qs_ret (qe_var (pv 3)))) qss_nil)) PassesOwn.never rfl)
      (qss_one (qs_ret (qe_var (pv 2))))))))
def l_law_back1 : DS := (dIf (dOr (dBinT fEq (dBin fIx (dVar 0) (dBin fSub (dVar 3) (dC (.int 1)))) (dC (.int 3))) (dAnd (dBinT fNe (dBin fIx (dVar 0) (dVar 3)) (dC (.int 2))) (dBinT fNe (dBin fIx (dVar 0) (dBin fSub (dVar 3) (dC (.int 1)))) (dBin fIx (dVar 0) (dVar 3))))) (dAsg 2 (dVar 3)) dNext)
def t_law_back2 : DS := (dRet (dVar 2))
def b_law_back : DS := (dSeq (dIf (dBinT fEq (dVar 1) (dC (.int 0))) (dRet (dC (.int 0))) dNext)
      (dSeq (dIf (dBinT fEq (dBin fIx (dVar 0) (dBin fSub (dVar 1) (dC (.int 1)))) (dC (.int 3))) (dRet (dBin fSub (dVar 1) (dC (.int 1)))) dNext)
      (dSeq (dAsg 2 (dC (.int 0)))
      (dSeq (dFor (dRng2 (lCons (dC (.int 1)) (lCons (dVar 1) lNil))) (gN 3) l_law_back1)
      t_law_back2))))
theorem q_law_back {P : Program} {w : World} {K : PySem.W.Frag} {mg : Str → Option Value} {base : Heap} {PL : PoolP} {f : Addr} (z_range : mg "range" = none) {cdv : Value} {A : Around} {outer : List Env} {s : Shared} {H : Hp} {E : XK} (hr : Room 0 (A.deeper (envOfC "_law_back" (defScope s_law_back) s.heap.objs.size f cdv))) : QSs (cxOf CX0 P w K mg base N_law_back "_law_back" (defScope s_law_back) f cdv A outer s H E).nox PL (defBody s_law_back) b_law_back := by
  delta b_law_back t_law_back2 l_law_back1
  exact (qss_cons (qs_if (qt_cmp (opr_eq hr.units) opd_eq (qe_var (pv 1)) qe_int (nomark _)) (qss_one (qs_ret qe_int)) qss_nil)
      (qss_cons (qs_if (qt_cmp (opr_eq hr.units) opd_eq (qe_ix ix_seq opd_ix (qe_var (pv 0)) (qe_op op_sub opd_sub (qe_var (pv 1)) qe_int) (fun _ _ => rfl)) qe_int (nomark _)) (qss_one (qs_ret (qe_op op_sub opd_sub (qe_var (pv 1)) qe_int))) qss_nil)
      (qss_cons (qs_set (i := 2) qe_int sc_law_back.nd rfl (Or.inl rfl))
      (qss_cons (qs_for (qi_rng2 (ql_cons qe_int (ql_cons (qe_var (pv 1)) ql_nil)) (by rfl) z_range) (qg_name (i := 3) sc_law_back.nd rfl (Or.inl rfl)) (qss_one (qs_if (QW.t (qw_or (qt_cmp (opr_eq hr.units) opd_eq (qe_ix ix_seq opd_ix (qe_var (pv 0)) (qe_op op_sub opd_sub (qe_var (pv 3)) qe_int) (fun _ _ => rfl)) qe_int (nomark _)) (qw_or1 (QW.t (qw_and (qt_cmp (opr_ne hr.units) opd_ne (qe_ix ix_seq opd_ix (qe_var (pv 0)) (qe_var (pv 3)) (fun _ _ => rfl)) qe_int (nomark _)) (qw_and1 (qt_cmp (opr_ne hr.units) opd_ne (qe_ix ix_seq opd_ix (qe_var (pv 0)) (qe_op op_sub opd_sub (qe_var (pv 3)) qe_int) (fun _ _ => rfl)) (qe_ix ix_seq opd_ix (qe_var (pv 0)) (qe_var (pv 3)) (fun _ _ => rfl)) (nomark _)))))))) (qss_one (qs_set (i := 2) (qe_var (pv 3)) sc_law_back.nd rfl (Or.inl rfl))) qss_nil)) PassesOwn.never rfl)
      (qss_one (qs_ret (qe_var (pv 2))))))))
def t_law_due1 : DS := (dSeq (dIf (dBinT fEq (dVar 4) (dC (.str [104, 111, 109, 101]))) (dRet (dCall P_law_nearest.length F_law_nearest [] (vCons (dVar 2) (vCons (dVar 5) (vCons (dC (.int 0)) vNil))))) dNext)
      (dSeq (dIf (dBinT fEq (dVar 4) (dC (.str [101, 110, 100]))) (dRet (dCall P_law_nearest.length F_law_nearest [] (vCons (dVar 2) (vCons (dVar 5) (vCons (dVar 7) vNil))))) dNext)
      (dSeq (dIf (dBinT fEq (dVar 4) (dC (.str [115, 116, 97, 114, 116]))) (dRet (dC (.int 0))) dNext)
      (dSeq (dIf (dBinT fEq (dVar 4) (dC (.str [102, 105, 110, 105, 115, 104]))) (dRet (dVar 7)) dNext)
      (dSeq (dIf (dBinT fEq (dVar 4) (dC (.str [119, 111, 114, 100]))) (dRet (dCall P_law_on.length F_law_on [] (vCons (dVar 1) (vCons (dVar 3) vNil)))) dNext)
      (dSeq (dIf (dBinT fEq (dVar 4) (dC (.str [119, 111, 114, 100, 98, 97, 99, 107]))) (dRet (dCall P_law_back.length F_law_back [] (vCons (dVar 1) (vCons (dVar 3) vNil)))) dNext)
      (dRet (dVar 3))))))))
def t_law_due2 : DS := (dSeq (dIf (dAnd (dBinT fEq (dVar 4) (dC (.str [100, 111, 119, 110]))) (dBinT fLt (dVar 5) (dBin fIx (dBin fIx (dVar 2) (dVar 7)) (dC (.int 0))))) (dRet (dCall P_law_nearest.length F_law_nearest [] (vCons (dVar 2) (vCons (dBin fAddT (dVar 5) (dC (.int 1))) (vCons (dVar 6) vNil))))) dNext)
      t_law_due1)
def b_law_due : DS := (dSeq (dAsg 5 (dBin fIx (dBin fIx (dVar 2) (dVar 3)) (dC (.int 0))))
      (dSeq (dAsg 6 (dBin fIx (dBin fIx (dVar 2) (dVar 3)) (dC (.int 1))))
      (dSeq (dAsg 7 (dCB fLen (aCons (dVar 0) aNil)))
      (dSeq (dIf (dBinT fEq (dVar 4) (dC (.str [108, 101, 102, 116]))) (dRet (dBin fSub (dVar 3) (dCB fInt1 (aCons (dBin fGt (dVar 3) (dC (.int 0))) aNil)))) dNext)
      (dSeq (dIf (dBinT fEq (dVar 4) (dC (.str [114, 105, 103, 104, 116]))) (dRet (dBin fAddT (dVar 3) (dCB fInt1 (aCons (dBin fLt (dVar 3) (dVar 7)) aNil)))) dNext)
      (dSeq (dIf (dAnd (dBinT fEq (dVar 4) (dC (.str [117, 112]))) (dBinT fGt (dVar 5) (dC (.int 0)))) (dRet (dCall P_law_nearest.length F_law_nearest [] (vCons (dVar 2) (vCons (dBin fSub (dVar 5) (dC (.int 1))) (vCons (dVar 6) vNil))))) dNext)
      t_law_due2))))))
theorem q_law_due {P : Program} {w : World} {K : PySem.W.Frag} {mg : Str → Option Value} {base : Heap} {PL : PoolP} {f : Addr} (D_law_nearest : Def P w K mg base PL CX0 1 "_law_nearest" s_law_nearest [] [] P_law_nearest F_law_nearest) (D_law_on : Def P w K mg base PL CX0 1 "_law_on" s_law_on [] [] P_law_on F_law_on) (D_law_back : Def P w K mg base PL CX0 1 "_law_back" s_law_back [] [] P_law_back F_law_back) (z_int : mg "int" = none) (z_len : mg "len" = none) {cdv : Value} {A : Around} {outer : List Env} {s : Shared} {H : Hp} {E : XK} (hr : Room 1 (A.deeper (envOfC "_law_due" (defScope s_law_due) s.heap.objs.size f cdv))) : QSs (cxOf CX0 P w K mg base N_law_due "_law_due" (defScope s_law_due) f cdv A outer s H E).nox PL (defBody s_law_due) b_law_due := by
  delta b_law_due t_law_due2 t_law_due1
  exact (qss_cons (qs_set (i := 5) (qe_ix ix_seq opd_ix (qe_ix ix_seq opd_ix (qe_var (pv 2)) (qe_var (pv 3)) (fun _ _ => rfl)) qe_int (fun _ _ => rfl)) sc_law_due.nd rfl (Or.inl rfl))
      (qss_cons (qs_set (i := 6) (qe_ix ix_seq opd_ix (qe_ix ix_seq opd_ix (qe_var (pv 2)) (qe_var (pv 3)) (fun _ _ => rfl)) qe_int (fun _ _ => rfl)) sc_law_due.nd rfl (Or.inl rfl))
      (qss_cons (qs_set (i := 7) (qe_cb cr_lenA cd_len (by rfl) z_len (by decide +kernel) (qa_cons (qe_var (pv 0)) qa_nil)) sc_law_due.nd rfl (Or.inl rfl))
      (qss_cons (qs_if (qt_cmp (opr_eq hr.units) opd_eq (qe_var (pv 4)) (qe_str [108, 101, 102, 116] (by decide +kernel)) (nomark _)) (qss_one (qs_ret (qe_op op_sub opd_sub (qe_var (pv 3)) (qe_cty call_int1 cd_int1 (by rfl) z_int (by decide +kernel) (qa_cons (qe_cmp op_gt opd_gt (qe_var (pv 3)) qe_int (nomark _)) qa_nil))))) qss_nil)
      (qss_cons (qs_if (qt_cmp (opr_eq hr.units) opd_eq (qe_var (pv 4)) (qe_str [114, 105, 103, 104, 116] (by decide +kernel)) (nomark _)) (qss_one (qs_ret (qe_op opr_addT opd_addT (qe_var (pv 3)) (qe_cty call_int1 cd_int1 (by rfl) z_int (by decide +kernel) (qa_cons (qe_cmp op_lt opd_lt (qe_var (pv 3)) (qe_var (pv 7)) (nomark _)) qa_nil))))) qss_nil)
      (qss_cons (qs_if (QW.t (qw_and (qt_cmp (opr_eq hr.units) opd_eq (qe_var (pv 4)) (qe_str [117, 112] (by decide +kernel)) (nomark _)) (qw_and1 (qt_cmp op_gt opd_gt (qe_var (pv 5)) qe_int (nomark _))))) (qss_one (qs_ret (qe_call D_law_nearest rfl rfl rfl rfl rfl bi_law_nearest (qv_cons (qe_var (pv 2)) (qv_cons (qe_op op_sub opd_sub (qe_var (pv 5)) qe_int) (qv_cons (qe_var (pv 6)) qv_nil))) (hr.mono (by decide)) (by rfl) pass0))) qss_nil)
      (qss_cons (qs_if (QW.t (qw_and (qt_cmp (opr_eq hr.units) opd_eq (qe_var (pv 4)) (qe_str [100, 111, 119, 110] (by decide +kernel)) (nomark _)) (qw_and1 (qt_cmp op_lt opd_lt (qe_var (pv 5)) (qe_ix ix_seq opd_ix (qe_ix ix_seq opd_ix (qe_var (pv 2)) (qe_var (pv 7)) (fun _ _ => rfl)) qe_int (fun _ _ => rfl)) (nomark _))))) (qss_one (qs_ret (qe_call D_law_nearest rfl rfl rfl rfl rfl bi_law_nearest (qv_cons (qe_var (pv 2)) (qv_cons (qe_op opr_addT opd_addT (qe_var (pv 5)) qe_int) (qv_cons (qe_var (pv 6)) qv_nil))) (hr.mono (by decide)) (by rfl) pass0))) qss_nil)
      (qss_cons (qs_if (qt_cmp (opr_eq hr.units) opd_eq (qe_var (pv 4)) (qe_str [104, 111, 109, 101] (by decide +kernel)) (nomark _)) (qss_one (qs_ret (qe_call D_law_nearest rfl rfl rfl rfl rfl bi_law_nearest (qv_cons (qe_var (pv 2)) (qv_cons (qe_var (pv 5)) (qv_cons qe_int qv_nil))) (hr.mono (by decide)) (by rfl) pass0))) qss_nil)
      (qss_cons (qs_if (qt_cmp (opr_eq hr.units) opd_eq (qe_var (pv 4)) (qe_str [101, 110, 100] (by decide +kernel)) (nomark _)) (qss_one (qs_ret (qe_call D_law_nearest rfl rfl rfl rfl rfl bi_law_nearest (qv_cons (qe_var (pv 2)) (qv_cons (qe_var (pv 5)) (qv_cons (qe_var (pv 7)) qv_nil))) (hr.mono (by decide)) (by rfl) pass0))) qss_nil)
      (qss_cons (qs_if (qt_cmp (opr_eq hr.units) opd_eq (qe_var (pv 4)) (qe_str [115, 116, 97, 114, 116] (by decide +kernel)) (nomark _)) (qss_one (qs_ret qe_int)) qss_nil)
      (qss_cons (qs_if (qt_cmp (opr_eq hr.units) opd_eq (qe_var (pv 4)) (qe_str [102, 105, 110, 105, 115, 104] (by decide +kernel)) (nomark _)) (qss_one (qs_ret (qe_var (pv 7)))) qss_nil)
      (qss_cons (qs_if (qt_cmp (opr_eq hr.units) opd_eq (qe_var (pv 4)) (qe_str [119, 111, 114, 100] (by decide +kernel)) (nomark _)) (qss_one (qs_ret (qe_call D_law_on rfl rfl rfl rfl rfl bi_law_on (qv_cons (qe_var (pv 1)) (qv_cons (qe_var (pv 3)) qv_nil)) (hr.mono (by decide)) (by rfl) pass0))) qss_nil)
      (qss_cons (qs_if (qt_cmp (opr_eq hr.units) opd_eq (qe_var (pv 4)) (qe_str [119, 111, 114, 100, 98, 97, 99, 107] (by decide +kernel)) (nomark _)) (qss_one (qs_ret (qe_call D_law_back rfl rfl rfl rfl rfl bi_law_back (qv_cons (qe_var (pv 1)) (qv_cons (qe_var (pv 3)) qv_nil)) (hr.mono (by decide)) (by rfl) pass0))) qss_nil)
      (qss_one (qs_ret (qe_var (pv 3)))))))))))))))))
def b_law_number : DS := (dRet (dAndV (dIsi "int" (dVar 0)) (dNotV (dIsi "bool" (dVar 0)))))
theorem q_law_number {P : Program} {w : World} {K : PySem.W.Frag} {mg : Str → Option Value} {base : Heap} {PL : PoolP} {f : Addr} (z_bool : mg "bool" = none) (z_int : mg "int" = none) (z_isinstance : mg "isinstance" = none) {cdv : Value} {A : Around} {outer : List Env} {s : Shared} {H : Hp} {E : XK} (hr : Room 0 (A.deeper (envOfC "_law_number" (defScope s_law_number) s.heap.objs.size f cdv))) : QSs (cxOf CX0 P w K mg base N_law_number "_law_number" (defScope s_law_number) f cdv A outer s H E).nox PL (defBody s_law_number) b_law_number := by
  delta b_law_number
  exact (qss_one (qs_ret (qe_and (qe_isi (T := "int") (by decide +kernel) (by rfl) z_isinstance (by rfl) z_int (by decide +kernel) (qe_var (pv 0))) (qe_one (qe_not (qe_isi (T := "bool") (by decide +kernel) (by rfl) z_isinstance (by rfl) z_bool (by decide +kernel) (qe_var (pv 0))))))))
theorem h_law_number {P : Program} {w : World} {K : PySem.W.Frag} {mg : Str → Option Value} {base : Heap} {PL : PoolP} {f : Addr} (z_bool : mg "bool" = none) (z_int : mg "int" = none) (z_isinstance : mg "isinstance" = none) {cdv : Value} {A : Around} {outer : List Env} {s : Shared} {H : Hp} {E : XK} (hr : L2H.RoomH 0 (A.deeper (envOfC "_law_number" (defScope s_law_number) s.heap.objs.size f cdv))) (p : Addr × Obj) (ho : L2H.Hot1 A p) : QSs (L2H.cxH CX0 P w K mg base N_law_number "_law_number" (defScope s_law_number) f cdv A outer s H E p).nox PL (defBody s_law_number) b_law_number := by
  have hot := hotC_cx (CX := CX0) (P := P) (w := w) (K := K) (mg := mg) (base := base) (N := N_law_number) (qual := "_law_number") (sc := defScope s_law_number) (f := f) (cdv := cdv) (outer := outer) (s := s) (H := H) (E := E) ho
  delta b_law_number
  exact (qss_one (qs_ret (qe_and (qe_isi (T := "int") (by decide +kernel) (by rfl) z_isinstance (by rfl) z_int (by decide +kernel) (qe_var (pv 0))) (qe_one (qe_not (qe_isi (T := "bool") (by decide +kernel) (by rfl) z_isinstance (by rfl) z_bool (by decide +kernel) (qe_var (pv 0))))))))
def t_law_refused1 : DS := (dRet (dC (.bl false)))
def b_law_refused : DS := (dSeq (dTry 3 (mtL ["BadPlace"]) (dDropX (dCallX P_moved.length F_moved (vCons (dVar 0) (vCons (dVar 1) (vCons (dVar 2) vNil))))) (fun a y dd => (dRet (dAndV (dIsE a y dd ["BadPlace"] true (dVar 3)) (dAndV (dCall P_law_number.length F_law_number [] (vCons (dFld a y dd ["BadPlace"] "at" (dVar 3)) vNil)) (dBin fEq (dFld a y dd ["BadPlace"] "at" (dVar 3)) (dVar 1)))))))
      t_law_refused1)
theorem q_law_refused {P : Program} {w : World} {K : PySem.W.Frag} {mg : Str → Option Value} {base : Heap} {PL : PoolP} {f : Addr} (D_moved : DefX P w K mg base PL 5 "moved" s_moved [] [] P_moved F_moved) (H_law_number : DefH P w K mg base PL 1 "_law_number" s_law_number [] [] P_law_number F_law_number) (m_BadPlace : mg "BadPlace" = some (.ref (He.ga K "BadPlace"))) (xm_BadPlace : ∀ y ∈ (["BadPlace"] : List Str), PySem.W.exmOne K (.ref (He.ga K y)) (.ref (He.ga K "BadPlace")) = some true) (m_DeskError : mg "DeskError" = some (.ref (He.ga K "DeskError"))) (ie_BadPlace_DeskError : ∀ y ∈ (["BadPlace"] : List Str), IsE K y "DeskError" true) (hf_BadPlace_at : ∀ y ∈ (["BadPlace"] : List Str), XfC K (He.ga K y) ∧ PySem.W.findIn K (.ref (He.ga K y)) "at" = some none) (z_isinstance : mg "isinstance" = none) {cdv : Value} {A : Around} {outer : List Env} {s : Shared} {H : Hp} {E : XK} (hr : Room 5 (A.deeper (envOfC "_law_refused" (defScope s_law_refused) s.heap.objs.size f cdv))) : QSs (cxOf CX0 P w K mg base N_law_refused "_law_refused" (defScope s_law_refused) f cdv A outer s H E).nox PL (defBody s_law_refused) b_law_refused := by
  delta b_law_refused t_law_refused1
  exact (qss_cons (qs_try (i := 3) (mt := mtL ["BadPlace"]) (dsu := fun a y dd => (dRet (dAndV (dIsE a y dd ["BadPlace"] true (dVar 3)) (dAndV (dCall P_law_number.length F_law_number [] (vCons (dFld a y dd ["BadPlace"] "at" (dVar 3)) vNil)) (dBin fEq (dFld a y dd ["BadPlace"] "at" (dVar 3)) (dVar 1)))))) rfl rfl sc_law_refused.nd rfl rfl ⟨by rfl, by decide, Or.inl m_BadPlace⟩ (fun y h => xm_BadPlace y (mtL_mem h)) (fun W pn xe tk hp => (rss_one (rs_expr (re_call D_moved rfl rfl rfl rfl rfl (fun F => binds0 (bi_moved F)) (qv_cons (qe_var (pv 0)) (qv_cons (qe_var (pv 1)) (qv_cons (qe_var (pv 2)) qv_nil))) (hr.mono (by decide)) (by rfl) tk)))) (fun a oe y dd pn hmt hz hd => (qss_one (qs_ret (qe_and (qe_isE ie_BadPlace_DeskError m_DeskError (by rfl) hz hd (qe_var (pv 3)) (mtL_mem hmt) (by rfl) z_isinstance) (qe_and (qe_callH H_law_number rfl rfl rfl rfl rfl (fun F => binds0 (bi_law_number F)) (qv_cons (qe_fld hf_BadPlace_at hz hd (qe_var (pv 3)) (mtL_mem hmt)) qv_nil) ((L2H.roomH_mark hr _).mono (by decide)) (hotC_suite hz hd) (by rfl)) (qe_one (qe_cmp (opr_eq hr.units) opd_eq (qe_fld hf_BadPlace_at hz hd (qe_var (pv 3)) (mtL_mem hmt)) (qe_var (pv 1)) (nomark _)))))))))
      (qss_one (qs_ret qe_bl)))
def b_law_words : DS := (dRet (dLst (lCons (dC (.str [108, 101, 102, 116])) (lCons (dC (.str [114, 105, 103, 104, 116])) (lCons (dC (.str [117, 112])) (lCons (dC (.str [100, 111, 119, 110])) (lCons (dC (.str [104, 111, 109, 101])) (lCons (dC (.str [101, 110, 100])) (lCons (dC (.str [115, 116, 97, 114, 116])) (lCons (dC (.str [102, 105, 110, 105, 115, 104])) (lCons (dC (.str [119, 111, 114, 100])) (lCons (dC (.str [119, 111, 114, 100, 98, 97, 99, 107])) lNil))))))))))))
theorem q_law_words {P : Program} {w : World} {K : PySem.W.Frag} {mg : Str → Option Value} {base : Heap} {PL : PoolP} {f : Addr}  {cdv : Value} {A : Around} {outer : List Env} {s : Shared} {H : Hp} {E : XK} (hr : Room 0 (A.deeper (envOfC "_law_words" (defScope s_law_words) s.heap.objs.size f cdv))) : QSs (cxOf CX0 P w K mg base N_law_words "_law_words" (defScope s_law_words) f cdv A outer s H E).nox PL (defBody s_law_words) b_law_words := by
  delta b_law_words
  exact (qss_one (qs_ret (qe_lst (ql_cons (qe_str [108, 101, 102, 116] (by decide +kernel)) (ql_cons (qe_str [114, 105, 103, 104, 116] (by decide +kernel)) (ql_cons (qe_str [117, 112] (by decide +kernel)) (ql_cons (qe_str [100, 111, 119, 110] (by decide +kernel)) (ql_cons (qe_str [104, 111, 109, 101] (by decide +kernel)) (ql_cons (qe_str [101, 110, 100] (by decide +kernel)) (ql_cons (qe_str [115, 116, 97, 114, 116] (by decide +kernel)) (ql_cons (qe_str [102, 105, 110, 105, 115, 104] (by decide +kernel)) (ql_cons (qe_str [119, 111, 114, 100] (by decide +kernel)) (ql_cons (qe_str [119, 111, 114, 100, 98, 97, 99, 107] (by decide +kernel)) ql_nil)))))))))))))
def l_law_words_told1 : DS := (dIf (dOr (dNot (dTru (dIsi "str" (dBin fIx (dC (.tup (c_WORDS.map Dt.str))) (dVar 1))))) (dBinT fNe (dBin fIx (dC (.tup (c_WORDS.map Dt.str))) (dVar 1)) (dBin fIx (dVar 0) (dVar 1)))) (dRet (dC (.bl false))) dNext)
def t_law_words_told2 : DS := (dRet (dC (.bl true)))
def t_law_words_told3 : DS := (dSeq (dFor (dRng1 (lCons (dCB fLen (aCons (dVar 0) aNil)) lNil)) (gN 1) l_law_words_told1)
      t_law_words_told2)
def b_law_words_told : DS := (dSeq (dAsg 0 (dCall P_law_words.length F_law_words [] vNil))
      (dSeq (dIf (dOr (dNot (dTru (dIsi "tuple" (dC (.tup (c_WORDS.map Dt.str)))))) (dBinT fNe (dCB fLen (aCons (dC (.tup (c_WORDS.map Dt.str))) aNil)) (dCB fLen (aCons (dVar 0) aNil)))) (dRet (dC (.bl false))) dNext)
      t_law_words_told3))
theorem q_law_words_told {P : Program} {w : World} {K : PySem.W.Frag} {mg : Str → Option Value} {base : Heap} {PL : PoolP} {f : Addr} (D_law_words : Def P w K mg base PL CX0 1 "_law_words" s_law_words [] [] P_law_words F_law_words) (z_isinstance : mg "isinstance" = none) (z_len : mg "len" = none) (z_range : mg "range" = none) (z_str : mg "str" = none) (z_tuple : mg "tuple" = none) (g_WORDS : mg "WORDS" = some (.ref (He.ga K "WORDS"))) (r_WORDS : ∀ B, Rep K B (.tup (c_WORDS.map Dt.str)) (.ref (He.ga K "WORDS"))) {cdv : Value} {A : Around} {outer : List Env} {s : Shared} {H : Hp} {E : XK} (hr : Room 1 (A.deeper (envOfC "_law_words_told" (defScope s_law_words_told) s.heap.objs.size f cdv))) : QSs (cxOf CX0 P w K mg base N_law_words_told "_law_words_told" (defScope s_law_words_told) f cdv A outer s H E).nox PL (defBody s_law_words_told) b_law_words_told := by
  delta b_law_words_told t_law_words_told3 t_law_words_told2 l_law_words_told1
  exact (qss_cons (qs_set (i := 0) (qe_call0 D_law_words rfl rfl rfl rfl rfl bi_law_words (hr.mono (by decide)) (by rfl) pass0) sc_law_words_told.nd rfl (Or.inl rfl))
      (qss_cons (qs_if (QW.t (qw_or (qt_not (qt_val (qe_isi (T := "tuple") (by decide +kernel) (by rfl) z_isinstance (by rfl) z_tuple (by decide +kernel) (qe_glob (v := .ref (He.ga K "WORDS")) (by rfl) g_WORDS rfl r_WORDS)))) (qw_or1 (qt_cmp (opr_ne hr.units) opd_ne (qe_cb cr_lenA cd_len (by rfl) z_len (by decide +kernel) (qa_cons (qe_glob (v := .ref (He.ga K "WORDS")) (by rfl) g_WORDS rfl r_WORDS) qa_nil)) (qe_cb cr_lenA cd_len (by rfl) z_len (by decide +kernel) (qa_cons (qe_var (pv 0)) qa_nil)) (nomark _))))) (qss_one (qs_ret qe_bl)) qss_nil)
      (qss_cons (qs_for (qi_rng1 (ql_cons (qe_cb cr_lenA cd_len (by rfl) z_len (by decide +kernel) (qa_cons (qe_var (pv 0)) qa_nil)) ql_nil) (by rfl) z_range) (qg_name (i := 1) sc_law_words_told.nd rfl (Or.inl rfl)) (qss_one (qs_if (QW.t (qw_or (qt_not (qt_val (qe_isi (T := "str") (by decide +kernel) (by rfl) z_isinstance (by rfl) z_str (by decide +kernel) (qe_ix ix_seq opd_ix (qe_glob (v := .ref (He.ga K "WORDS")) (by rfl) g_WORDS rfl r_WORDS) (qe_var (pv 1)) (fun _ _ => rfl))))) (qw_or1 (qt_cmp (opr_ne hr.units) opd_ne (qe_ix ix_seq opd_ix (qe_glob (v := .ref (He.ga K "WORDS")) (by rfl) g_WORDS rfl r_WORDS) (qe_var (pv 1)) (fun _ _ => rfl)) (qe_ix ix_seq opd_ix (qe_var (pv 0)) (qe_var (pv 1)) (fun _ _ => rfl)) (nomark _))))) (qss_one (qs_ret qe_bl)) qss_nil)) PassesOwn.never rfl)
      (qss_one (qs_ret qe_bl)))))
def l_law_far1 : DS := (dAsg 2 (dBin fAddT (dVar 2) (dBin fIx (dVar 9) (dBin fMod (dCB fInt1 (aCons (dBin fAddT (dVar 10) (dBin fMul (dC (.int 7)) (dVar 11))) aNil)) (dCB fLen (aCons (dVar 9) aNil))))))
def t_law_far2 : DS := (dDrop (dMeth 3 mAppend (lCons (dCB fLen (aCons (dVar 2) aNil)) lNil)))
def l_law_far3 : DS := (dSeq (dAsg 9 (dBin fIx (dVar 1) (dBin fIx (dLst (lCons (dC (.int 0)) (lCons (dC (.int 2)) (lCons (dC (.int 1)) (lCons (dC (.int 2)) (lCons (dC (.int 0)) (lCons (dC (.int 3)) lNil))))))) (dCall P_law_take.length F_law_take [] (vOwn 0 (vCons (dC (.int 6)) vNil))))))
      (dSeq (dAsg 10 (dCall P_law_take.length F_law_take [] (vOwn 0 (vCons (dCB fLen (aCons (dVar 9) aNil)) vNil))))
      (dSeq (dFor (dRng1 (lCons (dBin fAddT (dBin fIx (dLst (lCons (dC (.int 1)) (lCons (dC (.int 9)) (lCons (dC (.int 280)) (lCons (dC (.int 600)) lNil))))) (dCall P_law_take.length F_law_take [] (vOwn 0 (vCons (dC (.int 4)) vNil)))) (dCall P_law_take.length F_law_take [] (vOwn 0 (vCons (dC (.int 60)) vNil)))) lNil)) (gN 11) l_law_far1)
      t_law_far2)))
def l_law_far4 : DS := (dSeq (dAsg 13 (dCall P_moved.length (F0 F_moved) [] (vCons (dVar 2) (vCons (dVar 12) (vCons (dVar 8) vNil)))))
      (dIf (dOr (dNot (dTru (dCall P_law_number.length F_law_number [] (vCons (dVar 13) vNil)))) (dBinT fNe (dVar 13) (dCall P_law_due.length F_law_due [] (vCons (dVar 2) (vCons (dVar 5) (vCons (dVar 6) (vCons (dVar 12) (vCons (dVar 8) vNil)))))))) (dRet (dC (.bl false))) dNext))
def l_law_far5 : DS := (dFor (dItems (dVar 7)) (gN 12) l_law_far4)
def t_law_far6 : DS := (dRet (dC (.bl true)))
def t_law_far7 : DS := (dSeq (dAsg 5 (dLc (dItems (dVar 2)) (gN 14) dYes (dCall P_law_class.length F_law_class [] (vCons (dVar 14) vNil)) [14]))
      (dSeq (dAsg 6 (dCall P_law_table.length F_law_table [] (vCons (dVar 2) vNil)))
      (dSeq (dAsg 7 (dBin fAddT (dVar 3) (dLst (lCons (dCB fMin2 (aCons (dCB fLen (aCons (dVar 2) aNil)) (aCons (dBin fAddT (dBin fIx (dVar 3) (dCall P_law_take.length F_law_take [] (vOwn 0 (vCons (dCB fLen (aCons (dVar 3) aNil)) vNil)))) (dC (.int 1))) aNil))) (lCons (dCall P_law_take.length F_law_take [] (vOwn 0 (vCons (dBin fAddT (dCB fLen (aCons (dVar 2) aNil)) (dC (.int 1))) vNil))) lNil)))))
      (dSeq (dFor (dItems (dCall P_law_words.length F_law_words [] vNil)) (gN 8) l_law_far5)
      t_law_far6))))
def b_law_far : DS := (dSeq (dAsg 1 (dCall P_law_classes.length F_law_classes [] vNil))
      (dSeq (dAsg 2 (dC (.str [])))
      (dSeq (dAsg 3 (dLst (lCons (dC (.int 0)) lNil)))
      (dSeq (dFor (dRng1 (lCons (dBin fAddT (dC (.int 3)) (dCall P_law_take.length F_law_take [] (vOwn 0 (vCons (dC (.int 4)) vNil)))) lNil)) (gN 4) l_law_far3)
      t_law_far7))))
theorem q_law_far {P : Program} {w : World} {K : PySem.W.Frag} {mg : Str → Option Value} {base : Heap} {PL : PoolP} {f : Addr} (D_law_classes : Def P w K mg base PL CX0 1 "_law_classes" s_law_classes [] [] P_law_classes F_law_classes) (D_law_table : Def P w K mg base PL CX0 1 "_law_table" s_law_table [] [] P_law_table F_law_table) (D_law_words : Def P w K mg base PL CX0 1 "_law_words" s_law_words [] [] P_law_words F_law_words) (D_law_take : Def P w K mg base PL CX0 1 "_law_take" s_law_take [] [] P_law_take F_law_take) (D_law_class : Def P w K mg base PL CX0 2 "_law_class" s_law_class [] [] P_law_class F_law_class) (D_moved : DefX P w K mg base PL 5 "moved" s_moved [] [] P_moved F_moved) (D_law_number : Def P w K mg base PL CX0 1 "_law_number" s_law_number [] [] P_law_number F_law_number) (D_law_due : Def P w K mg base PL CX0 2 "_law_due" s_law_due [] [] P_law_due F_law_due) (z_int : mg "int" = none) (z_len : mg "len" = none) (z_min : mg "min" = none) (z_range : mg "range" = none) {cdv : Value} {A : Around} {outer : List Env} {s : Shared} {H : Hp} {E : XK} (hr : Room 5 (A.deeper (envOfC "_law_far" (defScope s_law_far) s.heap.objs.size f cdv))) : QSs (cxOf CX0 P w K mg base N_law_far "_law_far" (defScope s_law_far) f cdv A outer s H E).nox PL (defBody s_law_far) b_law_far := by
  delta b_law_far t_law_far7 t_law_far6 l_law_far5 l_law_far4 l_law_far3 t_law_far2 l_law_far1
  exact (qss_cons (qs_set (i := 1) (qe_call0 D_law_classes rfl rfl rfl rfl rfl bi_law_classes (hr.mono (by decide)) (by rfl) pass0) sc_law_far.nd rfl (Or.inl rfl))
      (qss_cons (qs_set (i := 2) (qe_str [] (by decide +kernel)) sc_law_far.nd rfl (Or.inl rfl))
      (qss_cons (qs_set (i := 3) (qe_lst (ql_cons qe_int ql_nil)) sc_law_far.nd rfl (Or.inl rfl))
      (qss_cons (qs_for (qi_rng1 (ql_cons (qe_op opr_addT opd_addT qe_int (qe_call D_law_take rfl rfl rfl rfl rfl bi_law_take (qv_own (pv 0) (qv_cons qe_int qv_nil)) (hr.mono (by decide)) (by rfl) pass0)) ql_nil) (by rfl) z_range) (qg_name (i := 4) sc_law_far.nd rfl (Or.inl rfl)) (qss_cons (qs_set (i := 9) (qe_ix ix_seq opd_ix (qe_var (pv 1)) (qe_ix ix_seq opd_ix (qe_lst (ql_cons qe_int (ql_cons qe_int (ql_cons qe_int (ql_cons qe_int (ql_cons qe_int (ql_cons qe_int ql_nil))))))) (qe_call D_law_take rfl rfl rfl rfl rfl bi_law_take (qv_own (pv 0) (qv_cons qe_int qv_nil)) (hr.mono (by decide)) (by rfl) pass0) (fun _ _ => rfl)) (fun _ _ => rfl)) sc_law_far.nd rfl (Or.inl rfl))
      (qss_cons (qs_set (i := 10) (qe_call D_law_take rfl rfl rfl rfl rfl bi_law_take (qv_own (pv 0) (qv_cons (qe_cb cr_lenA cd_len (by rfl) z_len (by decide +kernel) (qa_cons (qe_var (pv 9)) qa_nil)) qv_nil)) (hr.mono (by decide)) (by rfl) pass0) sc_law_far.nd rfl (Or.inl rfl))
      (qss_cons (qs_for (qi_rng1 (ql_cons (qe_op opr_addT opd_addT (qe_ix ix_seq opd_ix (qe_lst (ql_cons qe_int (ql_cons qe_int (ql_cons qe_int (ql_cons qe_int ql_nil))))) (qe_call D_law_take rfl rfl rfl rfl rfl bi_law_take (qv_own (pv 0) (qv_cons qe_int qv_nil)) (hr.mono (by decide)) (by rfl) pass0) (fun _ _ => rfl)) (qe_call D_law_take rfl rfl rfl rfl rfl bi_law_take (qv_own (pv 0) (qv_cons qe_int qv_nil)) (hr.mono (by decide)) (by rfl) pass0)) ql_nil) (by rfl) z_range) (qg_name (i := 11) sc_law_far.nd rfl (Or.inl rfl)) (qss_one (qs_set (i := 2) (qe_op opr_addT opd_addT (qe_var (pv 2)) (qe_ix ix_seq opd_ix (qe_var (pv 9)) (qe_op op_mod opd_mod (qe_cty call_int1 cd_int1 (by rfl) z_int (by decide +kernel) (qa_cons (qe_op opr_addT opd_addT (qe_var (pv 10)) (qe_op opr_mul opd_mul qe_int (qe_var (pv 11)))) qa_nil)) (qe_cb cr_lenA cd_len (by rfl) z_len (by decide +kernel) (qa_cons (qe_var (pv 9)) qa_nil))) (fun _ _ => rfl))) sc_law_far.nd rfl (Or.inl rfl))) PassesOwn.never rfl)
      (qss_one (qs_expr (qe_meth (T := "list") PySem.F.plainAttrs_list PySem.F.slot_list_append PySem.F.type_list_append mt_append mut_append (pv 3) (ql_cons (qe_cb cr_lenA cd_len (by rfl) z_len (by decide +kernel) (qa_cons (qe_var (pv 2)) qa_nil)) ql_nil))))))) PassesOwn.never rfl)
      (qss_cons (qs_setLc (i := 5) (own := [("sign", 14)]) (qi_any (qe_var (pv 2))) (ng_name (i := 14) (by decide)) rfl sc_law_far.nd rfl rfl (sw_true rfl rfl rfl (by decide +kernel)) (blkOk_by (N := N_law_far) (sc := defScope s_law_far) (by decide +kernel)) (fun _ _ _ _ _ => (pg_name (i := 14) sc_law_far.nd rfl (Or.inl rfl))) (fun _ _ _ _ _ => qts_nil) (fun _ _ _ _ _ => (qe_call D_law_class rfl rfl rfl rfl rfl bi_law_class (qv_cons (qe_var (pv 14)) qv_nil) (hr.mono (by decide)) (by rfl) pass0)))
      (qss_cons (qs_set (i := 6) (qe_call D_law_table rfl rfl rfl rfl rfl bi_law_table (qv_cons (qe_var (pv 2)) qv_nil) (hr.mono (by decide)) (by rfl) pass0) sc_law_far.nd rfl (Or.inl rfl))
      (qss_cons (qs_set (i := 7) (qe_op opr_addT opd_addT (qe_var (pv 3)) (qe_lst (ql_cons (qe_cb (call_min2 rfl) cd_min2 (by rfl) z_min (by decide +kernel) (qa_cons (qe_cb cr_lenA cd_len (by rfl) z_len (by decide +kernel) (qa_cons (qe_var (pv 2)) qa_nil)) (qa_cons (qe_op opr_addT opd_addT (qe_ix ix_seq opd_ix (qe_var (pv 3)) (qe_call D_law_take rfl rfl rfl rfl rfl bi_law_take (qv_own (pv 0) (qv_cons (qe_cb cr_lenA cd_len (by rfl) z_len (by decide +kernel) (qa_cons (qe_var (pv 3)) qa_nil)) qv_nil)) (hr.mono (by decide)) (by rfl) pass0) (fun _ _ => rfl)) qe_int) qa_nil))) (ql_cons (qe_call D_law_take rfl rfl rfl rfl rfl bi_law_take (qv_own (pv 0) (qv_cons (qe_op opr_addT opd_addT (qe_cb cr_lenA cd_len (by rfl) z_len (by decide +kernel) (qa_cons (qe_var (pv 2)) qa_nil)) qe_int) qv_nil)) (hr.mono (by decide)) (by rfl) pass0) ql_nil)))) sc_law_far.nd rfl (Or.inl rfl))
      (qss_cons (qs_for (qi_any (qe_call0 D_law_words rfl rfl rfl rfl rfl bi_law_words (hr.mono (by decide)) (by rfl) pass0)) (qg_name (i := 8) sc_law_far.nd rfl (Or.inl rfl)) (qss_one (qs_for (qi_any (qe_var (pv 7))) (qg_name (i := 12) sc_law_far.nd rfl (Or.inl rfl)) (qss_cons (qs_set (i := 13) (qe_call D_moved.toDef rfl rfl rfl rfl rfl bi_moved (qv_cons (qe_var (pv 2)) (qv_cons (qe_var (pv 12)) (qv_cons (qe_var (pv 8)) qv_nil))) (hr.mono (by decide)) (by rfl) pass0) sc_law_far.nd rfl (Or.inl rfl))
      (qss_one (qs_if (QW.t (qw_or (qt_not (qt_val (qe_call D_law_number rfl rfl rfl rfl rfl bi_law_number (qv_cons (qe_var (pv 13)) qv_nil) (hr.mono (by decide)) (by rfl) pass0))) (qw_or1 (qt_cmp (opr_ne hr.units) opd_ne (qe_var (pv 13)) (qe_call D_law_due rfl rfl rfl rfl rfl bi_law_due (qv_cons (qe_var (pv 2)) (qv_cons (qe_var (pv 5)) (qv_cons (qe_var (pv 6)) (qv_cons (qe_var (pv 12)) (qv_cons (qe_var (pv 8)) qv_nil))))) (hr.mono (by decide)) (by rfl) pass0) (nomark _))))) (qss_one (qs_ret qe_bl)) qss_nil))) PassesOwn.never rfl)) PassesOwn.never rfl)
      (qss_one (qs_ret qe_bl))))))))))
def l_law1 : DS := (dSeq (dAsg 9 (dCall P_moved.length (F0 F_moved) [] (vCons (dVar 3) (vCons (dVar 8) (vCons (dVar 7) vNil)))))
      (dIf (dOr (dNot (dTru (dCall P_law_number.length F_law_number [] (vCons (dVar 9) vNil)))) (dBinT fNe (dVar 9) (dCall P_law_due.length F_law_due [] (vCons (dVar 3) (vCons (dVar 5) (vCons (dVar 6) (vCons (dVar 8) (vCons (dVar 7) vNil)))))))) (dRet (dC (.bl false))) dNext))
def t_law2 : DS := (dSeq (dAsg 10 (dBin fAddT (dBin fAddT (dVar 2) (dC (.int 1))) (dBin fIx (dLst (lCons (dC (.int 0)) (lCons (dC (.int 0)) (lCons (dC (.int 1)) (lCons (dC (.int 5)) (lCons (dCall P_law_take.length F_law_take [] (vOwn 1 (vCons (dC (.int 3900)) vNil))) lNil)))))) (dCall P_law_take.length F_law_take [] (vOwn 1 (vCons (dC (.int 5)) vNil))))))
      (dIf (dNot (dTru (dCall P_law_refused.length F_law_refused [] (vCons (dVar 3) (vCons (dVar 10) (vCons (dVar 7) vNil)))))) (dRet (dC (.bl false))) dNext))
def l_law3 : DS := (dSeq (dFor (dItems (dVar 4)) (gN 8) l_law1)
      t_law2)
def t_law4 : DS := (dRet (dOrV (dBin fGt (dCall P_law_take.length F_law_take [] (vOwn 1 (vCons (dC (.int 13)) vNil))) (dC (.int 0))) (dCall P_law_far.length F_law_far [] (vOwn 1 vNil))))
def t_law5 : DS := (dSeq (dAsg 8 (dBin fIx (dVar 4) (dCall P_law_take.length F_law_take [] (vOwn 1 (vCons (dCB fLen (aCons (dVar 4) aNil)) vNil)))))
      (dSeq (dAsg 9 (dCallK P_moved.length 0 3 (F0 F_moved) (fun avs kvs => pick (.dat .non) [.inr 1, .inr 2, .inr 0] avs kvs ++ []) vNil (vCons (dC (.str [119, 111, 114, 100])) (vCons (dVar 3) (vCons (dVar 8) vNil)))))
      (dSeq (dIf (dOr (dNot (dTru (dCall P_law_number.length F_law_number [] (vCons (dVar 9) vNil)))) (dBinT fNe (dVar 9) (dCall P_law_on.length F_law_on [] (vCons (dVar 5) (vCons (dVar 8) vNil))))) (dRet (dC (.bl false))) dNext)
      t_law4)))
def t_law6 : DS := (dSeq (dFor (dItems (dCall P_law_words.length F_law_words [] vNil)) (gN 7) l_law3)
      t_law5)
def t_law7 : DS := (dSeq (dAsg 5 (dLc (dItems (dVar 3)) (gN 12) dYes (dCall P_law_class.length F_law_class [] (vCons (dVar 12) vNil)) [12]))
      (dSeq (dAsg 6 (dCall P_law_table.length F_law_table [] (vCons (dVar 3) vNil)))
      (dSeq (dIf (dNot (dTru (dCall P_law_words_told.length F_law_words_told [] vNil))) (dRet (dC (.bl false))) dNext)
      t_law6)))
def t_law8 : DS := (dSeq (dAsg 2 (dCB fLen (aCons (dVar 3) aNil)))
      (dSeq (dAsg 4 (dLstRg (dBin fAddT (dVar 2) (dC (.int 1)))))
      (dSeq (dIf (dBinT fGt (dVar 2) (dC (.int 20))) (dAsg 4 (dBin fAddT (dLst (lCons (dC (.int 0)) (lCons (dVar 2) lNil))) (dLc (dRng1 (lCons (dC (.int 12)) lNil)) (gN 11) dYes (dCall P_law_take.length F_law_take [] (vOwn 1 (vCons (dBin fAddT (dVar 2) (dC (.int 1))) vNil))) [11]))) dNext)
      t_law7)))
def t_law9 : DS := (dSeq (dIf (dBinT fEq (dCall P_law_take.length F_law_take [] (vOwn 1 (vCons (dC (.int 6)) vNil))) (dC (.int 1))) (dAsg 3 (dCall P_law_runs.length F_law_runs [] (vOwn 1 vNil))) dNext)
      t_law8)
def t_law10 : DS := (dSeq (dAsg 3 (dCall P_law_text.length F_law_text [] (vOwn 1 (vCons (dVar 2) vNil))))
      (dSeq (dIf (dAnd (dBinT fGt (dVar 2) (dC (.int 12))) (dBinT fEq (dCall P_law_take.length F_law_take [] (vOwn 1 (vCons (dC (.int 2)) vNil))) (dC (.int 1)))) (dAsg 3 (dBin fAddT (dBin fAddT (dReplW [10] [97] (dSlT (dVar 3) dNoPart (dPart (dBin fDiv (dVar 2) (dC (.int 2)))))) (dC (.str [10]))) (dReplW [10] [32] (dSlT (dVar 3) (dPart (dBin fAddT (dBin fDiv (dVar 2) (dC (.int 2))) (dC (.int 1)))) dNoPart)))) dNext)
      t_law9))
def b_law : DS := (dSeq (dAsg 1 (dCall P_law_draws.length F_law_draws [] (vCons (dVar 0) vNil)))
      (dSeq (dAsg 2 (dCall P_law_take.length F_law_take [] (vOwn 1 (vCons (dC (.int 21)) vNil))))
      (dSeq (dIf (dBinT fEq (dCall P_law_take.length F_law_take [] (vOwn 1 (vCons (dC (.int 8)) vNil))) (dC (.int 2))) (dAsg 2 (dBin fAddT (dC (.int 30)) (dCall P_law_take.length F_law_take [] (vOwn 1 (vCons (dC (.int 50)) vNil))))) dNext)
      t_law10)))
theorem q_law {P : Program} {w : World} {K : PySem.W.Frag} {mg : Str → Option Value} {base : Heap} {PL : PoolP} {f : Addr} (D_law_draws : Def P w K mg base PL CX0 1 "_law_draws" s_law_draws [] [] P_law_draws F_law_draws) (D_law_take : Def P w K mg base PL CX0 1 "_law_take" s_law_take [] [] P_law_take F_law_take) (D_law_text : Def P w K mg base PL CX0 2 "_law_text" s_law_text [] [] P_law_text F_law_text) (D_law_table : Def P w K mg base PL CX0 1 "_law_table" s_law_table [] [] P_law_table F_law_table) (D_law_words : Def P w K mg base PL CX0 1 "_law_words" s_law_words [] [] P_law_words F_law_words) (D_moved : DefX P w K mg base PL 5 "moved" s_moved [] [] P_moved F_moved) (D_law_runs : Def P w K mg base PL CX0 3 "_law_runs" s_law_runs [] [] P_law_runs F_law_runs) (D_law_class : Def P w K mg base PL CX0 2 "_law_class" s_law_class [] [] P_law_class F_law_class) (D_law_words_told : Def P w K mg base PL CX0 2 "_law_words_told" s_law_words_told [] [] P_law_words_told F_law_words_told) (D_law_far : Def P w K mg base PL CX0 6 "_law_far" s_law_far [] [] P_law_far F_law_far) (D_law_refused : Def P w K mg base PL CX0 6 "_law_refused" s_law_refused [] [] P_law_refused F_law_refused) (D_law_number : Def P w K mg base PL CX0 1 "_law_number" s_law_number [] [] P_law_number F_law_number) (D_law_on : Def P w K mg base PL CX0 1 "_law_on" s_law_on [] [] P_law_on F_law_on) (D_law_due : Def P w K mg base PL CX0 2 "_law_due" s_law_due [] [] P_law_due F_law_due) (z_len : mg "len" = none) (z_list : mg "list" = none) (z_range : mg "range" = none) {cdv : Value} {A : Around} {outer : List Env} {s : Shared} {H : Hp} {E : XK} (hr : Room 6 (A.deeper (envOfC "law" (defScope s_law) s.heap.objs.size f cdv))) : QSs (cxOf CX0 P w K mg base N_law "law" (defScope s_law) f cdv A outer s H E).nox PL (defBody s_law) b_law := by
  delta b_law t_law10 t_law9 t_law8 t_law7 t_law6 t_law5 t_law4 l_law3 t_law2 l_law1
  exact (qss_cons (qs_set (i := 1) (qe_call D_law_draws rfl rfl rfl rfl rfl bi_law_draws (qv_cons (qe_var (pv 0)) qv_nil) (hr.mono (by decide)) (by rfl) pass0) sc_law.nd rfl (Or.inr rfl))
      (qss_cons (qs_set (i := 2) (qe_call D_law_take rfl rfl rfl rfl rfl bi_law_take (qv_own (pv 1) (qv_cons qe_int qv_nil)) (hr.mono (by decide)) (by rfl) pass0) sc_law.nd rfl (Or.inr rfl))
      (qss_cons (qs_if (qt_cmp (opr_eq hr.units) opd_eq (qe_call D_law_take rfl rfl rfl rfl rfl bi_law_take (qv_own (pv 1) (qv_cons qe_int qv_nil)) (hr.mono (by decide)) (by rfl) pass0) qe_int (nomark _)) (qss_one (qs_set (i := 2) (qe_op opr_addT opd_addT qe_int (qe_call D_law_take rfl rfl rfl rfl rfl bi_law_take (qv_own (pv 1) (qv_cons qe_int qv_nil)) (hr.mono (by decide)) (by rfl) pass0)) sc_law.nd rfl (Or.inr rfl))) qss_nil)
      (qss_cons (qs_set (i := 3) (qe_call D_law_text rfl rfl rfl rfl rfl bi_law_text (qv_own (pv 1) (qv_cons (qe_var (pv 2)) qv_nil)) (hr.mono (by decide)) (by rfl) pass0) sc_law.nd rfl (Or.inl rfl))
      (qss_cons (qs_if (QW.t (qw_and (qt_cmp op_gt opd_gt (qe_var (pv 2)) qe_int (nomark _)) (qw_and1 (qt_cmp (opr_eq hr.units) opd_eq (qe_call D_law_take rfl rfl rfl rfl rfl bi_law_take (qv_own (pv 1) (qv_cons qe_int qv_nil)) (hr.mono (by decide)) (by rfl) pass0) qe_int (nomark _))))) (qss_one (qs_set (i := 3) (qe_op opr_addT opd_addT (qe_op opr_addT opd_addT (qe_repl1 (q1_slT (qe_var (pv 3)) qo_none (qo_some (qe_op op_fdiv opd_div (qe_var (pv 2)) qe_int)) (Or.inr (o1_of (q1_op op_fdiv opd_div (qe_var (pv 2)) q1_int)))) (show _ = S [10] by decide +kernel) (show _ = S [97] by decide +kernel) (by decide +kernel)) (qe_str [10] (by decide +kernel))) (qe_repl1 (q1_slT (qe_var (pv 3)) (qo_some (qe_op opr_addT opd_addT (qe_op op_fdiv opd_div (qe_var (pv 2)) qe_int) qe_int)) qo_none (Or.inl (o1_of (q1_op opr_addT opd_addT (qe_op op_fdiv opd_div (qe_var (pv 2)) qe_int) q1_int)))) (show _ = S [10] by decide +kernel) (show _ = S [32] by decide +kernel) (by decide +kernel))) sc_law.nd rfl (Or.inl rfl))) qss_nil)
      (qss_cons (qs_if (qt_cmp (opr_eq hr.units) opd_eq (qe_call D_law_take rfl rfl rfl rfl rfl bi_law_take (qv_own (pv 1) (qv_cons qe_int qv_nil)) (hr.mono (by decide)) (by rfl) pass0) qe_int (nomark _)) (qss_one (qs_set (i := 3) (qe_call D_law_runs rfl rfl rfl rfl rfl bi_law_runs (qv_own (pv 1) qv_nil) (hr.mono (by decide)) (by rfl) pass0) sc_law.nd rfl (Or.inl rfl))) qss_nil)
      (qss_cons (qs_set (i := 2) (qe_cb cr_lenA cd_len (by rfl) z_len (by decide +kernel) (qa_cons (qe_var (pv 3)) qa_nil)) sc_law.nd rfl (Or.inr rfl))
      (qss_cons (qs_set (i := 4) (qe_lstRg rfl (by rfl) z_list (by rfl) z_range (qe_op opr_addT opd_addT (qe_var (pv 2)) qe_int)) sc_law.nd rfl (Or.inl rfl))
      (qss_cons (qs_if (qt_cmp op_gt opd_gt (qe_var (pv 2)) qe_int (nomark _)) (qss_one (qs_set (i := 4) (qe_op opr_addT opd_addT (qe_lst (ql_cons qe_int (ql_cons (qe_var (pv 2)) ql_nil))) (qe_lc (own := [("k", 11)]) (qi_rng1 (ql_cons qe_int ql_nil) (by rfl) z_range) (ng_name (i := 11) (by decide)) rfl sc_law.nd (blkOk_by (N := N_law) (sc := defScope s_law) (by decide +kernel)) (fun _ _ _ _ _ => (pg_name (i := 11) sc_law.nd rfl (Or.inl rfl))) (fun _ _ _ _ _ => qts_nil) (fun _ _ _ _ _ => (qe_call D_law_take rfl rfl rfl rfl rfl bi_law_take (qv_own (pv 1) (qv_cons (qe_op opr_addT opd_addT (qe_var (pv 2)) qe_int) qv_nil)) (hr.mono (by decide)) (by rfl) pass0)))) sc_law.nd rfl (Or.inl rfl))) qss_nil)
      (qss_cons (qs_setLc (i := 5) (own := [("sign", 12)]) (qi_any (qe_var (pv 3))) (ng_name (i := 12) (by decide)) rfl sc_law.nd rfl rfl (sw_true rfl rfl rfl (by decide +kernel)) (blkOk_by (N := N_law) (sc := defScope s_law) (by decide +kernel)) (fun _ _ _ _ _ => (pg_name (i := 12) sc_law.nd rfl (Or.inl rfl))) (fun _ _ _ _ _ => qts_nil) (fun _ _ _ _ _ => (qe_call D_law_class rfl rfl rfl rfl rfl bi_law_class (qv_cons (qe_var (pv 12)) qv_nil) (hr.mono (by decide)) (by rfl) pass0)))
      (qss_cons (qs_set (i := 6) (qe_call D_law_table rfl rfl rfl rfl rfl bi_law_table (qv_cons (qe_var (pv 3)) qv_nil) (hr.mono (by decide)) (by rfl) pass0) sc_law.nd rfl (Or.inl rfl))
      (qss_cons (qs_if (qt_not (qt_val (qe_call0 D_law_words_told rfl rfl rfl rfl rfl bi_law_words_told (hr.mono (by decide)) (by rfl) pass0))) (qss_one (qs_ret qe_bl)) qss_nil)
      (qss_cons (qs_for (qi_any (qe_call0 D_law_words rfl rfl rfl rfl rfl bi_law_words (hr.mono (by decide)) (by rfl) pass0)) (qg_name (i := 7) sc_law.nd rfl (Or.inl rfl)) (qss_cons (qs_for (qi_any (qe_var (pv 4))) (qg_name (i := 8) sc_law.nd rfl (Or.inl rfl)) (qss_cons (qs_set (i := 9) (qe_call D_moved.toDef rfl rfl rfl rfl rfl bi_moved (qv_cons (qe_var (pv 3)) (qv_cons (qe_var (pv 8)) (qv_cons (qe_var (pv 7)) qv_nil))) (hr.mono (by decide)) (by rfl) pass0) sc_law.nd rfl (Or.inl rfl))
      (qss_one (qs_if (QW.t (qw_or (qt_not (qt_val (qe_call D_law_number rfl rfl rfl rfl rfl bi_law_number (qv_cons (qe_var (pv 9)) qv_nil) (hr.mono (by decide)) (by rfl) pass0))) (qw_or1 (qt_cmp (opr_ne hr.units) opd_ne (qe_var (pv 9)) (qe_call D_law_due rfl rfl rfl rfl rfl bi_law_due (qv_cons (qe_var (pv 3)) (qv_cons (qe_var (pv 5)) (qv_cons (qe_var (pv 6)) (qv_cons (qe_var (pv 8)) (qv_cons (qe_var (pv 7)) qv_nil))))) (hr.mono (by decide)) (by rfl) pass0) (nomark _))))) (qss_one (qs_ret qe_bl)) qss_nil))) PassesOwn.never rfl)
      (qss_cons (qs_set (i := 10) (qe_op opr_addT opd_addT (qe_op opr_addT opd_addT (qe_var (pv 2)) qe_int) (qe_ix ix_seq opd_ix (qe_lst (ql_cons qe_int (ql_cons qe_int (ql_cons qe_int (ql_cons qe_int (ql_cons (qe_call D_law_take rfl rfl rfl rfl rfl bi_law_take (qv_own (pv 1) (qv_cons qe_int qv_nil)) (hr.mono (by decide)) (by rfl) pass0) ql_nil)))))) (qe_call D_law_take rfl rfl rfl rfl rfl bi_law_take (qv_own (pv 1) (qv_cons qe_int qv_nil)) (hr.mono (by decide)) (by rfl) pass0) (fun _ _ => rfl))) sc_law.nd rfl (Or.inl rfl))
      (qss_one (qs_if (qt_not (qt_val (qe_call D_law_refused rfl rfl rfl rfl rfl bi_law_refused (qv_cons (qe_var (pv 3)) (qv_cons (qe_var (pv 10)) (qv_cons (qe_var (pv 7)) qv_nil))) (hr.mono (by decide)) (by rfl) pass0))) (qss_one (qs_ret qe_bl)) qss_nil)))) PassesOwn.never rfl)
      (qss_cons (qs_set (i := 8) (qe_ix ix_seq opd_ix (qe_var (pv 4)) (qe_call D_law_take rfl rfl rfl rfl rfl bi_law_take (qv_own (pv 1) (qv_cons (qe_cb cr_lenA cd_len (by rfl) z_len (by decide +kernel) (qa_cons (qe_var (pv 4)) qa_nil)) qv_nil)) (hr.mono (by decide)) (by rfl) pass0) (fun _ _ => rfl)) sc_law.nd rfl (Or.inl rfl))
      (qss_cons (qs_set (i := 9) (qe_callN0 (ks := ["word", "text", "place"]) D_moved.toDef rfl rfl rfl rfl rfl kb_moved_0 (qk_cons (qe_str [119, 111, 114, 100] (by decide +kernel)) (qk_cons (qe_var (pv 3)) (qk_cons (qe_var (pv 8)) qk_nil))) (hr.mono (by decide)) (by rfl) pass0) sc_law.nd rfl (Or.inl rfl))
      (qss_cons (qs_if (QW.t (qw_or (qt_not (qt_val (qe_call D_law_number rfl rfl rfl rfl rfl bi_law_number (qv_cons (qe_var (pv 9)) qv_nil) (hr.mono (by decide)) (by rfl) pass0))) (qw_or1 (qt_cmp (opr_ne hr.units) opd_ne (qe_var (pv 9)) (qe_call D_law_on rfl rfl rfl rfl rfl bi_law_on (qv_cons (qe_var (pv 5)) (qv_cons (qe_var (pv 8)) qv_nil)) (hr.mono (by decide)) (by rfl) pass0) (nomark _))))) (qss_one (qs_ret qe_bl)) qss_nil)
      (qss_one (qs_ret (qe_or (qe_cmp op_gt opd_gt (qe_call D_law_take rfl rfl rfl rfl rfl bi_law_take (qv_own (pv 1) (qv_cons qe_int qv_nil)) (hr.mono (by decide)) (by rfl) pass0) qe_int (nomark _)) (qe_one (qe_call D_law_far rfl rfl rfl rfl rfl bi_law_far (qv_own (pv 1) qv_nil) (hr.mono (by decide)) (by rfl) pass0)))))))))))))))))))))
end K48

namespace K48
open PySem PySem.Spec PyProof.Rows L2 Cl
local macro_rules | `(tactic| walk_at "cl") => `(tactic| simp only [c0, toSlot, pick, wipeC, e_dSeq, e_dAsg, e_dAsgG, e_dIf, e_dTru, e_dC, e_dBin, e_dBinT, e_dUn, e_dRet, e_dRetN, e_dDrop, e_dMeth, e_dNext, e_dBreak, e_dCont, e_dAnd, e_dOr, e_dNot, e_dAndV, e_dOrV, e_dNotV, e_dIfE, e_dTup, e_dLst, e_dCB, e_dSl, e_dNoPart, e_dIsi, e_dYes, e_aCons, e_aNil, e_lCons, e_lNil, e_vCons, e_vNil, e_dItems, e_dRng2, e_dRng3, e_dCall, e_dCallK, e_dRev, e_dEnum, c_on1_dat, c_on1_sl, c_onS_dat, c_onS_own, c_onS_arg, c_on2, c_hd_dat, c_hd_sl, c_hd_new, c_asD_dat, c_asD_new, c_asD_sl, c_asS_dat, c_asS_own, c_var, c_varS_dat, c_varS_own, c_varS_arg, c_blR, c_blD, c_tru_non, c_tru_bl, c_tru_int, c_tru_lst, c_tru_tup, c_put_dat, c_put_new, c_put_sl, c_putS_dat, c_putS_own, c_toRet_dat, c_toRet_new, c_toRet_sl, c_toRetS_dat, c_toRetS_own, c_retC_dat, c_retC_new, c_ends_rt, c_ends_nx, c_ends_bk, c_ends_ct, c_retB_dat, c_retB_new, c_retB_sl, c_retBS_own, c_bk_nil, c_bk_dat, c_bk_ob, c_gt0, c_gtS, c_fsub, c_faddI, c_fadd_int, c_fadd_str, c_fadd_lst, c_fadd_tup, c_fmul_int, c_fmul_lst, c_fmul_str, c_fdiv, c_fmod, c_fpow, c_fshl, c_fshr, c_fand, c_for, c_fxor, c_flt, c_fle, c_fgt, c_fge, c_fneg, c_feq_int, c_fne_int, c_feq_str, c_fne_str, c_feq_bl, c_fne_bl, c_fin_str, c_fin_lst, c_fin_tup, c_fisn, c_fisb, c_isn_non, c_isb_non, c_tyd_non, c_isn_bl, c_isb_bl, c_tyd_bl, c_isn_int, c_isb_int, c_tyd_int, c_isn_str, c_isb_str, c_tyd_str, c_isn_tup, c_isb_tup, c_tyd_tup, c_isn_lst, c_isb_lst, c_tyd_lst, c_isn_frz, c_isb_frz, c_tyd_frz, c_isi_NoneType_bool, c_isi_NoneType_int, c_isi_NoneType_str, c_isi_NoneType_tuple, c_isi_NoneType_list, c_isi_bool_bool, c_isi_bool_int, c_isi_bool_str, c_isi_bool_tuple, c_isi_bool_list, c_isi_int_bool, c_isi_int_int, c_isi_int_str, c_isi_int_tuple, c_isi_int_list, c_isi_str_bool, c_isi_str_int, c_isi_str_str, c_isi_str_tuple, c_isi_str_list, c_isi_tuple_bool, c_isi_tuple_int, c_isi_tuple_str, c_isi_tuple_tuple, c_isi_tuple_list, c_isi_list_bool, c_isi_list_int, c_isi_list_str, c_isi_list_tuple, c_isi_list_list, c_fix_lst, c_fix_tup, c_fix_frz, c_fix_str, c_ixL0, c_ixL1, c_ixL2, c_ixL3, c_len_lst, c_len_tup, c_len_frz, c_len_str, c_int1_int, c_int1_bl, c_abs, c_min2, c_max2, c_len, c_int1, c_fabs, c_ftuple, c_flist, c_tuple_lst, c_tuple_tup, c_list_lst, c_list_tup, c_sl_lst, c_sl_str, c_sl_tup, c_part_int, c_part, c_mappend, c_mpop, c_obS_own, c_setS_own, c_obS_arg, c_setS_arg, c_obL, c_setL, c_setIx, c_ixQ, c_setN, c_ixN10, c_ixN20, c_ixN21, c_ixN30, c_ixN31, c_ixN32, c_mt, c_mtQ, c_vws_nil, c_vws_cons, c_rfind4, c_rfind, c_join_lst, c_join_tup, c_one1, c_cints2, c_cints3, c_own, c_isOb_own, c_isOb_arg, c_callQ, c_look_nil, c_look_dat, c_look_own, c_lookS_own, c_lookS_arg, c_nd_nil, c_nd_dat, c_nd_own, c_ni_nil, c_ni_dat, c_ni_own, c_putA_nil, c_putA_cons, c_new_none, c_new_arg, c_new_own, c_oa_nil, c_oa_dat, c_oa_own, c_gT, c_gsCons, c_gsNil, c_gN, c_it_lst, c_it_tup, c_it_frz, c_it_str, c_rng1, c_rngQ, c_par, c_two, c_aug, c_augS, c_loop, c_lc, List.map_cons, List.map_nil, List.length_cons, List.length_nil, Nat.reduceAdd, Nat.reduceSub, Nat.reduceLT, Nat.reduceLeDiff, Nat.zero_le, List.replicate, List.cons_append, List.nil_append, List.append_nil, List.set_cons_zero, List.set_cons_succ, List.getD_cons_zero, List.getD_cons_succ, br_true, br_false, br_not, br_dec, true_and, and_true, if_true, if_false, reduceIte, reduceCtorEq, Nat.reduceEqDiff, Nat.reduceBNe, Bool.and_true, Bool.true_and, Bool.bne_false, Bool.bne_true, Bool.not_true, Bool.not_false, Bool.true_bne, Bool.false_bne, not_true_eq_false, not_false_eq_true, implies_true, one_eq, rngD_length, rngC_length, Int.reduceToNat, Int.cast_ofNat_Int, Int.natCast_one, Int.natCast_zero, Int.reduceEq, eq_self, true_implies, false_implies, not_false_eq_true, Int.reducePow, Int.reduceNeg, Int.reduceLT, Int.reduceLE, true_or, or_true, decide_eq_true_eq, beq_self_eq_true, Nat.zero_add, c_unw_nil, c_unw, c_unwS_no, c_unwS_dat, c_rev_lst, c_rev_tup, c_oneD, c_bad, c_ext, c_extK, c_mrev, c_popAt, c_popK, c_idx, c_forA, fEq_pair, fNe_pair, e_dIsiT, e_dLstRg, c_rgL, c_idxD, c_gL, c_isiD_bool, c_isiD_int, c_isiD_str, c_isiD_tuple, c_isiD_list, c_isiD_NoneType, Bool.or_false, Bool.false_or, Bool.or_true, Bool.true_or, Bool.and_false, Bool.false_and, e_dZip2, e_dZip3, c_twoD, c_threeD, c_zip2t, c_zip2l, c_zip3t, c_addT_int, c_addT_str, c_addT_lst, c_addT_tup, e_dSlT, c_slT_lst, c_slT_tup, c_slT_str, c_ntB, e_dRvT, c_rvT, c_finD, e_dIdxS, c_slL, c_endsX_rt, c_endsX_nx, c_endsX_ra, e_dCallX, e_dDropX, e_dAsgX, e_dAsgGX, e_dRetX, e_dRaise, e_dTry, c_catchX, e_dFld, c_fieldX, c_lookF, c_mtL1, c_in1, e_dEmp, c_gSubI, c_tyd_emp, c_isi_dict_bool, c_isi_dict_int, c_isi_dict_str, c_isi_dict_tuple, c_isi_dict_list, c_isi_dict_dict, c_min2, c_intS, e_dGetL, c_getLS, e_dReplW, c_replWD, e_dSrtSet, c_srtSet, e_dChain, e_dChainT, c_sorted_lst, c_sorted_tup, c_sorted_frz, c_sum, c_all, c_any, c_minI2, c_maxI2, c_minI_lst, c_maxI_lst, e_dRvL, c_rvL, e_dZipM, c_sq_lst, c_sq_tup, c_sq_frz, e_dIsE, c_isED, e_dDisp, c_wrd, c_count1, c_count4, c_find3, c_find, c_split, c_listS, c_tupleS])
theorem take_ok {m : Int} {R : Res → List AArg → Prop} (h1 : 1 ≤ m) (h2 : m ≤ 1000000) (h : ∀ r : Int, 0 ≤ r → r < m → R (.dat (.int r)) [.ob .pool, .dat (.int m)]) : F_law_take [.ob .pool, .dat (.int m)] R := ⟨m, rfl, h1, h2, h⟩
theorem while_i {t : DT} {body : DS} {E : CEnds} {c : CEnv} (I : Nat → CEnv → Prop) (h0 : ∃ m, I m c) (hs : ∀ m c', I m c' → t c' fun b c2 => br b (body { nx := fun c3 => ∃ m', m' < m ∧ I m' c3, rt := E.rt, bk := E.nx, ct := fun c3 => ∃ m', m' < m ∧ I m' c3, ra := E.ra } c2) (E.nx c2)) : dWhile t body E c := ⟨I, h0, hs⟩
def all95 : List Nat := lets ++ digs ++ oths ++ [32, 10]
theorem cl_all {ch : Nat} (h : cl ch < 4) : ch ∈ all95 := by
  unfold cl at h
  unfold all95
  by_cases h1 : ch ∈ lets ++ digs
  · exact List.mem_append_left _ (List.mem_append_left _ h1)
  · rw [if_neg h1] at h
    by_cases h2 : ch ∈ oths
    · exact List.mem_append_left _ (List.mem_append_right _ h2)
    · rw [if_neg h2] at h
      by_cases h3 : ch ∈ [32]
      · exact List.mem_append_right _ (by simp at h3; simp [h3])
      · rw [if_neg h3] at h
        by_cases h4 : ch ∈ [10]
        · exact List.mem_append_right _ (by simp at h4; simp [h4])
        · rw [if_neg h4] at h
          omega
theorem all_by {P : Nat → Prop} [DecidablePred P] (h : all95.all (fun ch => decide (P ch)) = true) {ch : Nat} (hc : cl ch < 4) : P ch := of_decide_eq_true (List.all_eq_true.mp h ch (cl_all hc))
def kdP (ch : Nat) : List Nat := if ch = 10 then [102, 101, 101, 100] else if ch = 32 then [98, 108, 97, 110, 107] else if ch ∈ c_DIGITS then [100, 105, 103, 105, 116] else if ch = 95 ∨ ch ∈ c_SMALL_LETTERS ∨ ch ∈ c_GREAT_LETTERS then [108, 101, 116, 116, 101, 114] else [111, 116, 104, 101, 114]
theorem kdP_eq {ch : Nat} (h : cl ch < 4) : kdP ch = kd ch := all_by (P := fun ch => kdP ch = kd ch) (by decide +kernel) h
theorem nm_kd {ch : Nat} (h : cl ch < 4) : (if kd ch = [100, 105, 103, 105, 116] then nm 0 else kd ch) = nm (cl ch) := all_by (P := fun ch => (if kd ch = [100, 105, 103, 105, 116] then nm 0 else kd ch) = nm (cl ch)) (by decide +kernel) h
theorem nm_inj {c d : Nat} (hc : c < 4) (hd : d < 4) : nm c = nm d ↔ c = d := by
  have h : ∀ c < 4, ∀ d < 4, (nm c = nm d ↔ c = d) := by decide
  exact h c hc d hd
theorem red_kind_of : ∀ as R, as.length = P_kind_of.length → F_kind_of as R → b_kind_of (fnEnds as R) (c0 as N_kind_of.length) := by
  rintro as R - ⟨ch, rfl, hc, hR⟩
  rw [← kdP_eq hc] at hR
  unfold kdP at hR
  unfold b_kind_of
  walk_at "cl"
  unfold t_kind_of1
  walk_at "cl"
  by_cases h1 : ch = 10
  · rw [if_pos h1] at hR
    exact ⟨fun _ => hR, fun z => absurd h1 z⟩
  rw [if_neg h1] at hR
  refine ⟨fun z => absurd z h1, fun _ => ?_⟩
  by_cases h2 : ch = 32
  · rw [if_pos h2] at hR
    exact ⟨fun _ => hR, fun z => absurd h2 z⟩
  rw [if_neg h2] at hR
  refine ⟨fun z => absurd z h2, fun _ => ?_⟩
  by_cases h3 : ch ∈ c_DIGITS
  · rw [if_pos h3] at hR
    exact ⟨fun _ => hR, fun z => absurd h3 z⟩
  rw [if_neg h3] at hR
  refine ⟨fun z => absurd z h3, fun _ => ?_⟩
  by_cases h4 : ch = 95 ∨ ch ∈ c_SMALL_LETTERS ∨ ch ∈ c_GREAT_LETTERS
  · rw [if_pos h4] at hR
    exact ⟨fun _ => hR, fun g1 => ⟨fun _ => hR, fun g2 => ⟨fun _ => hR, fun g3 => absurd h4 (by rintro (z | z | z); exact g1 z; exact g2 z; exact g3 z)⟩⟩⟩
  · rw [if_neg h4] at hR
    exact ⟨fun z => absurd (.inl z) h4, fun g1 => ⟨fun z => absurd (.inr (.inl z)) h4, fun g2 => ⟨fun z => absurd (.inr (.inr z)) h4, fun _ => hR⟩⟩⟩
theorem ki_ok {ch : Nat} {R : Res → List AArg → Prop} (h : cl ch < 4) (hR : R (.dat (.str (kd ch))) [.dat (.str [ch])]) : F_kind_of [.dat (.str [ch])] R := ⟨ch, rfl, h, hR⟩
theorem red_run_kind : ∀ as R, as.length = P_run_kind.length → F_run_kind as R → b_run_kind (fnEnds as R) (c0 as N_run_kind.length) := by
  rintro as R - ⟨ch, rfl, hc, hR⟩
  have e := nm_kd hc
  unfold b_run_kind
  walk_at "cl"
  refine ki_ok hc ?_
  walk_at "cl"
  by_cases h : kd ch = [100, 105, 103, 105, 116]
  · rw [if_pos h] at e
    rw [← e] at hR
    exact ⟨fun _ => hR, fun z => absurd h z⟩
  · rw [if_neg h] at e
    rw [← e] at hR
    exact ⟨fun z => absurd z h, fun _ => hR⟩
theorem rk_ok {ch : Nat} {R : Res → List AArg → Prop} (h : cl ch < 4) (hR : R (.dat (.str (nm (cl ch)))) [.dat (.str [ch])]) : F_run_kind [.dat (.str [ch])] R := ⟨ch, rfl, h, hR⟩
theorem cA_at {t : List Nat} {k : Nat} (h : k < t.length) : cA t k = cl t[k] ∧ t[k]? = some t[k] := by
  refine ⟨?_, List.getElem?_eq_getElem h⟩
  unfold cA
  rw [List.getD_eq_getElem?_getD, List.getElem?_eq_getElem h]
  rfl
theorem Gp.at {t : List Nat} {k : Nat} (g : Gp t) (h : k < t.length) : cA t k < 4 := by
  rw [(cA_at h).1]
  exact g _ (List.getElem_mem h)
theorem red_spot_of : ∀ as R, as.length = P_spot_of.length → F_spot_of as R → b_spot_of (fnEnds as R) (c0 as N_spot_of.length) := by
  rintro as R - ⟨t, p, rfl, hl, hp, hR⟩
  unfold b_spot_of
  walk_at "cl"
  unfold t_spot_of1
  walk_at "cl"
  refine ⟨by omega, fun z => by omega, fun _ => ⟨by omega, by omega, fun v hv => ?_⟩⟩
  rw [show min (p : Int).toNat t.length = p by omega] at hv
  have e := last_st hp hv
  have le := ((ln_line hp (ln_le hp)).mp rfl).1
  rw [show (p : Int).toNat = p by omega, show ((p : Int) - v - 1) = ((col t p : Nat) : Int) by unfold col; omega]
  exact hR
theorem sp_ok {t : List Nat} {p : Nat} {R : Res → List AArg → Prop} (hl : t.length ≤ 10000) (hp : p ≤ t.length) (hR : R (.dat (spD t p)) [.dat (.str t), .dat (.int p)]) : F_spot_of [.dat (.str t), .dat (.int p)] R := ⟨t, p, rfl, hl, hp, hR⟩
theorem nf_le (t : List Nat) : nf t ≤ t.length := by
  rw [← ln_all]
  unfold ln
  exact Nat.le_trans (List.count_le_length) (by rw [List.length_take]; omega)
theorem red_row_bounds : ∀ as R, as.length = P_row_bounds.length → F_row_bounds as R → b_row_bounds (fnEnds as R) (c0 as N_row_bounds.length) := by
  rintro as R - ⟨t, j, rfl, hl, hj, hR⟩
  have hn := nf_le t
  have se := st_en hj
  unfold b_row_bounds
  walk_at "cl"
  rw [Int.toNat_natCast]
  refine ⟨by omega, ?_⟩
  refine for_rng (fun k c => ∃ s3 s5 : Slot, c = [.dat (.str t), .dat (.int j), .dat (.int (st t k : Nat)), s3, .no, s5]) ⟨_, _, by rw [st_zero]; rfl⟩ ?_ ?_
  · rintro k c' hk ⟨s3, s5, rfl⟩
    unfold l_row_bounds1
    walk_at "cl"
    refine ⟨by omega, fun v hv => ?_⟩
    rw [Int.toNat_natCast] at hv
    have e := first_st (by omega) hv
    rw [if_pos (by omega)] at e
    subst e
    try walk_at "cl"
    refine ⟨fun z => by omega, fun _ => ?_⟩
    rw [show (((fd t).getD k 0 : Nat) : Int) + 1 = ((st t (k + 1) : Nat) : Int) by rw [st_succ]; omega]
    exact ⟨_, _, rfl⟩
  · rintro c' ⟨s3, s5, rfl⟩
    unfold t_row_bounds3
    walk_at "cl"
    refine ⟨by omega, fun v hv => ?_⟩
    rw [Int.toNat_natCast] at hv
    have e := first_st hj hv
    unfold t_row_bounds2
    try walk_at "cl"
    by_cases h : j < nf t
    · rw [if_pos h] at e
      subst e
      rw [en_in h] at hR
      exact ⟨fun z => by omega, fun _ => hR⟩
    · rw [if_neg h] at e
      subst e
      rw [show j = nf t by omega, en_end] at hR
      rw [show j = nf t by omega]
      exact ⟨fun _ => ⟨by omega, hR⟩, fun z => absurd (by decide) z⟩
theorem ro_ok {t : List Nat} {j : Nat} {R : Res → List AArg → Prop} (hl : t.length ≤ 10000) (hj : j ≤ nf t) (hR : R (.dat (.tup [.int (st t j : Nat), .int (en t j : Nat)])) [.dat (.str t), .dat (.int j)]) : F_row_bounds [.dat (.str t), .dat (.int j)] R := ⟨t, j, rfl, hl, hj, hR⟩
theorem red_place_of : ∀ as R, as.length = P_place_of.length → F_place_of as R → b_place_of (fnEnds as R) (c0 as N_place_of.length) := by
  rintro as R - ⟨t, j, c, rfl, hl, hj, hR⟩
  unfold b_place_of
  walk_at "cl"
  refine ro_ok hl hj ?_
  walk_at "cl"
  rw [show min ((st t j : Int) + (c : Int)) (en t j : Int) = ((plN t j c : Nat) : Int) by unfold plN; omega]
  exact hR
theorem pl_ok {t : List Nat} {j c : Nat} {R : Res → List AArg → Prop} (hl : t.length ≤ 10000) (hj : j ≤ nf t) (hR : R (.dat (.int (plN t j c : Nat))) [.dat (.str t), .dat (.int j), .dat (.int c)]) : F_place_of [.dat (.str t), .dat (.int j), .dat (.int c)] R := ⟨t, j, c, rfl, hl, hj, hR⟩
theorem red_to_left : ∀ as R, as.length = P_to_left.length → F_to_left as R → b_to_left (fnEnds as R) (c0 as N_to_left.length) := by
  rintro as R - ⟨t, p, rfl, g, hl, hp, hR⟩
  unfold b_to_left
  walk_at "cl"
  rw [show max ((p : Int) - 1) 0 = ((p - 1 : Nat) : Int) by omega]
  exact hR _ rfl
theorem red_to_right : ∀ as R, as.length = P_to_right.length → F_to_right as R → b_to_right (fnEnds as R) (c0 as N_to_right.length) := by
  rintro as R - ⟨t, p, rfl, g, hl, hp, hR⟩
  unfold b_to_right
  walk_at "cl"
  rw [show min ((p : Int) + 1) (t.length : Int) = ((min (p + 1) t.length : Nat) : Int) by omega]
  exact ⟨by omega, hR _ rfl⟩
theorem red_to_text_start : ∀ as R, as.length = P_to_text_start.length → F_to_text_start as R → b_to_text_start (fnEnds as R) (c0 as N_to_text_start.length) := by
  rintro as R - ⟨t, p, rfl, g, hl, hp, hR⟩
  unfold b_to_text_start
  walk_at "cl"
  exact hR 0 rfl
theorem red_to_text_finish : ∀ as R, as.length = P_to_text_finish.length → F_to_text_finish as R → b_to_text_finish (fnEnds as R) (c0 as N_to_text_finish.length) := by
  rintro as R - ⟨t, p, rfl, g, hl, hp, hR⟩
  unfold b_to_text_finish
  walk_at "cl"
  exact ⟨by omega, hR _ rfl⟩
theorem red_to_row_home : ∀ as R, as.length = P_to_row_home.length → F_to_row_home as R → b_to_row_home (fnEnds as R) (c0 as N_to_row_home.length) := by
  rintro as R - ⟨t, p, rfl, g, hl, hp, hR⟩
  unfold b_to_row_home
  walk_at "cl"
  refine sp_ok hl hp ?_
  unfold spD
  walk_at "cl"
  refine ro_ok hl (ln_le hp) ?_
  walk_at "cl"
  exact hR _ rfl
theorem red_to_row_end : ∀ as R, as.length = P_to_row_end.length → F_to_row_end as R → b_to_row_end (fnEnds as R) (c0 as N_to_row_end.length) := by
  rintro as R - ⟨t, p, rfl, g, hl, hp, hR⟩
  unfold b_to_row_end
  walk_at "cl"
  refine sp_ok hl hp ?_
  unfold spD
  walk_at "cl"
  refine ro_ok hl (ln_le hp) ?_
  walk_at "cl"
  exact hR _ rfl
theorem red_to_line_above : ∀ as R, as.length = P_to_line_above.length → F_to_line_above as R → b_to_line_above (fnEnds as R) (c0 as N_to_line_above.length) := by
  rintro as R - ⟨t, p, rfl, g, hl, hp, hR⟩
  have hR : ∀ q : Nat, q = (if ln t p = 0 then p else plN t (ln t p - 1) (col t p)) → R (.dat (.int q)) [.dat (.str t), .dat (.int p)] := hR
  have := ln_le hp
  unfold b_to_line_above
  walk_at "cl"
  refine sp_ok hl hp ?_
  unfold spD
  walk_at "cl"
  refine ⟨fun z => hR _ (by rw [if_pos (by omega)]), fun z => ?_⟩
  have z0 : ¬ ln t p = 0 := by omega
  rw [show ((ln t p : Int) - 1) = ((ln t p - 1 : Nat) : Int) by omega]
  refine pl_ok hl (by omega) ?_
  walk_at "cl"
  exact hR _ (by rw [if_neg z0])
theorem red_to_line_below : ∀ as R, as.length = P_to_line_below.length → F_to_line_below as R → b_to_line_below (fnEnds as R) (c0 as N_to_line_below.length) := by
  rintro as R - ⟨t, p, rfl, g, hl, hp, hR⟩
  have hR : ∀ q : Nat, q = (if ln t p = nf t then p else plN t (ln t p + 1) (col t p)) → R (.dat (.int q)) [.dat (.str t), .dat (.int p)] := hR
  have := ln_le hp
  have ec : t.count 10 = nf t := by
    rw [← ln_all]
    unfold ln
    rw [List.take_length]
  unfold b_to_line_below
  walk_at "cl"
  refine sp_ok hl hp ?_
  unfold spD
  walk_at "cl"
  rw [ec]
  refine ⟨fun z => hR _ (by rw [if_pos (by omega)]), fun z => ?_⟩
  have z0 : ¬ ln t p = nf t := by omega
  unfold t_to_line_below1
  walk_at "cl"
  rw [show ((ln t p : Int) + 1) = ((ln t p + 1 : Nat) : Int) by omega]
  refine pl_ok hl (by omega) ?_
  walk_at "cl"
  exact hR _ (by rw [if_neg z0])


end K48
namespace K48
open PySem PySem.Spec PyProof.Rows L2 Cl
local macro_rules | `(tactic| walk_at "cl") => `(tactic| simp only [c0, toSlot, pick, wipeC, e_dSeq, e_dAsg, e_dAsgG, e_dIf, e_dTru, e_dC, e_dBin, e_dBinT, e_dUn, e_dRet, e_dRetN, e_dDrop, e_dMeth, e_dNext, e_dBreak, e_dCont, e_dAnd, e_dOr, e_dNot, e_dAndV, e_dOrV, e_dNotV, e_dIfE, e_dTup, e_dLst, e_dCB, e_dSl, e_dNoPart, e_dIsi, e_dYes, e_aCons, e_aNil, e_lCons, e_lNil, e_vCons, e_vNil, e_dItems, e_dRng2, e_dRng3, e_dCall, e_dCallK, e_dRev, e_dEnum, c_on1_dat, c_on1_sl, c_onS_dat, c_onS_own, c_onS_arg, c_on2, c_hd_dat, c_hd_sl, c_hd_new, c_asD_dat, c_asD_new, c_asD_sl, c_asS_dat, c_asS_own, c_var, c_varS_dat, c_varS_own, c_varS_arg, c_blR, c_blD, c_tru_non, c_tru_bl, c_tru_int, c_tru_lst, c_tru_tup, c_put_dat, c_put_new, c_put_sl, c_putS_dat, c_putS_own, c_toRet_dat, c_toRet_new, c_toRet_sl, c_toRetS_dat, c_toRetS_own, c_retC_dat, c_retC_new, c_ends_rt, c_ends_nx, c_ends_bk, c_ends_ct, c_retB_dat, c_retB_new, c_retB_sl, c_retBS_own, c_bk_nil, c_bk_dat, c_bk_ob, c_gt0, c_gtS, c_fsub, c_faddI, c_fadd_int, c_fadd_str, c_fadd_lst, c_fadd_tup, c_fmul_int, c_fmul_lst, c_fmul_str, c_fdiv, c_fmod, c_fpow, c_fshl, c_fshr, c_fand, c_for, c_fxor, c_flt, c_fle, c_fgt, c_fge, c_fneg, c_feq_int, c_fne_int, c_feq_str, c_fne_str, c_feq_bl, c_fne_bl, c_fin_str, c_fin_lst, c_fin_tup, c_fisn, c_fisb, c_isn_non, c_isb_non, c_tyd_non, c_isn_bl, c_isb_bl, c_tyd_bl, c_isn_int, c_isb_int, c_tyd_int, c_isn_str, c_isb_str, c_tyd_str, c_isn_tup, c_isb_tup, c_tyd_tup, c_isn_lst, c_isb_lst, c_tyd_lst, c_isn_frz, c_isb_frz, c_tyd_frz, c_isi_NoneType_bool, c_isi_NoneType_int, c_isi_NoneType_str, c_isi_NoneType_tuple, c_isi_NoneType_list, c_isi_bool_bool, c_isi_bool_int, c_isi_bool_str, c_isi_bool_tuple, c_isi_bool_list, c_isi_int_bool, c_isi_int_int, c_isi_int_str, c_isi_int_tuple, c_isi_int_list, c_isi_str_bool, c_isi_str_int, c_isi_str_str, c_isi_str_tuple, c_isi_str_list, c_isi_tuple_bool, c_isi_tuple_int, c_isi_tuple_str, c_isi_tuple_tuple, c_isi_tuple_list, c_isi_list_bool, c_isi_list_int, c_isi_list_str, c_isi_list_tuple, c_isi_list_list, c_fix_lst, c_fix_tup, c_fix_frz, c_fix_str, c_ixL0, c_ixL1, c_ixL2, c_ixL3, c_len_lst, c_len_tup, c_len_frz, c_len_str, c_int1_int, c_int1_bl, c_abs, c_min2, c_max2, c_len, c_int1, c_fabs, c_ftuple, c_flist, c_tuple_lst, c_tuple_tup, c_list_lst, c_list_tup, c_sl_lst, c_sl_str, c_sl_tup, c_part_int, c_part, c_mappend, c_mpop, c_obS_own, c_setS_own, c_obS_arg, c_setS_arg, c_obL, c_setL, c_setIx, c_ixQ, c_setN, c_ixN10, c_ixN20, c_ixN21, c_ixN30, c_ixN31, c_ixN32, c_mt, c_mtQ, c_vws_nil, c_vws_cons, c_rfind4, c_rfind, c_join_lst, c_join_tup, c_one1, c_cints2, c_cints3, c_own, c_isOb_own, c_isOb_arg, c_callQ, c_look_nil, c_look_dat, c_look_own, c_lookS_own, c_lookS_arg, c_nd_nil, c_nd_dat, c_nd_own, c_ni_nil, c_ni_dat, c_ni_own, c_putA_nil, c_putA_cons, c_new_none, c_new_arg, c_new_own, c_oa_nil, c_oa_dat, c_oa_own, c_gT, c_gsCons, c_gsNil, c_gN, c_it_lst, c_it_tup, c_it_frz, c_it_str, c_rng1, c_rngQ, c_par, c_two, c_aug, c_augS, c_loop, c_lc, List.map_cons, List.map_nil, List.length_cons, List.length_nil, Nat.reduceAdd, Nat.reduceSub, Nat.reduceLT, Nat.reduceLeDiff, Nat.zero_le, List.replicate, List.cons_append, List.nil_append, List.append_nil, List.set_cons_zero, List.set_cons_succ, List.getD_cons_zero, List.getD_cons_succ, br_true, br_false, br_not, br_dec, true_and, and_true, if_true, if_false, reduceIte, reduceCtorEq, Nat.reduceEqDiff, Nat.reduceBNe, Bool.and_true, Bool.true_and, Bool.bne_false, Bool.bne_true, Bool.not_true, Bool.not_false, Bool.true_bne, Bool.false_bne, not_true_eq_false, not_false_eq_true, implies_true, one_eq, rngD_length, rngC_length, Int.reduceToNat, Int.cast_ofNat_Int, Int.natCast_one, Int.natCast_zero, Int.reduceEq, eq_self, true_implies, false_implies, not_false_eq_true, Int.reducePow, Int.reduceNeg, Int.reduceLT, Int.reduceLE, true_or, or_true, decide_eq_true_eq, beq_self_eq_true, Nat.zero_add, c_unw_nil, c_unw, c_unwS_no, c_unwS_dat, c_rev_lst, c_rev_tup, c_oneD, c_bad, c_ext, c_extK, c_mrev, c_popAt, c_popK, c_idx, c_forA, fEq_pair, fNe_pair, e_dIsiT, e_dLstRg, c_rgL, c_idxD, c_gL, c_isiD_bool, c_isiD_int, c_isiD_str, c_isiD_tuple, c_isiD_list, c_isiD_NoneType, Bool.or_false, Bool.false_or, Bool.or_true, Bool.true_or, Bool.and_false, Bool.false_and, e_dZip2, e_dZip3, c_twoD, c_threeD, c_zip2t, c_zip2l, c_zip3t, c_addT_int, c_addT_str, c_addT_lst, c_addT_tup, e_dSlT, c_slT_lst, c_slT_tup, c_slT_str, c_ntB, e_dRvT, c_rvT, c_finD, e_dIdxS, c_slL, c_endsX_rt, c_endsX_nx, c_endsX_ra, e_dCallX, e_dDropX, e_dAsgX, e_dAsgGX, e_dRetX, e_dRaise, e_dTry, c_catchX, e_dFld, c_fieldX, c_lookF, c_mtL1, c_in1, e_dEmp, c_gSubI, c_tyd_emp, c_isi_dict_bool, c_isi_dict_int, c_isi_dict_str, c_isi_dict_tuple, c_isi_dict_list, c_isi_dict_dict, c_min2, c_intS, e_dGetL, c_getLS, e_dReplW, c_replWD, e_dSrtSet, c_srtSet, e_dChain, e_dChainT, c_sorted_lst, c_sorted_tup, c_sorted_frz, c_sum, c_all, c_any, c_minI2, c_maxI2, c_minI_lst, c_maxI_lst, e_dRvL, c_rvL, e_dZipM, c_sq_lst, c_sq_tup, c_sq_frz, e_dIsE, c_isED, e_dDisp, c_wrd, c_count1, c_count4, c_find3, c_find, c_split, c_listS, c_tupleS])
theorem red_on_over : ∀ as R, as.length = P_on_over.length → F_on_over as R → b_on_over (fnEnds as R) (c0 as N_on_over.length) := by
  rintro as R - ⟨t, p, c, rfl, g, hl, hp, hc, hR⟩
  unfold b_on_over
  walk_at "cl"
  refine while_i (fun m e => ∃ h : Nat, p ≤ h ∧ h ≤ t.length ∧ m = t.length - h ∧ (∀ k, p ≤ k → k < h → cA t k = c) ∧ e = [.dat (.str t), .dat (.int h), .dat (.str (nm c))]) ⟨_, p, Nat.le_refl _, hp, rfl, fun k h1 h2 => by omega, rfl⟩ ?_
  rintro m c' ⟨h, h1, h2, rfl, h3, rfl⟩
  have stop : (h < t.length → cA t h ≠ c) → t_on_over2 (fnEnds [.dat (.str t), .dat (.int p), .dat (.str (nm c))] R) [.dat (.str t), .dat (.int h), .dat (.str (nm c))] := fun h4 => by
    unfold t_on_over2
    walk_at "cl"
    exact hR h ⟨h1, h2, h3, h4⟩
  walk_at "cl"
  refine ⟨by omega, fun h5 => ?_, fun h5 => stop fun z => by omega⟩
  have h5 : h < t.length := by omega
  obtain ⟨ca, ct⟩ := cA_at h5
  refine ⟨by omega, ixS_i rfl ct ?_⟩
  try walk_at "cl"
  refine rk_ok (by rw [← ca]; exact g.at h5) ?_
  walk_at "cl"
  rw [← ca, nm_inj (g.at h5) hc]
  unfold l_on_over1
  walk_at "cl"
  refine ⟨fun e => ⟨t.length - (h + 1), by omega, h + 1, by omega, h5, rfl, fun k k1 k2 => ?_, by first | rfl | (simp; done)⟩, fun e => stop fun _ => e⟩
  by_cases hk : k < h
  · exact h3 k k1 hk
  · rw [show k = h by omega]
    exact e
theorem on_ok {t : List Nat} {p c : Nat} {s : List Nat} {R : Res → List AArg → Prop} (hs : s = nm c) (g : Gp t) (hl : t.length ≤ 10000) (hp : p ≤ t.length) (hc : c < 4) (h : ∀ q : Nat, OnS t p c q → R (.dat (.int q)) [.dat (.str t), .dat (.int p), .dat (.str s)]) : F_on_over [.dat (.str t), .dat (.int p), .dat (.str s)] R := by
  subst hs
  exact ⟨t, p, c, rfl, g, hl, hp, hc, h⟩
theorem red_back_over : ∀ as R, as.length = P_back_over.length → F_back_over as R → b_back_over (fnEnds as R) (c0 as N_back_over.length) := by
  rintro as R - ⟨t, p, c, rfl, g, hl, hp, hc, hR⟩
  unfold b_back_over
  walk_at "cl"
  refine while_i (fun m e => ∃ h : Nat, h ≤ p ∧ m = h ∧ (∀ k, h ≤ k → k < p → cA t k = c) ∧ e = [.dat (.str t), .dat (.int h), .dat (.str (nm c))]) ⟨_, p, Nat.le_refl _, rfl, fun k h1 h2 => by omega, rfl⟩ ?_
  rintro m c' ⟨h, h1, rfl, h3, rfl⟩
  have stop : (0 < m → cA t (m - 1) ≠ c) → t_back_over2 (fnEnds [.dat (.str t), .dat (.int p), .dat (.str (nm c))] R) [.dat (.str t), .dat (.int m), .dat (.str (nm c))] := fun h4 => by
    unfold t_back_over2
    walk_at "cl"
    exact hR m ⟨h1, h3, h4⟩
  walk_at "cl"
  refine ⟨fun h5 => ?_, fun h5 => stop fun z => by omega⟩
  have h5 : 0 < m := by omega
  have h6 : m - 1 < t.length := by omega
  obtain ⟨ca, ct⟩ := cA_at h6
  refine ⟨by omega, ixS_i (n := m - 1) (by omega) ct ?_⟩
  try walk_at "cl"
  refine rk_ok (by rw [← ca]; exact g.at h6) ?_
  walk_at "cl"
  rw [← ca, nm_inj (g.at h6) hc]
  unfold l_back_over1
  walk_at "cl"
  refine ⟨fun e => ⟨m - 1, by omega, m - 1, by omega, rfl, fun k k1 k2 => ?_, ?_⟩, fun e => stop fun _ => e⟩
  · by_cases hk : m ≤ k
    · exact h3 k hk k2
    · rw [show k = m - 1 by omega]
      exact e
  · rw [show ((m : Int) - 1) = ((m - 1 : Nat) : Int) by omega]
theorem bk_ok2 {t : List Nat} {p c : Nat} {s : List Nat} {R : Res → List AArg → Prop} (hs : s = nm c) (g : Gp t) (hl : t.length ≤ 10000) (hp : p ≤ t.length) (hc : c < 4) (h : ∀ q : Nat, BkO t p c q → R (.dat (.int q)) [.dat (.str t), .dat (.int p), .dat (.str s)]) : F_back_over [.dat (.str t), .dat (.int p), .dat (.str s)] R := by
  subst hs
  exact ⟨t, p, c, rfl, g, hl, hp, hc, h⟩
theorem feed_nm {c : Nat} (hc : c < 4) : ([102, 101, 101, 100] = nm c ↔ c = 3) ∧ (nm c = [102, 101, 101, 100] ↔ c = 3) ∧ (nm c = [98, 108, 97, 110, 107] ↔ c = 2) := by
  have h : ∀ c < 4, ([102, 101, 101, 100] = nm c ↔ c = 3) ∧ (nm c = [102, 101, 101, 100] ↔ c = 3) ∧ (nm c = [98, 108, 97, 110, 107] ↔ c = 2) := by decide
  exact h c hc
/-- over a run, then over blanks -/
theorem nx_law {t : List Nat} {p q r : Nat} (hp : p < t.length) (h3 : cA t p ≠ 3) (hq : if cA t p ≠ 2 then OnS t p (cA t p) q else q = p) (hr : OnS t q 2 r) : NxS t p r := by
  unfold NxS
  rw [if_neg (by omega), if_neg h3]
  obtain ⟨r1, r2, r3, r4⟩ := hr
  by_cases c2 : cA t p ≠ 2
  · rw [if_pos c2] at hq
    obtain ⟨q1, q2, q3, q4⟩ := hq
    have hpq : p < q := by
      by_cases e : p = q
      · subst e
        exact absurd rfl (q4 hp)
      · omega
    refine ⟨by omega, r2, fun k k1 k2 hk => ?_, fun hr => ⟨r4 hr, ?_⟩⟩
    · by_cases e : k < q
      · rw [q3 k (by omega) e, q3 (k - 1) (by omega) (by omega)] at hk
        exact hk.2 rfl
      · exact hk.1 (r3 k (by omega) k2)
    · by_cases e : r = q
      · subst e
        rw [q3 (r - 1) (by omega) (by omega)]
        exact q4 hr
      · rw [r3 (r - 1) (by omega) (by omega)]
        exact r4 hr
  · rw [if_neg c2] at hq
    subst hq
    have c2 : cA t q = 2 := by
      by_cases e : cA t q = 2
      · exact e
      · exact absurd e c2
    have hpr : q < r := by
      by_cases e : q = r
      · subst e
        exact absurd c2 (r4 hp)
      · omega
    refine ⟨hpr, r2, fun k k1 k2 hk => hk.1 (r3 k (by omega) k2), fun hr => ⟨r4 hr, ?_⟩⟩
    rw [r3 (r - 1) (by omega) (by omega)]
    exact r4 hr
theorem red_to_next_word : ∀ as R, as.length = P_to_next_word.length → F_to_next_word as R → b_to_next_word (fnEnds as R) (c0 as N_to_next_word.length) := by
  rintro as R - ⟨t, p, rfl, g, hl, hp, hR⟩
  have hR : ∀ q : Nat, NxS t p q → R (.dat (.int q)) [.dat (.str t), .dat (.int p)] := hR
  unfold b_to_next_word
  walk_at "cl"
  refine ⟨by omega, fun h => hR p (by unfold NxS; rw [if_pos (by omega)]), fun h => ?_⟩
  have h : p < t.length := by omega
  obtain ⟨ca, ct⟩ := cA_at h
  obtain ⟨f1, f2, f3⟩ := feed_nm (g.at h)
  unfold t_to_next_word2
  walk_at "cl"
  refine ⟨by omega, ixS_i rfl ct ?_⟩
  try walk_at "cl"
  refine rk_ok (by rw [← ca]; exact g.at h) ?_
  rw [← ca]
  walk_at "cl"
  rw [f2, f3]
  refine ⟨fun e => ?_, fun e => ?_⟩
  · have := hR (p + 1) (by unfold NxS; rw [if_neg (by omega), if_pos e])
    simpa using this
  · have last : ∀ (q : Nat) (s2 : Slot), (if cA t p ≠ 2 then OnS t p (cA t p) q else q = p) → q ≤ t.length → t_to_next_word1 (fnEnds [.dat (.str t), .dat (.int p)] R) [.dat (.str t), .dat (.int q), s2] := by
      intro q s2 hq hql
      unfold t_to_next_word1
      walk_at "cl"
      refine on_ok (c := 2) rfl g hl hql (by decide) fun r hr => ?_
      walk_at "cl"
      exact hR r (nx_law h e hq hr)
    refine ⟨fun c2 => last p _ (by rw [if_neg (by simpa using c2)]) hp, fun c2 => ?_⟩
    refine on_ok (c := cA t p) rfl g hl hp (g.at h) fun q hq => ?_
    walk_at "cl"
    exact last q _ (by rw [if_pos c2]; exact hq) hq.2.1
/-- back over blanks, then over a run -/
theorem bk_law {t : List Nat} {p q r : Nat} (hp : 0 < p) (h3 : cA t (p - 1) ≠ 3) (hq : BkO t p 2 q) (hr : if q = 0 then r = 0 else if cA t (q - 1) = 3 then r = q else BkO t q (cA t (q - 1)) r) : BkS t p r := by
  unfold BkS
  rw [if_neg (by omega), if_neg h3]
  obtain ⟨q1, q2, q3⟩ := hq
  -- no word begins within the blanks
  have bl : ∀ k, q < k → k < p → ¬ bkC t k := fun k k1 k2 hk => by
    rcases hk with hk | hk
    · have := q2 (k - 1) (by omega) (by omega)
      omega
    · exact hk.1 (q2 k (by omega) k2)
  by_cases e0 : q = 0
  · rw [if_pos e0] at hr
    subst hr e0
    exact ⟨by omega, fun z => absurd z (by omega), bl⟩
  · rw [if_neg e0] at hr
    have c2 := q3 (by omega)
    by_cases e3 : cA t (q - 1) = 3
    · rw [if_pos e3] at hr
      subst hr
      have hlt : r < p := by
        by_cases e : r = p
        · subst e
          exact absurd e3 h3
        · omega
      exact ⟨hlt, fun _ => .inl e3, bl⟩
    · rw [if_neg e3] at hr
      obtain ⟨r1, r2, r3⟩ := hr
      have hrq : r < q := by
        by_cases e : r = q
        · subst e
          exact absurd rfl (r3 (by omega))
        · omega
      refine ⟨by omega, fun h0 => .inr ⟨?_, ?_⟩, fun k k1 k2 hk => ?_⟩
      · rw [r2 r (Nat.le_refl _) hrq]
        exact c2
      · rw [r2 r (Nat.le_refl _) hrq]
        exact r3 h0
      · by_cases ek : k < q
        · rcases hk with hk | hk
          · rw [r2 (k - 1) (by omega) (by omega)] at hk
            exact e3 hk
          · rw [r2 (k - 1) (by omega) (by omega), r2 k (by omega) ek] at hk
            exact hk.2 rfl
        · by_cases ek2 : k = q
          · subst ek2
            rcases hk with hk | hk
            · exact e3 hk
            · exact hk.1 (q2 k (Nat.le_refl _) k2)
          · exact bl k (by omega) k2 hk
theorem red_to_word_before : ∀ as R, as.length = P_to_word_before.length → F_to_word_before as R → b_to_word_before (fnEnds as R) (c0 as N_to_word_before.length) := by
  rintro as R - ⟨t, p, rfl, g, hl, hp, hR⟩
  have hR : ∀ q : Nat, BkS t p q → R (.dat (.int q)) [.dat (.str t), .dat (.int p)] := hR
  unfold b_to_word_before
  walk_at "cl"
  refine ⟨fun h => ?_, fun h => ?_⟩
  · have := hR 0 (by unfold BkS; rw [if_pos (by omega)])
    rw [h]
    rw [h] at this
    simpa using this
  have h0 : 0 < p := by omega
  have h6 : p - 1 < t.length := by omega
  obtain ⟨ca, ct⟩ := cA_at h6
  obtain ⟨f1, f2, f3⟩ := feed_nm (g.at h6)
  refine ⟨by omega, ixS_i (n := p - 1) (by omega) ct ?_⟩
  try walk_at "cl"
  refine rk_ok (by rw [← ca]; exact g.at h6) ?_
  rw [← ca]
  walk_at "cl"
  rw [f2]
  refine ⟨fun e => ?_, fun e => ?_⟩
  · rw [show ((p : Int) - 1) = ((p - 1 : Nat) : Int) by omega]
    exact hR _ (by unfold BkS; rw [if_neg (by omega), if_pos e])
  · unfold t_to_word_before1
    walk_at "cl"
    refine bk_ok2 (c := 2) rfl g hl hp (by decide) fun q hq => ?_
    walk_at "cl"
    have hqp := hq.1
    refine ⟨fun z => hR _ (bk_law h0 e hq (by rw [if_pos (by omega)]; omega)), fun z => ?_⟩
    have z : ¬ q = 0 := by omega
    have h7 : q - 1 < t.length := by omega
    obtain ⟨cb, cu⟩ := cA_at h7
    obtain ⟨g1, g2, g3⟩ := feed_nm (g.at h7)
    refine ⟨by omega, ixS_i (n := q - 1) (by omega) cu ?_⟩
    try walk_at "cl"
    refine rk_ok (by rw [← cb]; exact g.at h7) ?_
    rw [← cb]
    walk_at "cl"
    rw [g2]
    refine ⟨fun w => hR _ (bk_law h0 e hq (by rw [if_neg z, if_pos w])), fun w => ?_⟩
    refine bk_ok2 (c := cA t (q - 1)) rfl g hl (by omega) (g.at h7) fun r hr => ?_
    walk_at "cl"
    exact hR r (bk_law h0 e hq (by rw [if_neg z, if_neg w]; exact hr))
theorem lk_tab {i : Nat} (hi : i < 10) {k : FS → Prop} (h : k (F_mo i)) : lkT (wd i) tab_MOTIONS k := by
  have : i = 0 ∨ i = 1 ∨ i = 2 ∨ i = 3 ∨ i = 4 ∨ i = 5 ∨ i = 6 ∨ i = 7 ∨ i = 8 ∨ i = 9 := by omega
  unfold tab_MOTIONS
  rcases this with rfl | rfl | rfl | rfl | rfl | rfl | rfl | rfl | rfl | rfl
  all_goals
    simp only [lkT, wd, wds, List.getD_cons_zero, List.getD_cons_succ]
    simp
    exact h
theorem red_moved : ∀ as R Z, as.length = P_moved.length → F_moved as R Z → b_moved (fnEndsX as R Z) (c0 as N_moved.length) := by
  rintro as R Z - ⟨t, p, i, rfl, hi, g, hl, hR, hZ⟩
  unfold b_moved
  walk_at "cl"
  refine ⟨by omega, fun h => hZ (by omega), fun h => ?_⟩
  unfold t_moved1
  walk_at "cl"
  refine lk_tab hi ?_
  try walk_at "cl"
  refine ⟨t, p, rfl, g, hl, by omega, fun q hq => ?_⟩
  walk_at "cl"
  exact hR (by omega) q hq
theorem mv_ok {t : List Nat} {p i : Nat} {R : Res → List AArg → Prop} (hi : i < 10) (g : Gp t) (hl : t.length ≤ 10000) (hp : p ≤ t.length) (hR : ∀ q : Nat, MvS i t p q → R (.dat (.int q)) [.dat (.str t), .dat (.int p), .dat (.str (wd i))]) : F0 F_moved [.dat (.str t), .dat (.int p), .dat (.str (wd i))] R := ⟨t, p, i, rfl, hi, g, hl, fun _ => hR, fun z => by omega⟩


end K48
namespace K48
open PySem PySem.Spec PyProof.Rows L2 Cl
local macro_rules | `(tactic| walk_at "cl") => `(tactic| simp only [c0, toSlot, pick, wipeC, e_dSeq, e_dAsg, e_dAsgG, e_dIf, e_dTru, e_dC, e_dBin, e_dBinT, e_dUn, e_dRet, e_dRetN, e_dDrop, e_dMeth, e_dNext, e_dBreak, e_dCont, e_dAnd, e_dOr, e_dNot, e_dAndV, e_dOrV, e_dNotV, e_dIfE, e_dTup, e_dLst, e_dCB, e_dSl, e_dNoPart, e_dIsi, e_dYes, e_aCons, e_aNil, e_lCons, e_lNil, e_vCons, e_vNil, e_dItems, e_dRng2, e_dRng3, e_dCall, e_dCallK, e_dRev, e_dEnum, c_on1_dat, c_on1_sl, c_onS_dat, c_onS_own, c_onS_arg, c_on2, c_hd_dat, c_hd_sl, c_hd_new, c_asD_dat, c_asD_new, c_asD_sl, c_asS_dat, c_asS_own, c_var, c_varS_dat, c_varS_own, c_varS_arg, c_blR, c_blD, c_tru_non, c_tru_bl, c_tru_int, c_tru_lst, c_tru_tup, c_put_dat, c_put_new, c_put_sl, c_putS_dat, c_putS_own, c_toRet_dat, c_toRet_new, c_toRet_sl, c_toRetS_dat, c_toRetS_own, c_retC_dat, c_retC_new, c_ends_rt, c_ends_nx, c_ends_bk, c_ends_ct, c_retB_dat, c_retB_new, c_retB_sl, c_retBS_own, c_bk_nil, c_bk_dat, c_bk_ob, c_gt0, c_gtS, c_fsub, c_faddI, c_fadd_int, c_fadd_str, c_fadd_lst, c_fadd_tup, c_fmul_int, c_fmul_lst, c_fmul_str, c_fdiv, c_fmod, c_fpow, c_fshl, c_fshr, c_fand, c_for, c_fxor, c_flt, c_fle, c_fgt, c_fge, c_fneg, c_feq_int, c_fne_int, c_feq_str, c_fne_str, c_feq_bl, c_fne_bl, c_fin_str, c_fin_lst, c_fin_tup, c_fisn, c_fisb, c_isn_non, c_isb_non, c_tyd_non, c_isn_bl, c_isb_bl, c_tyd_bl, c_isn_int, c_isb_int, c_tyd_int, c_isn_str, c_isb_str, c_tyd_str, c_isn_tup, c_isb_tup, c_tyd_tup, c_isn_lst, c_isb_lst, c_tyd_lst, c_isn_frz, c_isb_frz, c_tyd_frz, c_isi_NoneType_bool, c_isi_NoneType_int, c_isi_NoneType_str, c_isi_NoneType_tuple, c_isi_NoneType_list, c_isi_bool_bool, c_isi_bool_int, c_isi_bool_str, c_isi_bool_tuple, c_isi_bool_list, c_isi_int_bool, c_isi_int_int, c_isi_int_str, c_isi_int_tuple, c_isi_int_list, c_isi_str_bool, c_isi_str_int, c_isi_str_str, c_isi_str_tuple, c_isi_str_list, c_isi_tuple_bool, c_isi_tuple_int, c_isi_tuple_str, c_isi_tuple_tuple, c_isi_tuple_list, c_isi_list_bool, c_isi_list_int, c_isi_list_str, c_isi_list_tuple, c_isi_list_list, c_fix_lst, c_fix_tup, c_fix_frz, c_fix_str, c_ixL0, c_ixL1, c_ixL2, c_ixL3, c_len_lst, c_len_tup, c_len_frz, c_len_str, c_int1_int, c_int1_bl, c_abs, c_min2, c_max2, c_len, c_int1, c_fabs, c_ftuple, c_flist, c_tuple_lst, c_tuple_tup, c_list_lst, c_list_tup, c_sl_lst, c_sl_str, c_sl_tup, c_part_int, c_part, c_mappend, c_mpop, c_obS_own, c_setS_own, c_obS_arg, c_setS_arg, c_obL, c_setL, c_setIx, c_ixQ, c_setN, c_ixN10, c_ixN20, c_ixN21, c_ixN30, c_ixN31, c_ixN32, c_mt, c_mtQ, c_vws_nil, c_vws_cons, c_rfind4, c_rfind, c_join_lst, c_join_tup, c_one1, c_cints2, c_cints3, c_own, c_isOb_own, c_isOb_arg, c_callQ, c_look_nil, c_look_dat, c_look_own, c_lookS_own, c_lookS_arg, c_nd_nil, c_nd_dat, c_nd_own, c_ni_nil, c_ni_dat, c_ni_own, c_putA_nil, c_putA_cons, c_new_none, c_new_arg, c_new_own, c_oa_nil, c_oa_dat, c_oa_own, c_gT, c_gsCons, c_gsNil, c_gN, c_it_lst, c_it_tup, c_it_frz, c_it_str, c_rng1, c_rngQ, c_par, c_two, c_aug, c_augS, c_loop, c_lc, List.map_cons, List.map_nil, List.length_cons, List.length_nil, Nat.reduceAdd, Nat.reduceSub, Nat.reduceLT, Nat.reduceLeDiff, Nat.zero_le, List.replicate, List.cons_append, List.nil_append, List.append_nil, List.set_cons_zero, List.set_cons_succ, List.getD_cons_zero, List.getD_cons_succ, br_true, br_false, br_not, br_dec, true_and, and_true, if_true, if_false, reduceIte, reduceCtorEq, Nat.reduceEqDiff, Nat.reduceBNe, Bool.and_true, Bool.true_and, Bool.bne_false, Bool.bne_true, Bool.not_true, Bool.not_false, Bool.true_bne, Bool.false_bne, not_true_eq_false, not_false_eq_true, implies_true, one_eq, rngD_length, rngC_length, Int.reduceToNat, Int.cast_ofNat_Int, Int.natCast_one, Int.natCast_zero, Int.reduceEq, eq_self, true_implies, false_implies, not_false_eq_true, Int.reducePow, Int.reduceNeg, Int.reduceLT, Int.reduceLE, true_or, or_true, decide_eq_true_eq, beq_self_eq_true, Nat.zero_add, c_unw_nil, c_unw, c_unwS_no, c_unwS_dat, c_rev_lst, c_rev_tup, c_oneD, c_bad, c_ext, c_extK, c_mrev, c_popAt, c_popK, c_idx, c_forA, fEq_pair, fNe_pair, e_dIsiT, e_dLstRg, c_rgL, c_idxD, c_gL, c_isiD_bool, c_isiD_int, c_isiD_str, c_isiD_tuple, c_isiD_list, c_isiD_NoneType, Bool.or_false, Bool.false_or, Bool.or_true, Bool.true_or, Bool.and_false, Bool.false_and, e_dZip2, e_dZip3, c_twoD, c_threeD, c_zip2t, c_zip2l, c_zip3t, c_addT_int, c_addT_str, c_addT_lst, c_addT_tup, e_dSlT, c_slT_lst, c_slT_tup, c_slT_str, c_ntB, e_dRvT, c_rvT, c_finD, e_dIdxS, c_slL, c_endsX_rt, c_endsX_nx, c_endsX_ra, e_dCallX, e_dDropX, e_dAsgX, e_dAsgGX, e_dRetX, e_dRaise, e_dTry, c_catchX, e_dFld, c_fieldX, c_lookF, c_mtL1, c_in1, e_dEmp, c_gSubI, c_tyd_emp, c_isi_dict_bool, c_isi_dict_int, c_isi_dict_str, c_isi_dict_tuple, c_isi_dict_list, c_isi_dict_dict, c_min2, c_intS, e_dGetL, c_getLS, e_dReplW, c_replWD, e_dSrtSet, c_srtSet, e_dChain, e_dChainT, c_sorted_lst, c_sorted_tup, c_sorted_frz, c_sum, c_all, c_any, c_minI2, c_maxI2, c_minI_lst, c_maxI_lst, e_dRvL, c_rvL, e_dZipM, c_sq_lst, c_sq_tup, c_sq_frz, e_dIsE, c_isED, e_dDisp, c_wrd, c_count1, c_count4, c_find3, c_find, c_split, c_listS, c_tupleS])
theorem red_law_number : ∀ as R, as.length = P_law_number.length → F_law_number as R → b_law_number (fnEnds as R) (c0 as N_law_number.length) := by
  rintro as R - ⟨i, rfl, hR⟩
  unfold b_law_number
  walk_at "cl"
  exact hR
theorem nu_ok {i : Int} {R : Res → List AArg → Prop} (h : R (.dat (.bl true)) [.dat (.int i)]) : F_law_number [.dat (.int i)] R := ⟨i, rfl, h⟩
theorem red_law_classes : ∀ as R, as.length = P_law_classes.length → F_law_classes as R → b_law_classes (fnEnds as R) (c0 as N_law_classes.length) := by
  rintro as R - ⟨rfl, hR⟩
  unfold b_law_classes
  walk_at "cl"
  first | exact hR | exact ⟨by decide, hR⟩
theorem cls_mem {ch k : Nat} (h : cl ch < 4) (hk : k < 4) (hle : k ≤ cl ch) : ch ∈ clsT.getD k [] ↔ cl ch = k :=
  all_by (P := fun ch => ∀ k < 4, k ≤ cl ch → (ch ∈ clsT.getD k [] ↔ cl ch = k)) (by decide +kernel) h k hk hle
theorem red_law_class : ∀ as R, as.length = P_law_class.length → F_law_class as R → b_law_class (fnEnds as R) (c0 as N_law_class.length) := by
  rintro as R - ⟨ch, rfl, hc, hR⟩
  unfold b_law_class
  walk_at "cl"
  refine ⟨rfl, ?_⟩
  walk_at "cl"
  refine for_rng (fun k c => ∃ s2 : Slot, k ≤ cl ch ∧ c = [.dat (.str [ch]), .own (.lst (clsT.map Dt.str)), s2]) ⟨_, Nat.zero_le _, rfl⟩ ?_ ?_
  · rintro k c' hk ⟨s2, hle, rfl⟩
    have hk : k < 4 := hk
    have e : (clsT.map Dt.str)[k]? = some (.str (clsT.getD k [])) := by
      have : k = 0 ∨ k = 1 ∨ k = 2 ∨ k = 3 := by omega
      rcases this with rfl | rfl | rfl | rfl <;> rfl
    unfold l_law_class1
    walk_at "cl"
    refine ixL_i (n := k) (by omega) e ?_
    walk_at "cl"
    rw [cls_mem hc hk hle, Int.zero_add]
    exact ⟨fun z => by rw [← z]; exact hR, fun z => ⟨_, by omega, rfl⟩⟩
  · rintro c' ⟨s2, hle, rfl⟩
    have hle : 4 ≤ cl ch := hle
    omega
theorem col_next {t : List Nat} {k : Nat} (h : k < t.length) : ln t (k + 1) = ln t k + (if t[k] = 10 then 1 else 0) ∧ col t (k + 1) = if t[k] = 10 then 0 else col t k + 1 := by
  have e := ln_next h
  refine ⟨e, ?_⟩
  have se := ((ln_line (Nat.le_of_lt h) (ln_le (Nat.le_of_lt h))).mp rfl).1
  by_cases c : t[k] = 10
  · rw [if_pos c] at e ⊢
    unfold col
    rw [e, st_feed (by rw [List.getElem?_eq_getElem h, c])]
    omega
  · rw [if_neg c] at e ⊢
    unfold col
    rw [e]
    show k + 1 - st t (ln t k) = k - st t (ln t k) + 1
    omega
theorem red_law_table : ∀ as R, as.length = P_law_table.length → F_law_table as R → b_law_table (fnEnds as R) (c0 as N_law_table.length) := by
  rintro as R - ⟨t, rfl, hl, hR⟩
  unfold b_law_table
  walk_at "cl"
  rw [show ((t.length : Int) + 1).toNat = t.length + 1 by omega]
  refine ⟨by omega, by omega, ?_⟩
  refine for_rng (fun k c => ∃ (a b : Int) (s4 : Slot), (k ≤ t.length → a = ln t k ∧ b = col t k) ∧ c = [.dat (.str t), .own (.lst ((List.range k).map (spD t))), .dat (.int a), .dat (.int b), s4]) ⟨0, 0, _, fun _ => ⟨rfl, rfl⟩, rfl⟩ ?_ ?_
  · rintro k c' hk ⟨a, b, s4, hab, rfl⟩
    obtain ⟨rfl, rfl⟩ := hab (by omega)
    unfold l_law_table1
    walk_at "cl"
    have app : (List.range k).map (spD t) ++ [.tup [.int (ln t k : Nat), .int (col t k : Nat)]] = (List.range (k + 1)).map (spD t) := by
      rw [List.range_succ, List.map_append]
      rfl
    rw [app, List.length_map, List.length_range]
    refine ⟨by omega, by omega, fun h => ?_, fun h => ⟨_, _, _, fun z => by omega, rfl⟩⟩
    have hk2 : k < t.length := by omega
    obtain ⟨e1, e2⟩ := col_next hk2
    refine ⟨by omega, ixS_i (n := k) (by omega) (List.getElem?_eq_getElem hk2) ?_⟩
    try walk_at "cl"
    refine ⟨fun z => ⟨_, _, _, fun _ => ?_, rfl⟩, fun z => ⟨_, _, _, fun _ => ?_, rfl⟩⟩
    · rw [if_pos z] at e1 e2
      rw [e1, e2]
      exact ⟨by omega, rfl⟩
    · rw [if_neg z] at e1 e2
      rw [e1, e2]
      exact ⟨by omega, by omega⟩
  · rintro c' ⟨a, b, s4, _, rfl⟩
    unfold t_law_table2
    walk_at "cl"
    exact hR
theorem tbl_get {t : List Nat} {k : Nat} (h : k ≤ t.length) : (tblD t)[k]? = some (spD t k) := by
  unfold tblD
  rw [List.getElem?_map, List.getElem?_range (by omega)]
  rfl
theorem tbl_len (t : List Nat) : (tblD t).length = t.length + 1 := by
  unfold tblD
  rw [List.length_map, List.length_range]
theorem red_law_nearest : ∀ as R, as.length = P_law_nearest.length → F_law_nearest as R → b_law_nearest (fnEnds as R) (c0 as N_law_nearest.length) := by
  rintro as R - ⟨t, j, c, rfl, hl, hj, hR⟩
  have se := st_en hj
  have p1 : plN t j c ≤ st t j + c := Nat.min_le_left _ _
  have p2 : plN t j c ≤ en t j := Nat.min_le_right _ _
  have p3 : plN t j c = st t j + c ∨ plN t j c = en t j := by
    unfold plN
    rcases Nat.le_total (st t j + c) (en t j) with z | z
    · exact .inl (Nat.min_eq_left z)
    · exact .inr (Nat.min_eq_right z)
  generalize plN t j c = P at *
  unfold b_law_nearest
  walk_at "cl"
  rw [tbl_len, show (((t.length + 1 : Nat) : Int)).toNat = t.length + 1 by omega]
  refine ⟨by omega, ?_⟩
  refine for_rng (fun k e => ∃ (f : Int) (s4 : Slot), f = (if k ≤ st t j then -1 else ((min P (k - 1) : Nat) : Int)) ∧ e = [.dat (.lst (tblD t)), .dat (.int j), .dat (.int c), .dat (.int f), s4]) ⟨-1, _, by rw [if_pos (Nat.zero_le _)], rfl⟩ ?_ ?_
  · rintro k c' hk ⟨f, s4, hf, rfl⟩
    have li := ln_line (t := t) (k := k) (by omega) hj
    have ce : ∀ z : ln t k = j, col t k = k - st t j := fun z => by unfold col; rw [z]
    unfold l_law_nearest1
    walk_at "cl"
    refine ixL_i (n := k) (by omega) (tbl_get (by omega)) ?_
    unfold spD
    walk_at "cl"
    have no : ¬ (ln t k = j ∧ col t k ≤ c) → ∃ (f' : Int) (s4' : Slot), f' = (if k + 1 ≤ st t j then -1 else ((min P (k + 1 - 1) : Nat) : Int)) ∧ ([.dat (.lst (tblD t)), .dat (.int j), .dat (.int c), .dat (.int f), .dat (.int (0 + (k : Int)))] : CEnv) = [.dat (.lst (tblD t)), .dat (.int j), .dat (.int c), .dat (.int f'), s4'] := fun z => by
      refine ⟨f, _, ?_, rfl⟩
      rw [hf]
      by_cases h1 : k + 1 ≤ st t j
      · rw [if_pos h1, if_pos (by omega)]
      · rw [if_neg h1]
        by_cases h2 : k ≤ st t j
        · exfalso
          have e := li.mpr (by omega)
          exact z ⟨e, by rw [ce e]; omega⟩
        · rw [if_neg h2]
          by_cases h3 : k ≤ en t j
          · have e := li.mpr (by omega)
            have : ¬ col t k ≤ c := fun w => z ⟨e, w⟩
            rw [ce e] at this
            omega
          · omega
    refine ⟨fun h1 => ?_, fun h1 => no fun z => h1 (by omega)⟩
    refine ixL_i (n := k) (by omega) (tbl_get (by omega)) ?_
    unfold spD
    walk_at "cl"
    refine ⟨fun h2 => ⟨_, _, ?_, rfl⟩, fun h2 => no fun z => h2 (by omega)⟩
    have e : ln t k = j := by omega
    have l2 := li.mp e
    have c2 := ce e
    rw [if_neg (by omega)]
    omega
  · rintro c' ⟨f, s4, hf, rfl⟩
    unfold t_law_nearest2
    walk_at "cl"
    rw [if_neg (by omega), show min P (t.length + 1 - 1) = P by omega] at hf
    rw [hf]
    exact hR
theorem ne_ok {t : List Nat} {j c : Nat} {R : Res → List AArg → Prop} (hl : t.length ≤ 10000) (hj : j ≤ nf t) (hR : R (.dat (.int (plN t j c : Nat))) [.dat (.lst (tblD t)), .dat (.int j), .dat (.int c)]) : F_law_nearest [.dat (.lst (tblD t)), .dat (.int j), .dat (.int c)] R := ⟨t, j, c, rfl, hl, hj, hR⟩


end K48
namespace K48
open PySem PySem.Spec PyProof.Rows L2 Cl
local macro_rules | `(tactic| walk_at "cl") => `(tactic| simp only [c0, toSlot, pick, wipeC, e_dSeq, e_dAsg, e_dAsgG, e_dIf, e_dTru, e_dC, e_dBin, e_dBinT, e_dUn, e_dRet, e_dRetN, e_dDrop, e_dMeth, e_dNext, e_dBreak, e_dCont, e_dAnd, e_dOr, e_dNot, e_dAndV, e_dOrV, e_dNotV, e_dIfE, e_dTup, e_dLst, e_dCB, e_dSl, e_dNoPart, e_dIsi, e_dYes, e_aCons, e_aNil, e_lCons, e_lNil, e_vCons, e_vNil, e_dItems, e_dRng2, e_dRng3, e_dCall, e_dCallK, e_dRev, e_dEnum, c_on1_dat, c_on1_sl, c_onS_dat, c_onS_own, c_onS_arg, c_on2, c_hd_dat, c_hd_sl, c_hd_new, c_asD_dat, c_asD_new, c_asD_sl, c_asS_dat, c_asS_own, c_var, c_varS_dat, c_varS_own, c_varS_arg, c_blR, c_blD, c_tru_non, c_tru_bl, c_tru_int, c_tru_lst, c_tru_tup, c_put_dat, c_put_new, c_put_sl, c_putS_dat, c_putS_own, c_toRet_dat, c_toRet_new, c_toRet_sl, c_toRetS_dat, c_toRetS_own, c_retC_dat, c_retC_new, c_ends_rt, c_ends_nx, c_ends_bk, c_ends_ct, c_retB_dat, c_retB_new, c_retB_sl, c_retBS_own, c_bk_nil, c_bk_dat, c_bk_ob, c_gt0, c_gtS, c_fsub, c_faddI, c_fadd_int, c_fadd_str, c_fadd_lst, c_fadd_tup, c_fmul_int, c_fmul_lst, c_fmul_str, c_fdiv, c_fmod, c_fpow, c_fshl, c_fshr, c_fand, c_for, c_fxor, c_flt, c_fle, c_fgt, c_fge, c_fneg, c_feq_int, c_fne_int, c_feq_str, c_fne_str, c_feq_bl, c_fne_bl, c_fin_str, c_fin_lst, c_fin_tup, c_fisn, c_fisb, c_isn_non, c_isb_non, c_tyd_non, c_isn_bl, c_isb_bl, c_tyd_bl, c_isn_int, c_isb_int, c_tyd_int, c_isn_str, c_isb_str, c_tyd_str, c_isn_tup, c_isb_tup, c_tyd_tup, c_isn_lst, c_isb_lst, c_tyd_lst, c_isn_frz, c_isb_frz, c_tyd_frz, c_isi_NoneType_bool, c_isi_NoneType_int, c_isi_NoneType_str, c_isi_NoneType_tuple, c_isi_NoneType_list, c_isi_bool_bool, c_isi_bool_int, c_isi_bool_str, c_isi_bool_tuple, c_isi_bool_list, c_isi_int_bool, c_isi_int_int, c_isi_int_str, c_isi_int_tuple, c_isi_int_list, c_isi_str_bool, c_isi_str_int, c_isi_str_str, c_isi_str_tuple, c_isi_str_list, c_isi_tuple_bool, c_isi_tuple_int, c_isi_tuple_str, c_isi_tuple_tuple, c_isi_tuple_list, c_isi_list_bool, c_isi_list_int, c_isi_list_str, c_isi_list_tuple, c_isi_list_list, c_fix_lst, c_fix_tup, c_fix_frz, c_fix_str, c_ixL0, c_ixL1, c_ixL2, c_ixL3, c_len_lst, c_len_tup, c_len_frz, c_len_str, c_int1_int, c_int1_bl, c_abs, c_min2, c_max2, c_len, c_int1, c_fabs, c_ftuple, c_flist, c_tuple_lst, c_tuple_tup, c_list_lst, c_list_tup, c_sl_lst, c_sl_str, c_sl_tup, c_part_int, c_part, c_mappend, c_mpop, c_obS_own, c_setS_own, c_obS_arg, c_setS_arg, c_obL, c_setL, c_setIx, c_ixQ, c_setN, c_ixN10, c_ixN20, c_ixN21, c_ixN30, c_ixN31, c_ixN32, c_mt, c_mtQ, c_vws_nil, c_vws_cons, c_rfind4, c_rfind, c_join_lst, c_join_tup, c_one1, c_cints2, c_cints3, c_own, c_isOb_own, c_isOb_arg, c_callQ, c_look_nil, c_look_dat, c_look_own, c_lookS_own, c_lookS_arg, c_nd_nil, c_nd_dat, c_nd_own, c_ni_nil, c_ni_dat, c_ni_own, c_putA_nil, c_putA_cons, c_new_none, c_new_arg, c_new_own, c_oa_nil, c_oa_dat, c_oa_own, c_gT, c_gsCons, c_gsNil, c_gN, c_it_lst, c_it_tup, c_it_frz, c_it_str, c_rng1, c_rngQ, c_par, c_two, c_aug, c_augS, c_loop, c_lc, List.map_cons, List.map_nil, List.length_cons, List.length_nil, Nat.reduceAdd, Nat.reduceSub, Nat.reduceLT, Nat.reduceLeDiff, Nat.zero_le, List.replicate, List.cons_append, List.nil_append, List.append_nil, List.set_cons_zero, List.set_cons_succ, List.getD_cons_zero, List.getD_cons_succ, br_true, br_false, br_not, br_dec, true_and, and_true, if_true, if_false, reduceIte, reduceCtorEq, Nat.reduceEqDiff, Nat.reduceBNe, Bool.and_true, Bool.true_and, Bool.bne_false, Bool.bne_true, Bool.not_true, Bool.not_false, Bool.true_bne, Bool.false_bne, not_true_eq_false, not_false_eq_true, implies_true, one_eq, rngD_length, rngC_length, Int.reduceToNat, Int.cast_ofNat_Int, Int.natCast_one, Int.natCast_zero, Int.reduceEq, eq_self, true_implies, false_implies, not_false_eq_true, Int.reducePow, Int.reduceNeg, Int.reduceLT, Int.reduceLE, true_or, or_true, decide_eq_true_eq, beq_self_eq_true, Nat.zero_add, c_unw_nil, c_unw, c_unwS_no, c_unwS_dat, c_rev_lst, c_rev_tup, c_oneD, c_bad, c_ext, c_extK, c_mrev, c_popAt, c_popK, c_idx, c_forA, fEq_pair, fNe_pair, e_dIsiT, e_dLstRg, c_rgL, c_idxD, c_gL, c_isiD_bool, c_isiD_int, c_isiD_str, c_isiD_tuple, c_isiD_list, c_isiD_NoneType, Bool.or_false, Bool.false_or, Bool.or_true, Bool.true_or, Bool.and_false, Bool.false_and, e_dZip2, e_dZip3, c_twoD, c_threeD, c_zip2t, c_zip2l, c_zip3t, c_addT_int, c_addT_str, c_addT_lst, c_addT_tup, e_dSlT, c_slT_lst, c_slT_tup, c_slT_str, c_ntB, e_dRvT, c_rvT, c_finD, e_dIdxS, c_slL, c_endsX_rt, c_endsX_nx, c_endsX_ra, e_dCallX, e_dDropX, e_dAsgX, e_dAsgGX, e_dRetX, e_dRaise, e_dTry, c_catchX, e_dFld, c_fieldX, c_lookF, c_mtL1, c_in1, e_dEmp, c_gSubI, c_tyd_emp, c_isi_dict_bool, c_isi_dict_int, c_isi_dict_str, c_isi_dict_tuple, c_isi_dict_list, c_isi_dict_dict, c_min2, c_intS, e_dGetL, c_getLS, e_dReplW, c_replWD, e_dSrtSet, c_srtSet, e_dChain, e_dChainT, c_sorted_lst, c_sorted_tup, c_sorted_frz, c_sum, c_all, c_any, c_minI2, c_maxI2, c_minI_lst, c_maxI_lst, e_dRvL, c_rvL, e_dZipM, c_sq_lst, c_sq_tup, c_sq_frz, e_dIsE, c_isED, e_dDisp, c_wrd, c_count1, c_count4, c_find3, c_find, c_split, c_listS, c_tupleS])
theorem kds_get {t : List Nat} {k : Nat} (h : k < t.length) : (kdsD t)[k]? = some (.int (cA t k : Nat)) := by
  unfold kdsD
  rw [List.getElem?_map, List.getElem?_eq_getElem h, (cA_at h).1]
  rfl
theorem kds_len (t : List Nat) : (kdsD t).length = t.length := by
  unfold kdsD
  rw [List.length_map]
theorem red_law_on : ∀ as R, as.length = P_law_on.length → F_law_on as R → b_law_on (fnEnds as R) (c0 as N_law_on.length) := by
  rintro as R - ⟨t, p, q, rfl, hl, hp, hq, hR⟩
  unfold NxS at hq
  unfold b_law_on
  walk_at "cl"
  rw [kds_len]
  refine ⟨fun h => ?_, fun h => ?_⟩
  · rw [if_pos (by omega)] at hq
    rw [hq] at hR
    exact hR
  have h : p < t.length := by omega
  rw [if_neg (by omega)] at hq
  refine ixL_i (n := p) rfl (kds_get h) ?_
  walk_at "cl"
  refine ⟨fun e => ?_, fun e => ?_⟩
  · rw [if_pos (by omega)] at hq
    rw [hq] at hR
    simpa using hR
  rw [if_neg (by omega)] at hq
  obtain ⟨q1, q2, q3, q4⟩ := hq
  refine ⟨by omega, ?_⟩
  rw [show ((t.length : Int) - ((p : Int) + 1)).toNat = t.length - (p + 1) by omega]
  refine for_rng (fun k e => ∃ s3 : Slot, p + 1 + k ≤ q ∧ e = [.dat (.lst (kdsD t)), .dat (.int p), .dat (.int t.length), s3]) ⟨_, q1, rfl⟩ ?_ ?_
  · rintro k c' hk ⟨s3, hkq, rfl⟩
    have hx : p + 1 + k < t.length := by omega
    unfold l_law_on1
    walk_at "cl"
    refine ixL_i (n := p + 1 + k) (by omega) (kds_get hx) ?_
    walk_at "cl"
    have next : ¬ (cA t (p + 1 + k) ≠ 2 ∧ cA t (p + 1 + k) ≠ cA t (p + 1 + k - 1)) → ∃ s3' : Slot, p + 1 + (k + 1) ≤ q ∧ ([.dat (.lst (kdsD t)), .dat (.int p), .dat (.int t.length), .dat (.int ((p : Int) + 1 + (k : Int)))] : CEnv) = [.dat (.lst (kdsD t)), .dat (.int p), .dat (.int t.length), s3'] := fun z => by
      refine ⟨_, ?_, rfl⟩
      by_cases e : p + 1 + k = q
      · subst e
        exact absurd (q4 hx) z
      · omega
    refine ⟨fun c2 => next fun z => z.1 (by omega), fun c2 => ?_⟩
    refine ixL_i (n := p + 1 + k) (by omega) (kds_get hx) ?_
    walk_at "cl"
    refine ixL_i (n := p + 1 + k - 1) (by omega) (kds_get (by omega)) ?_
    walk_at "cl"
    refine ⟨fun c3 => next fun z => z.2 (by omega), fun c3 => ?_⟩
    have e : p + 1 + k = q := by
      by_cases e : p + 1 + k = q
      · exact e
      · exact absurd ⟨by omega, by omega⟩ (q3 (p + 1 + k) (by omega) (by omega))
    rw [show ((p : Int) + 1 + (k : Int)) = (q : Int) by omega]
    exact hR
  · rintro c' ⟨s3, hkq, rfl⟩
    unfold t_law_on2
    walk_at "cl"
    rw [show (t.length : Int) = (q : Int) by omega]
    exact hR
theorem red_law_back : ∀ as R, as.length = P_law_back.length → F_law_back as R → b_law_back (fnEnds as R) (c0 as N_law_back.length) := by
  rintro as R - ⟨t, p, q, rfl, hl, hp, hq, hR⟩
  unfold BkS at hq
  unfold b_law_back
  walk_at "cl"
  refine ⟨fun h => ?_, fun h => ?_⟩
  · rw [if_pos (by omega)] at hq
    subst hq
    exact hR
  have h : 0 < p := by omega
  rw [if_neg (by omega)] at hq
  refine ixL_i (n := p - 1) (by omega) (kds_get (by omega)) ?_
  walk_at "cl"
  refine ⟨fun e => ?_, fun e => ?_⟩
  · rw [if_pos (by omega)] at hq
    rw [show ((p : Int) - 1) = (q : Int) by omega]
    exact hR
  rw [if_neg (by omega)] at hq
  obtain ⟨q1, q2, q3⟩ := hq
  refine ⟨by omega, ?_⟩
  rw [show ((p : Int) - 1).toNat = p - 1 by omega]
  refine for_rng (fun k e => ∃ (f : Nat) (s3 : Slot), (q < 1 + k → f = q) ∧ e = [.dat (.lst (kdsD t)), .dat (.int p), .dat (.int f), s3]) ⟨0, _, fun z => by omega, rfl⟩ ?_ ?_
  · rintro k c' hk ⟨f, s3, hf, rfl⟩
    have hx : 1 + k < t.length := by omega
    unfold l_law_back1
    walk_at "cl"
    have yes : bkC t (1 + k) → ∃ (f' : Nat) (s3' : Slot), (q < 1 + (k + 1) → f' = q) ∧ ([.dat (.lst (kdsD t)), .dat (.int p), .dat (.int (1 + (k : Int))), .dat (.int (1 + (k : Int)))] : CEnv) = [.dat (.lst (kdsD t)), .dat (.int p), .dat (.int f'), s3'] := fun z => by
      rw [show (1 + (k : Int)) = ((1 + k : Nat) : Int) by omega]
      refine ⟨_, _, fun w => ?_, rfl⟩
      by_cases e : q < 1 + k
      · exact absurd z (q3 (1 + k) e (by omega))
      · omega
    have no : ¬ bkC t (1 + k) → ∃ (f' : Nat) (s3' : Slot), (q < 1 + (k + 1) → f' = q) ∧ ([.dat (.lst (kdsD t)), .dat (.int p), .dat (.int f), .dat (.int (1 + (k : Int)))] : CEnv) = [.dat (.lst (kdsD t)), .dat (.int p), .dat (.int f'), s3'] := fun z => by
      refine ⟨_, _, fun w => ?_, rfl⟩
      by_cases e : q < 1 + k
      · exact hf e
      · have : q = 1 + k := by omega
        rw [← this] at z
        exact absurd (q2 (by omega)) z
    refine ixL_i (n := 1 + k - 1) (by omega) (kds_get (by omega)) ?_
    walk_at "cl"
    refine ⟨fun c1 => yes (.inl (by omega)), fun c1 => ?_⟩
    refine ixL_i (n := 1 + k) (by omega) (kds_get hx) ?_
    walk_at "cl"
    refine ⟨fun c2 => no fun z => ?_, fun c2 => ?_⟩
    · rcases z with z | z
      · omega
      · omega
    refine ixL_i (n := 1 + k - 1) (by omega) (kds_get (by omega)) ?_
    walk_at "cl"
    refine ixL_i (n := 1 + k) (by omega) (kds_get hx) ?_
    walk_at "cl"
    refine ⟨fun c3 => no fun z => ?_, fun c3 => yes (.inr ⟨by omega, by omega⟩)⟩
    rcases z with z | z
    · omega
    · omega
  · rintro c' ⟨f, s3, hf, rfl⟩
    unfold t_law_back2
    walk_at "cl"
    rw [hf (by omega)]
    exact hR
theorem red_law_words : ∀ as R, as.length = P_law_words.length → F_law_words as R → b_law_words (fnEnds as R) (c0 as N_law_words.length) := by
  rintro as R - ⟨rfl, hR⟩
  unfold b_law_words
  walk_at "cl"
  exact hR
theorem red_law_words_told : ∀ as R, as.length = P_law_words_told.length → F_law_words_told as R → b_law_words_told (fnEnds as R) (c0 as N_law_words_told.length) := by
  rintro as R - ⟨rfl, hR⟩
  have ew : c_WORDS = wds := rfl
  unfold b_law_words_told
  walk_at "cl"
  refine ⟨rfl, ?_⟩
  walk_at "cl"
  rw [ew]
  refine ⟨fun _ => ?_, fun z => absurd rfl z⟩
  unfold t_law_words_told3
  walk_at "cl"
  rw [List.length_map, Int.toNat_natCast]
  refine ⟨by decide, ?_⟩
  refine for_rng (fun k c => ∃ s1 : Slot, c = [.own (.lst (wds.map Dt.str)), s1]) ⟨_, rfl⟩ ?_ ?_
  · rintro k c' hk ⟨s1, rfl⟩
    have e : (wds.map Dt.str)[k]? = some (.str wds[k]) := by rw [List.getElem?_map, List.getElem?_eq_getElem hk]; rfl
    unfold l_law_words_told1
    walk_at "cl"
    rw [ew]
    refine ixL_i (n := k) (by omega) e ?_
    walk_at "cl"
    try rw [ew]
    refine ixL_i (n := k) (by omega) e ?_
    walk_at "cl"
    refine ixL_i (n := k) (by omega) e ?_
    walk_at "cl"
    first | exact ⟨_, rfl⟩ | exact ⟨fun z => absurd rfl z, fun _ => ⟨_, rfl⟩⟩
  · rintro c' ⟨s1, rfl⟩
    unfold t_law_words_told2
    walk_at "cl"
    exact hR
theorem red_law_refused : ∀ as R, as.length = P_law_refused.length → F_law_refused as R → b_law_refused (fnEnds as R) (c0 as N_law_refused.length) := by
  rintro as R - ⟨t, p, i, rfl, hi, g, hl, hp, hR⟩
  unfold b_law_refused
  walk_at "cl"
  refine ⟨t, p, i, rfl, hi, g, hl, fun z => by omega, fun _ => ?_⟩
  unfold xPlace
  walk_at "cl"
  intro a dd
  refine nu_ok ?_
  walk_at "cl"
  exact hR
theorem wd_cases {i : Nat} (hi : i < 10) : i = 0 ∨ i = 1 ∨ i = 2 ∨ i = 3 ∨ i = 4 ∨ i = 5 ∨ i = 6 ∨ i = 7 ∨ i = 8 ∨ i = 9 := by omega
theorem on_ok2 {t : List Nat} {p q : Nat} {R : Res → List AArg → Prop} (hl : t.length ≤ 10000) (hp : p ≤ t.length) (h : NxS t p q) (hR : R (.dat (.int q)) [.dat (.lst (kdsD t)), .dat (.int p)]) : F_law_on [.dat (.lst (kdsD t)), .dat (.int p)] R := ⟨t, p, q, rfl, hl, hp, h, hR⟩
theorem red_law_due : ∀ as R, as.length = P_law_due.length → F_law_due as R → b_law_due (fnEnds as R) (c0 as N_law_due.length) := by
  rintro as R - ⟨t, p, q, i, rfl, hi, hl, hp, hq, hR⟩
  have lp := ln_le hp
  have se := st_en (ln_le hp)
  unfold b_law_due
  walk_at "cl"
  refine ixL_i (n := p) rfl (tbl_get hp) ?_
  unfold spD
  walk_at "cl"
  refine ixL_i (n := p) rfl (tbl_get hp) ?_
  unfold spD
  walk_at "cl"
  refine ⟨by omega, ?_⟩
  unfold t_law_due2 t_law_due1
  rcases wd_cases hi with rfl | rfl | rfl | rfl | rfl | rfl | rfl | rfl | rfl | rfl
  · have hq : q = p - 1 := hq
    simp only [wd, wds, List.getD_cons_zero, List.getD_cons_succ]
    walk_at "cl"
    try simp only [List.cons.injEq, reduceCtorEq, Nat.reduceEqDiff, false_and, and_false, and_true, true_and, false_implies, not_false_eq_true, true_implies, not_true_eq_false]
    rw [show ((p : Int) - if (0 : Int) < (p : Int) then 1 else 0) = (q : Int) by split <;> omega]
    exact hR
  · have hq : q = min (p + 1) t.length := hq
    simp only [wd, wds, List.getD_cons_zero, List.getD_cons_succ]
    walk_at "cl"
    try simp only [List.cons.injEq, reduceCtorEq, Nat.reduceEqDiff, false_and, and_false, and_true, true_and, false_implies, not_false_eq_true, true_implies, not_true_eq_false]
    rw [show ((p : Int) + if (p : Int) < (t.length : Int) then 1 else 0) = (q : Int) by split <;> omega]
    exact hR
  · have hq : q = (if ln t p = 0 then p else plN t (ln t p - 1) (col t p)) := hq
    simp only [wd, wds, List.getD_cons_zero, List.getD_cons_succ]
    walk_at "cl"
    try simp only [List.cons.injEq, reduceCtorEq, Nat.reduceEqDiff, false_and, and_false, and_true, true_and, false_implies, not_false_eq_true, true_implies, not_true_eq_false]
    refine ⟨fun h => ?_, fun h => ?_⟩
    · rw [if_neg (by omega)] at hq
      rw [show ((ln t p : Int) - 1) = ((ln t p - 1 : Nat) : Int) by omega]
      refine ne_ok hl (by omega) ?_
      walk_at "cl"
      rw [← hq]
      exact hR
    · rw [if_pos (by omega)] at hq
      rw [hq] at hR
      exact hR
  · have hq : q = (if ln t p = nf t then p else plN t (ln t p + 1) (col t p)) := hq
    simp only [wd, wds, List.getD_cons_zero, List.getD_cons_succ]
    walk_at "cl"
    try simp only [List.cons.injEq, reduceCtorEq, Nat.reduceEqDiff, false_and, and_false, and_true, true_and, false_implies, not_false_eq_true, true_implies, not_true_eq_false]
    refine ixL_i (n := t.length) rfl (tbl_get (Nat.le_refl _)) ?_
    unfold spD
    rw [ln_all]
    walk_at "cl"
    refine ⟨fun h => ?_, fun h => ?_⟩
    · rw [if_neg (by omega)] at hq
      rw [show ((ln t p : Int) + 1) = ((ln t p + 1 : Nat) : Int) by omega]
      refine ne_ok hl (by omega) ?_
      walk_at "cl"
      rw [← hq]
      exact hR
    · rw [if_pos (by omega)] at hq
      rw [hq] at hR
      exact hR
  · have hq : q = st t (ln t p) := hq
    simp only [wd, wds, List.getD_cons_zero, List.getD_cons_succ]
    walk_at "cl"
    try simp only [List.cons.injEq, reduceCtorEq, Nat.reduceEqDiff, false_and, and_false, and_true, true_and, false_implies, not_false_eq_true, true_implies, not_true_eq_false]
    refine ne_ok (c := 0) hl lp ?_
    walk_at "cl"
    rw [show plN t (ln t p) 0 = q by unfold plN; omega]
    exact hR
  · have hq : q = en t (ln t p) := hq
    simp only [wd, wds, List.getD_cons_zero, List.getD_cons_succ]
    walk_at "cl"
    try simp only [List.cons.injEq, reduceCtorEq, Nat.reduceEqDiff, false_and, and_false, and_true, true_and, false_implies, not_false_eq_true, true_implies, not_true_eq_false]
    refine ne_ok (c := t.length) hl lp ?_
    walk_at "cl"
    rw [show plN t (ln t p) t.length = q by unfold plN; omega]
    exact hR
  · have hq : q = 0 := hq
    simp only [wd, wds, List.getD_cons_zero, List.getD_cons_succ]
    walk_at "cl"
    try simp only [List.cons.injEq, reduceCtorEq, Nat.reduceEqDiff, false_and, and_false, and_true, true_and, false_implies, not_false_eq_true, true_implies, not_true_eq_false]
    subst hq
    exact hR
  · have hq : q = t.length := hq
    simp only [wd, wds, List.getD_cons_zero, List.getD_cons_succ]
    walk_at "cl"
    try simp only [List.cons.injEq, reduceCtorEq, Nat.reduceEqDiff, false_and, and_false, and_true, true_and, false_implies, not_false_eq_true, true_implies, not_true_eq_false]
    subst hq
    exact hR
  · simp only [wd, wds, List.getD_cons_zero, List.getD_cons_succ]
    walk_at "cl"
    try simp only [List.cons.injEq, reduceCtorEq, Nat.reduceEqDiff, false_and, and_false, and_true, true_and, false_implies, not_false_eq_true, true_implies, not_true_eq_false]
    refine on_ok2 hl hp hq ?_
    walk_at "cl"
    exact hR
  · simp only [wd, wds, List.getD_cons_zero, List.getD_cons_succ]
    walk_at "cl"
    try simp only [List.cons.injEq, reduceCtorEq, Nat.reduceEqDiff, false_and, and_false, and_true, true_and, false_implies, not_false_eq_true, true_implies, not_true_eq_false]
    refine ⟨t, p, q, rfl, hl, hp, hq, ?_⟩
    walk_at "cl"
    exact hR
theorem du_ok {t : List Nat} {p q i : Nat} {R : Res → List AArg → Prop} (hi : i < 10) (hl : t.length ≤ 10000) (hp : p ≤ t.length) (hq : MvS i t p q) (hR : R (.dat (.int q)) [.dat (.str t), .dat (.lst (kdsD t)), .dat (.lst (tblD t)), .dat (.int p), .dat (.str (wd i))]) : F_law_due [.dat (.str t), .dat (.lst (kdsD t)), .dat (.lst (tblD t)), .dat (.int p), .dat (.str (wd i))] R := ⟨t, p, q, i, rfl, hi, hl, hp, hq, hR⟩


end K48
namespace K48
open PySem PySem.Spec PyProof.Rows L2 Cl
local macro_rules | `(tactic| walk_at "cl") => `(tactic| simp only [c0, toSlot, pick, wipeC, e_dSeq, e_dAsg, e_dAsgG, e_dIf, e_dTru, e_dC, e_dBin, e_dBinT, e_dUn, e_dRet, e_dRetN, e_dDrop, e_dMeth, e_dNext, e_dBreak, e_dCont, e_dAnd, e_dOr, e_dNot, e_dAndV, e_dOrV, e_dNotV, e_dIfE, e_dTup, e_dLst, e_dCB, e_dSl, e_dNoPart, e_dIsi, e_dYes, e_aCons, e_aNil, e_lCons, e_lNil, e_vCons, e_vNil, e_dItems, e_dRng2, e_dRng3, e_dCall, e_dCallK, e_dRev, e_dEnum, c_on1_dat, c_on1_sl, c_onS_dat, c_onS_own, c_onS_arg, c_on2, c_hd_dat, c_hd_sl, c_hd_new, c_asD_dat, c_asD_new, c_asD_sl, c_asS_dat, c_asS_own, c_var, c_varS_dat, c_varS_own, c_varS_arg, c_blR, c_blD, c_tru_non, c_tru_bl, c_tru_int, c_tru_lst, c_tru_tup, c_put_dat, c_put_new, c_put_sl, c_putS_dat, c_putS_own, c_toRet_dat, c_toRet_new, c_toRet_sl, c_toRetS_dat, c_toRetS_own, c_retC_dat, c_retC_new, c_ends_rt, c_ends_nx, c_ends_bk, c_ends_ct, c_retB_dat, c_retB_new, c_retB_sl, c_retBS_own, c_bk_nil, c_bk_dat, c_bk_ob, c_gt0, c_gtS, c_fsub, c_faddI, c_fadd_int, c_fadd_str, c_fadd_lst, c_fadd_tup, c_fmul_int, c_fmul_lst, c_fmul_str, c_fdiv, c_fmod, c_fpow, c_fshl, c_fshr, c_fand, c_for, c_fxor, c_flt, c_fle, c_fgt, c_fge, c_fneg, c_feq_int, c_fne_int, c_feq_str, c_fne_str, c_feq_bl, c_fne_bl, c_fin_str, c_fin_lst, c_fin_tup, c_fisn, c_fisb, c_isn_non, c_isb_non, c_tyd_non, c_isn_bl, c_isb_bl, c_tyd_bl, c_isn_int, c_isb_int, c_tyd_int, c_isn_str, c_isb_str, c_tyd_str, c_isn_tup, c_isb_tup, c_tyd_tup, c_isn_lst, c_isb_lst, c_tyd_lst, c_isn_frz, c_isb_frz, c_tyd_frz, c_isi_NoneType_bool, c_isi_NoneType_int, c_isi_NoneType_str, c_isi_NoneType_tuple, c_isi_NoneType_list, c_isi_bool_bool, c_isi_bool_int, c_isi_bool_str, c_isi_bool_tuple, c_isi_bool_list, c_isi_int_bool, c_isi_int_int, c_isi_int_str, c_isi_int_tuple, c_isi_int_list, c_isi_str_bool, c_isi_str_int, c_isi_str_str, c_isi_str_tuple, c_isi_str_list, c_isi_tuple_bool, c_isi_tuple_int, c_isi_tuple_str, c_isi_tuple_tuple, c_isi_tuple_list, c_isi_list_bool, c_isi_list_int, c_isi_list_str, c_isi_list_tuple, c_isi_list_list, c_fix_lst, c_fix_tup, c_fix_frz, c_fix_str, c_ixL0, c_ixL1, c_ixL2, c_ixL3, c_len_lst, c_len_tup, c_len_frz, c_len_str, c_int1_int, c_int1_bl, c_abs, c_min2, c_max2, c_len, c_int1, c_fabs, c_ftuple, c_flist, c_tuple_lst, c_tuple_tup, c_list_lst, c_list_tup, c_sl_lst, c_sl_str, c_sl_tup, c_part_int, c_part, c_mappend, c_mpop, c_obS_own, c_setS_own, c_obS_arg, c_setS_arg, c_obL, c_setL, c_setIx, c_ixQ, c_setN, c_ixN10, c_ixN20, c_ixN21, c_ixN30, c_ixN31, c_ixN32, c_mt, c_mtQ, c_vws_nil, c_vws_cons, c_rfind4, c_rfind, c_join_lst, c_join_tup, c_one1, c_cints2, c_cints3, c_own, c_isOb_own, c_isOb_arg, c_callQ, c_look_nil, c_look_dat, c_look_own, c_lookS_own, c_lookS_arg, c_nd_nil, c_nd_dat, c_nd_own, c_ni_nil, c_ni_dat, c_ni_own, c_putA_nil, c_putA_cons, c_new_none, c_new_arg, c_new_own, c_oa_nil, c_oa_dat, c_oa_own, c_gT, c_gsCons, c_gsNil, c_gN, c_it_lst, c_it_tup, c_it_frz, c_it_str, c_rng1, c_rngQ, c_par, c_two, c_aug, c_augS, c_loop, c_lc, List.map_cons, List.map_nil, List.length_cons, List.length_nil, Nat.reduceAdd, Nat.reduceSub, Nat.reduceLT, Nat.reduceLeDiff, Nat.zero_le, List.replicate, List.cons_append, List.nil_append, List.append_nil, List.set_cons_zero, List.set_cons_succ, List.getD_cons_zero, List.getD_cons_succ, br_true, br_false, br_not, br_dec, true_and, and_true, if_true, if_false, reduceIte, reduceCtorEq, Nat.reduceEqDiff, Nat.reduceBNe, Bool.and_true, Bool.true_and, Bool.bne_false, Bool.bne_true, Bool.not_true, Bool.not_false, Bool.true_bne, Bool.false_bne, not_true_eq_false, not_false_eq_true, implies_true, one_eq, rngD_length, rngC_length, Int.reduceToNat, Int.cast_ofNat_Int, Int.natCast_one, Int.natCast_zero, Int.reduceEq, eq_self, true_implies, false_implies, not_false_eq_true, Int.reducePow, Int.reduceNeg, Int.reduceLT, Int.reduceLE, true_or, or_true, decide_eq_true_eq, beq_self_eq_true, Nat.zero_add, c_unw_nil, c_unw, c_unwS_no, c_unwS_dat, c_rev_lst, c_rev_tup, c_oneD, c_bad, c_ext, c_extK, c_mrev, c_popAt, c_popK, c_idx, c_forA, fEq_pair, fNe_pair, e_dIsiT, e_dLstRg, c_rgL, c_idxD, c_gL, c_isiD_bool, c_isiD_int, c_isiD_str, c_isiD_tuple, c_isiD_list, c_isiD_NoneType, Bool.or_false, Bool.false_or, Bool.or_true, Bool.true_or, Bool.and_false, Bool.false_and, e_dZip2, e_dZip3, c_twoD, c_threeD, c_zip2t, c_zip2l, c_zip3t, c_addT_int, c_addT_str, c_addT_lst, c_addT_tup, e_dSlT, c_slT_lst, c_slT_tup, c_slT_str, c_ntB, e_dRvT, c_rvT, c_finD, e_dIdxS, c_slL, c_endsX_rt, c_endsX_nx, c_endsX_ra, e_dCallX, e_dDropX, e_dAsgX, e_dAsgGX, e_dRetX, e_dRaise, e_dTry, c_catchX, e_dFld, c_fieldX, c_lookF, c_mtL1, c_in1, e_dEmp, c_gSubI, c_tyd_emp, c_isi_dict_bool, c_isi_dict_int, c_isi_dict_str, c_isi_dict_tuple, c_isi_dict_list, c_isi_dict_dict, c_min2, c_intS, e_dGetL, c_getLS, e_dReplW, c_replWD, e_dSrtSet, c_srtSet, e_dChain, e_dChainT, c_sorted_lst, c_sorted_tup, c_sorted_frz, c_sum, c_all, c_any, c_minI2, c_maxI2, c_minI_lst, c_maxI_lst, e_dRvL, c_rvL, e_dZipM, c_sq_lst, c_sq_tup, c_sq_frz, e_dIsE, c_isED, e_dDisp, c_wrd, c_count1, c_count4, c_find3, c_find, c_split, c_listS, c_tupleS])
def Sg (s : List Nat) : Prop := Gp s ∧ 1 ≤ s.length ∧ s.length ≤ 100
theorem cls_ok {v : Nat} (h : v < 4) : Sg (clsT.getD v []) := by
  have : v = 0 ∨ v = 1 ∨ v = 2 ∨ v = 3 := by omega
  rcases this with rfl | rfl | rfl | rfl <;> exact ⟨by unfold Gp; decide +kernel, by decide, by decide⟩
theorem cls_get {v : Nat} (h : v < 4) : (clsT.map Dt.str)[v]? = some (.str (clsT.getD v [])) := by
  have : v = 0 ∨ v = 1 ∨ v = 2 ∨ v = 3 := by omega
  rcases this with rfl | rfl | rfl | rfl <;> rfl
theorem Gp.app {a b : List Nat} (h : Gp a) (h' : Gp b) : Gp (a ++ b) := fun ch hc => by
  rcases List.mem_append.mp hc with z | z
  · exact h ch z
  · exact h' ch z
theorem Gp.one {s : List Nat} (h : Gp s) {k : Nat} (hk : k < s.length) : Gp [s[k]] := fun ch hc => by
  rw [List.mem_singleton.mp hc]
  exact h _ (List.getElem_mem hk)
theorem Gp.rep {n : Nat} {s : List Nat} (h : Gp s) : Gp (List.replicate n s).flatten := fun ch hc => by
  obtain ⟨l, h1, h2⟩ := List.mem_flatten.mp hc
  rw [List.mem_replicate] at h1
  rw [h1.2] at h2
  exact h ch h2
/-- one of a row of numbers -/
theorem ixN_ok2 {l : List Dt} {i : Int} {n : Nat} {k : Res → Prop} (h0 : 0 ≤ i) (h1 : i < l.length) (hl : ∀ d ∈ l, ∃ v : Nat, v ≤ n ∧ d = .int v) (hk : ∀ v : Nat, v ≤ n → k (.dat (.int v))) : ixL l i k := by
  refine ixL_mem h0 h1 fun d hd => ?_
  obtain ⟨v, hv, rfl⟩ := hl d hd
  exact hk v hv
theorem sg_d : Sg [48, 49, 50, 51, 52, 53, 54, 55, 56, 57] := ⟨by unfold Gp; decide +kernel, by decide, by decide⟩
theorem sg_u : Sg [95, 97, 57, 90, 95] := ⟨by unfold Gp; decide +kernel, by decide, by decide⟩
theorem red_law_text : ∀ as R, as.length = P_law_text.length → F_law_text as R → b_law_text (fnEnds as R) (c0 as N_law_text.length) := by
  rintro as R - ⟨n, rfl, n0, n1, hR⟩
  unfold b_law_text
  walk_at "cl"
  refine ⟨rfl, ?_⟩
  walk_at "cl"
  refine ⟨by omega, ?_⟩
  have stop : ∀ (b : List Nat) (s4 s5 s6 s7 : Slot), Gp b → (b.length : Int) ≤ n → t_law_text5 (fnEnds [.ob .pool, .dat (.int n)] R) [.arg .pool, .dat (.int n), .own (.lst (clsT.map Dt.str)), .dat (.str b), s4, s5, s6, s7] := fun b s4 s5 s6 s7 h1 h2 => by
    unfold t_law_text5
    walk_at "cl"
    exact hR b h1 h2
  refine for_rng (fun k c => ∃ (b : List Nat) (s4 s5 s6 s7 : Slot), Gp b ∧ (b.length : Int) ≤ n ∧ c = [.arg .pool, .dat (.int n), .own (.lst (clsT.map Dt.str)), .dat (.str b), s4, s5, s6, s7]) ⟨[], _, _, _, _, fun _ h => absurd h (by simp), (by rw [List.length_nil]; exact n0), rfl⟩ ?_ ?_
  · rintro k c' hk ⟨b, s4, s5, s6, s7, gb, lb, rfl⟩
    unfold l_law_text4
    simp only [c_gN, List.set_cons_succ, List.set_cons_zero]
    walk_at "cl"
    refine take_ok (by omega) (by omega) fun r r0 r1 => ?_
    walk_at "cl"
    refine ixN_ok2 (n := 3) r0 (by simp; omega) (fun d hd => ?_) fun v hv => ?_
    · simp only [List.mem_cons, List.not_mem_nil, or_false] at hd
      rcases hd with rfl | rfl | rfl | rfl | rfl | rfl | rfl | rfl
      · exact ⟨0, by omega, rfl⟩
      · exact ⟨0, by omega, rfl⟩
      · exact ⟨0, by omega, rfl⟩
      · exact ⟨1, by omega, rfl⟩
      · exact ⟨1, by omega, rfl⟩
      · exact ⟨2, by omega, rfl⟩
      · exact ⟨2, by omega, rfl⟩
      · exact ⟨3, by omega, rfl⟩
    walk_at "cl"
    refine ixL_i (n := v) rfl (cls_get (by omega)) ?_
    walk_at "cl"
    have go : ∀ s : List Nat, Sg s → t_law_text3 { nx := fun c => ∃ (b : List Nat) (s4 s5 s6 s7 : Slot), Gp b ∧ (b.length : Int) ≤ n ∧ c = [.arg .pool, .dat (.int n), .own (.lst (clsT.map Dt.str)), .dat (.str b), s4, s5, s6, s7], rt := (fnEnds [.ob .pool, .dat (.int n)] R).rt, bk := t_law_text5 (fnEnds [.ob .pool, .dat (.int n)] R), ct := fun c => ∃ (b : List Nat) (s4 s5 s6 s7 : Slot), Gp b ∧ (b.length : Int) ≤ n ∧ c = [.arg .pool, .dat (.int n), .own (.lst (clsT.map Dt.str)), .dat (.str b), s4, s5, s6, s7], ra := (fnEnds [.ob .pool, .dat (.int n)] R).ra } [.arg .pool, .dat (.int n), .own (.lst (clsT.map Dt.str)), .dat (.str b), .dat (.int (0 + (k : Int))), .dat (.int v), .dat (.str s), s7] := by
      rintro s ⟨sg, sl, su⟩
      unfold t_law_text3
      walk_at "cl"
      refine take_ok (by omega) (by omega) fun w w0 w1 => ?_
      walk_at "cl"
      refine ⟨by omega, ?_⟩
      refine for_rng (fun j c => ∃ (b : List Nat) (s7 : Slot), Gp b ∧ (b.length : Int) ≤ n ∧ c = [.arg .pool, .dat (.int n), .own (.lst (clsT.map Dt.str)), .dat (.str b), .dat (.int (0 + (k : Int))), .dat (.int v), .dat (.str s), s7]) ⟨b, _, gb, lb, rfl⟩ ?_ ?_
      · rintro j c' hj ⟨b, s7, gb, lb, rfl⟩
        unfold l_law_text1
        simp only [c_gN, List.set_cons_succ, List.set_cons_zero]
        walk_at "cl"
        refine ⟨by omega, fun h => ?_, fun h => ⟨b, _, gb, lb, rfl⟩⟩
        refine ⟨by omega, take_ok (by omega) (by omega) fun x x0 x1 => ?_⟩
        walk_at "cl"
        have hx : x.toNat < s.length := by omega
        refine ⟨by omega, ixS_i (n := x.toNat) (by omega) (List.getElem?_eq_getElem hx) ?_⟩
        try walk_at "cl"
        refine ⟨by omega, _, _, gb.app (sg.one hx), ?_, rfl⟩
        rw [List.length_append, List.length_singleton]
        omega
      · rintro c' ⟨b, s7, gb, lb, rfl⟩
        unfold t_law_text2
        walk_at "cl"
        exact ⟨by omega, fun _ => stop b _ _ _ _ gb lb, fun _ => ⟨b, _, _, _, _, gb, lb, rfl⟩⟩
    refine ⟨fun h => ?_, fun h => go _ (cls_ok (by omega))⟩
    refine take_ok (by omega) (by omega) fun x x0 x1 => ?_
    walk_at "cl"
    refine ixL_mem x0 (by simp; omega) fun d hd => ?_
    simp only [List.mem_cons, List.not_mem_nil, or_false] at hd
    rcases hd with rfl | rfl | rfl | rfl
    · walk_at "cl"
      exact go _ sg_d
    · walk_at "cl"
      exact go _ sg_u
    · walk_at "cl"
      exact go _ (cls_ok (by omega))
    · walk_at "cl"
      exact go _ (cls_ok (by omega))
  · rintro c' ⟨b, s4, s5, s6, s7, gb, lb, rfl⟩
    exact stop b s4 s5 s6 s7 gb lb
theorem lt_ok {n : Int} {R : Res → List AArg → Prop} (h0 : 0 ≤ n) (h1 : n ≤ 1000) (h : ∀ t : List Nat, Gp t → (t.length : Int) ≤ n → R (.dat (.str t)) [.ob .pool, .dat (.int n)]) : F_law_text [.ob .pool, .dat (.int n)] R := ⟨n, rfl, h0, h1, h⟩


end K48
namespace K48
open PySem PySem.Spec PyProof.Rows L2 Cl
local macro_rules | `(tactic| walk_at "cl") => `(tactic| simp only [c0, toSlot, pick, wipeC, e_dSeq, e_dAsg, e_dAsgG, e_dIf, e_dTru, e_dC, e_dBin, e_dBinT, e_dUn, e_dRet, e_dRetN, e_dDrop, e_dMeth, e_dNext, e_dBreak, e_dCont, e_dAnd, e_dOr, e_dNot, e_dAndV, e_dOrV, e_dNotV, e_dIfE, e_dTup, e_dLst, e_dCB, e_dSl, e_dNoPart, e_dIsi, e_dYes, e_aCons, e_aNil, e_lCons, e_lNil, e_vCons, e_vNil, e_dItems, e_dRng2, e_dRng3, e_dCall, e_dCallK, e_dRev, e_dEnum, c_on1_dat, c_on1_sl, c_onS_dat, c_onS_own, c_onS_arg, c_on2, c_hd_dat, c_hd_sl, c_hd_new, c_asD_dat, c_asD_new, c_asD_sl, c_asS_dat, c_asS_own, c_var, c_varS_dat, c_varS_own, c_varS_arg, c_blR, c_blD, c_tru_non, c_tru_bl, c_tru_int, c_tru_lst, c_tru_tup, c_put_dat, c_put_new, c_put_sl, c_putS_dat, c_putS_own, c_toRet_dat, c_toRet_new, c_toRet_sl, c_toRetS_dat, c_toRetS_own, c_retC_dat, c_retC_new, c_ends_rt, c_ends_nx, c_ends_bk, c_ends_ct, c_retB_dat, c_retB_new, c_retB_sl, c_retBS_own, c_bk_nil, c_bk_dat, c_bk_ob, c_gt0, c_gtS, c_fsub, c_faddI, c_fadd_int, c_fadd_str, c_fadd_lst, c_fadd_tup, c_fmul_int, c_fmul_lst, c_fmul_str, c_fdiv, c_fmod, c_fpow, c_fshl, c_fshr, c_fand, c_for, c_fxor, c_flt, c_fle, c_fgt, c_fge, c_fneg, c_feq_int, c_fne_int, c_feq_str, c_fne_str, c_feq_bl, c_fne_bl, c_fin_str, c_fin_lst, c_fin_tup, c_fisn, c_fisb, c_isn_non, c_isb_non, c_tyd_non, c_isn_bl, c_isb_bl, c_tyd_bl, c_isn_int, c_isb_int, c_tyd_int, c_isn_str, c_isb_str, c_tyd_str, c_isn_tup, c_isb_tup, c_tyd_tup, c_isn_lst, c_isb_lst, c_tyd_lst, c_isn_frz, c_isb_frz, c_tyd_frz, c_isi_NoneType_bool, c_isi_NoneType_int, c_isi_NoneType_str, c_isi_NoneType_tuple, c_isi_NoneType_list, c_isi_bool_bool, c_isi_bool_int, c_isi_bool_str, c_isi_bool_tuple, c_isi_bool_list, c_isi_int_bool, c_isi_int_int, c_isi_int_str, c_isi_int_tuple, c_isi_int_list, c_isi_str_bool, c_isi_str_int, c_isi_str_str, c_isi_str_tuple, c_isi_str_list, c_isi_tuple_bool, c_isi_tuple_int, c_isi_tuple_str, c_isi_tuple_tuple, c_isi_tuple_list, c_isi_list_bool, c_isi_list_int, c_isi_list_str, c_isi_list_tuple, c_isi_list_list, c_fix_lst, c_fix_tup, c_fix_frz, c_fix_str, c_ixL0, c_ixL1, c_ixL2, c_ixL3, c_len_lst, c_len_tup, c_len_frz, c_len_str, c_int1_int, c_int1_bl, c_abs, c_min2, c_max2, c_len, c_int1, c_fabs, c_ftuple, c_flist, c_tuple_lst, c_tuple_tup, c_list_lst, c_list_tup, c_sl_lst, c_sl_str, c_sl_tup, c_part_int, c_part, c_mappend, c_mpop, c_obS_own, c_setS_own, c_obS_arg, c_setS_arg, c_obL, c_setL, c_setIx, c_ixQ, c_setN, c_ixN10, c_ixN20, c_ixN21, c_ixN30, c_ixN31, c_ixN32, c_mt, c_mtQ, c_vws_nil, c_vws_cons, c_rfind4, c_rfind, c_join_lst, c_join_tup, c_one1, c_cints2, c_cints3, c_own, c_isOb_own, c_isOb_arg, c_callQ, c_look_nil, c_look_dat, c_look_own, c_lookS_own, c_lookS_arg, c_nd_nil, c_nd_dat, c_nd_own, c_ni_nil, c_ni_dat, c_ni_own, c_putA_nil, c_putA_cons, c_new_none, c_new_arg, c_new_own, c_oa_nil, c_oa_dat, c_oa_own, c_gT, c_gsCons, c_gsNil, c_gN, c_it_lst, c_it_tup, c_it_frz, c_it_str, c_rng1, c_rngQ, c_par, c_two, c_aug, c_augS, c_loop, c_lc, List.map_cons, List.map_nil, List.length_cons, List.length_nil, Nat.reduceAdd, Nat.reduceSub, Nat.reduceLT, Nat.reduceLeDiff, Nat.zero_le, List.replicate, List.cons_append, List.nil_append, List.append_nil, List.set_cons_zero, List.set_cons_succ, List.getD_cons_zero, List.getD_cons_succ, br_true, br_false, br_not, br_dec, true_and, and_true, if_true, if_false, reduceIte, reduceCtorEq, Nat.reduceEqDiff, Nat.reduceBNe, Bool.and_true, Bool.true_and, Bool.bne_false, Bool.bne_true, Bool.not_true, Bool.not_false, Bool.true_bne, Bool.false_bne, not_true_eq_false, not_false_eq_true, implies_true, one_eq, rngD_length, rngC_length, Int.reduceToNat, Int.cast_ofNat_Int, Int.natCast_one, Int.natCast_zero, Int.reduceEq, eq_self, true_implies, false_implies, not_false_eq_true, Int.reducePow, Int.reduceNeg, Int.reduceLT, Int.reduceLE, true_or, or_true, decide_eq_true_eq, beq_self_eq_true, Nat.zero_add, c_unw_nil, c_unw, c_unwS_no, c_unwS_dat, c_rev_lst, c_rev_tup, c_oneD, c_bad, c_ext, c_extK, c_mrev, c_popAt, c_popK, c_idx, c_forA, fEq_pair, fNe_pair, e_dIsiT, e_dLstRg, c_rgL, c_idxD, c_gL, c_isiD_bool, c_isiD_int, c_isiD_str, c_isiD_tuple, c_isiD_list, c_isiD_NoneType, Bool.or_false, Bool.false_or, Bool.or_true, Bool.true_or, Bool.and_false, Bool.false_and, e_dZip2, e_dZip3, c_twoD, c_threeD, c_zip2t, c_zip2l, c_zip3t, c_addT_int, c_addT_str, c_addT_lst, c_addT_tup, e_dSlT, c_slT_lst, c_slT_tup, c_slT_str, c_ntB, e_dRvT, c_rvT, c_finD, e_dIdxS, c_slL, c_endsX_rt, c_endsX_nx, c_endsX_ra, e_dCallX, e_dDropX, e_dAsgX, e_dAsgGX, e_dRetX, e_dRaise, e_dTry, c_catchX, e_dFld, c_fieldX, c_lookF, c_mtL1, c_in1, e_dEmp, c_gSubI, c_tyd_emp, c_isi_dict_bool, c_isi_dict_int, c_isi_dict_str, c_isi_dict_tuple, c_isi_dict_list, c_isi_dict_dict, c_min2, c_intS, e_dGetL, c_getLS, e_dReplW, c_replWD, e_dSrtSet, c_srtSet, e_dChain, e_dChainT, c_sorted_lst, c_sorted_tup, c_sorted_frz, c_sum, c_all, c_any, c_minI2, c_maxI2, c_minI_lst, c_maxI_lst, e_dRvL, c_rvL, e_dZipM, c_sq_lst, c_sq_tup, c_sq_frz, e_dIsE, c_isED, e_dDisp, c_wrd, c_count1, c_count4, c_find3, c_find, c_split, c_listS, c_tupleS])
theorem red_law_runs : ∀ as R, as.length = P_law_runs.length → F_law_runs as R → b_law_runs (fnEnds as R) (c0 as N_law_runs.length) := by
  rintro as R - ⟨rfl, hR⟩
  unfold b_law_runs
  walk_at "cl"
  refine ⟨rfl, ?_⟩
  walk_at "cl"
  refine take_ok (by omega) (by omega) fun a a0 a1 => ?_
  walk_at "cl"
  refine lt_ok (by omega) (by omega) fun b0 g0 l0 => ?_
  walk_at "cl"
  refine take_ok (by omega) (by omega) fun r r0 r1 => ?_
  walk_at "cl"
  refine ⟨by omega, ?_⟩
  refine for_rng (fun k c => ∃ (b : List Nat) (s3 s4 s5 s6 : Slot), Gp b ∧ b.length ≤ 6 + k * 200 ∧ c = [.arg .pool, .own (.lst (clsT.map Dt.str)), .dat (.str b), s3, s4, s5, s6]) ⟨b0, _, _, _, _, g0, by omega, rfl⟩ ?_ ?_
  · rintro k c' hk ⟨b, s3, s4, s5, s6, gb, lb, rfl⟩
    unfold l_law_runs3
    simp only [c_gN, List.set_cons_succ, List.set_cons_zero]
    walk_at "cl"
    refine take_ok (by omega) (by omega) fun x x0 x1 => ?_
    walk_at "cl"
    obtain ⟨sg, sl, su⟩ := cls_ok (v := x.toNat) (by omega)
    refine ixL_i (n := x.toNat) (by omega) (cls_get (by omega)) ?_
    generalize clsT.getD x.toNat [] = s at *
    walk_at "cl"
    refine ⟨by omega, take_ok (by omega) (by omega) fun f f0 f1 => ?_⟩
    walk_at "cl"
    refine take_ok (by omega) (by omega) fun m m0 m1 => ?_
    walk_at "cl"
    refine ⟨by omega, ?_⟩
    refine for_rng (fun j c => ∃ (b' : List Nat) (s6 : Slot), Gp b' ∧ b'.length ≤ 6 + k * 200 + j ∧ c = [.arg .pool, .own (.lst (clsT.map Dt.str)), .dat (.str b'), .dat (.int (0 + (k : Int))), .dat (.str s), .dat (.int f), s6]) ⟨b, _, gb, by omega, rfl⟩ ?_ ?_
    · rintro j c' hj ⟨b', s6, gb, lb, rfl⟩
      unfold l_law_runs1
      simp only [c_gN, List.set_cons_succ, List.set_cons_zero]
      walk_at "cl"
      have i0 : 0 ≤ (f + 7 * (0 + (j : Int))) % (s.length : Int) := Int.emod_nonneg _ (by omega)
      have i1 : (f + 7 * (0 + (j : Int))) % (s.length : Int) < (s.length : Int) := Int.emod_lt_of_pos _ (by omega)
      generalize (f + 7 * (0 + (j : Int))) % (s.length : Int) = i at *
      have hi : i.toNat < s.length := by omega
      refine ⟨by omega, by omega, by omega, ixS_i (n := i.toNat) (by omega) (List.getElem?_eq_getElem hi) ?_⟩
      try walk_at "cl"
      exact ⟨by omega, _, _, gb.app (sg.one hi), by rw [List.length_append, List.length_singleton]; omega, rfl⟩
    · rintro c' ⟨b', s6, gb, lb, rfl⟩
      unfold t_law_runs2
      walk_at "cl"
      refine take_ok (by omega) (by omega) fun y y0 y1 => ?_
      walk_at "cl"
      refine ixN_ok2 (n := 34) y0 (by simp; omega) (fun d hd => ?_) fun v hv => ?_
      · simp only [List.mem_cons, List.not_mem_nil, or_false] at hd
        rcases hd with rfl | rfl | rfl | rfl | rfl | rfl
        · exact ⟨0, by omega, rfl⟩
        · exact ⟨1, by omega, rfl⟩
        · exact ⟨9, by omega, rfl⟩
        · exact ⟨12, by omega, rfl⟩
        · exact ⟨21, by omega, rfl⟩
        · exact ⟨34, by omega, rfl⟩
      walk_at "cl"
      have fl : (List.replicate (v : Int).toNat [32]).flatten.length = v := by
        rw [List.length_flatten]
        simp
      have gr : Gp (List.replicate (v : Int).toNat [32]).flatten := Gp.rep (by unfold Gp; decide +kernel)
      generalize (List.replicate (v : Int).toNat [32]).flatten = sp at *
      refine ⟨by omega, by omega, take_ok (by omega) (by omega) fun z z0 z1 => ?_⟩
      walk_at "cl"
      refine lt_ok (by omega) (by omega) fun b2 g2 l2 => ?_
      walk_at "cl"
      have e1 : (b' ++ sp).length = b'.length + sp.length := List.length_append
      have e2 : (b' ++ sp ++ b2).length = b'.length + sp.length + b2.length := by rw [List.length_append, e1]
      exact ⟨by omega, _, _, _, _, _, (gb.app gr).app g2, by omega, rfl⟩
  · rintro c' ⟨b, s3, s4, s5, s6, gb, lb, rfl⟩
    unfold t_law_runs4
    walk_at "cl"
    exact hR b gb (by omega)
/-- a row of places -/
def Sp (n : Nat) (l : List Nat) : Prop := ∀ p ∈ l, p ≤ n
theorem ask_ok {t : List Nat} (g : Gp t) (hl : t.length ≤ 10000) : True := trivial
theorem tb_ok {t : List Nat} {R : Res → List AArg → Prop} (hl : t.length ≤ 10000) (hR : R (.new (.lst (tblD t))) [.dat (.str t)]) : F_law_table [.dat (.str t)] R := ⟨t, rfl, hl, hR⟩
theorem cl_ok {ch : Nat} {R : Res → List AArg → Prop} (hc : cl ch < 4) (hR : R (.dat (.int (cl ch : Nat))) [.dat (.str [ch])]) : F_law_class [.dat (.str [ch])] R := ⟨ch, rfl, hc, hR⟩
theorem wds_at {i : Nat} {w : List Nat} (h : wds[i]? = some w) : i < 10 ∧ w = wd i := by
  have hi := (List.getElem?_eq_some_iff.mp h).1
  refine ⟨hi, ?_⟩
  unfold wd
  rw [List.getD_eq_getElem?_getD, h]
  rfl
def OD (l : List Dt) (s : Slot) : Prop := s = .own (.lst l) ∨ s = .dat (.lst l)
theorem red_law_far : ∀ as R, as.length = P_law_far.length → F_law_far as R → b_law_far (fnEnds as R) (c0 as N_law_far.length) := by
  rintro as R - ⟨rfl, hR⟩
  unfold b_law_far
  walk_at "cl"
  refine ⟨rfl, ?_⟩
  walk_at "cl"
  refine take_ok (by omega) (by omega) fun a a0 a1 => ?_
  walk_at "cl"
  refine ⟨by omega, ?_⟩
  refine for_rng (fun k c => ∃ (b : List Nat) (es : List Nat) (s4 s9 s10 s11 : Slot), Gp b ∧ b.length ≤ k * 660 ∧ Sp b.length es ∧ es.length = k + 1 ∧ c = [.arg .pool, .own (.lst (clsT.map Dt.str)), .dat (.str b), .own (.lst (es.map fun (p : Nat) => Dt.int p)), s4, .no, .no, .no, .no, s9, s10, s11, .no, .no, .no]) ⟨[], [0], _, _, _, _, fun _ h => absurd h (by simp), Nat.zero_le _, fun p hp => by rw [List.mem_singleton.mp hp]; exact Nat.zero_le _, rfl, rfl⟩ ?_ ?_
  · rintro k c' hk ⟨b, es, s4, s9, s10, s11, gb, lb, he, hel, rfl⟩
    unfold l_law_far3
    simp only [c_gN, List.set_cons_succ, List.set_cons_zero]
    walk_at "cl"
    refine take_ok (by omega) (by omega) fun x x0 x1 => ?_
    walk_at "cl"
    refine ixN_ok2 (n := 3) x0 (by simp; omega) (fun d hd => ?_) fun v hv => ?_
    · simp only [List.mem_cons, List.not_mem_nil, or_false] at hd
      rcases hd with rfl | rfl | rfl | rfl | rfl | rfl
      · exact ⟨0, by omega, rfl⟩
      · exact ⟨2, by omega, rfl⟩
      · exact ⟨1, by omega, rfl⟩
      · exact ⟨2, by omega, rfl⟩
      · exact ⟨0, by omega, rfl⟩
      · exact ⟨3, by omega, rfl⟩
    walk_at "cl"
    obtain ⟨sg, sl, su⟩ := cls_ok (v := v) (by omega)
    refine ixL_i (n := v) rfl (cls_get (by omega)) ?_
    generalize clsT.getD v [] = s at *
    walk_at "cl"
    refine ⟨by omega, take_ok (by omega) (by omega) fun f f0 f1 => ?_⟩
    walk_at "cl"
    refine take_ok (by omega) (by omega) fun m m0 m1 => ?_
    walk_at "cl"
    refine ixN_ok2 (n := 600) m0 (by simp; omega) (fun d hd => ?_) fun w hw => ?_
    · simp only [List.mem_cons, List.not_mem_nil, or_false] at hd
      rcases hd with rfl | rfl | rfl | rfl
      · exact ⟨1, by omega, rfl⟩
      · exact ⟨9, by omega, rfl⟩
      · exact ⟨280, by omega, rfl⟩
      · exact ⟨600, by omega, rfl⟩
    walk_at "cl"
    refine take_ok (by omega) (by omega) fun y y0 y1 => ?_
    walk_at "cl"
    refine ⟨by omega, ?_⟩
    refine for_rng (fun j c => ∃ (b' : List Nat) (s11 : Slot), Gp b' ∧ b.length ≤ b'.length ∧ b'.length ≤ k * 660 + j ∧ c = [.arg .pool, .own (.lst (clsT.map Dt.str)), .dat (.str b'), .own (.lst (es.map fun (p : Nat) => Dt.int p)), .dat (.int (0 + (k : Int))), .no, .no, .no, .no, .dat (.str s), .dat (.int f), s11, .no, .no, .no]) ⟨b, _, gb, Nat.le_refl _, by omega, rfl⟩ ?_ ?_
    · rintro j c' hj ⟨b', s11, gb', lb1, lb2, rfl⟩
      unfold l_law_far1
      simp only [c_gN, List.set_cons_succ, List.set_cons_zero]
      walk_at "cl"
      have i0 : 0 ≤ (f + 7 * (0 + (j : Int))) % (s.length : Int) := Int.emod_nonneg _ (by omega)
      have i1 : (f + 7 * (0 + (j : Int))) % (s.length : Int) < (s.length : Int) := Int.emod_lt_of_pos _ (by omega)
      generalize (f + 7 * (0 + (j : Int))) % (s.length : Int) = i at *
      have hi : i.toNat < s.length := by omega
      refine ⟨by omega, by omega, by omega, ixS_i (n := i.toNat) (by omega) (List.getElem?_eq_getElem hi) ?_⟩
      try walk_at "cl"
      exact ⟨by omega, _, _, gb'.app (sg.one hi), by rw [List.length_append]; omega, by rw [List.length_append, List.length_singleton]; omega, rfl⟩
    · rintro c' ⟨b', s11, gb', lb1, lb2, rfl⟩
      unfold t_law_far2
      walk_at "cl"
      rw [List.length_map, show es.map (fun (p : Nat) => Dt.int p) ++ [.int (b'.length : Nat)] = (es ++ [b'.length]).map (fun (p : Nat) => Dt.int p) by rw [List.map_append]; rfl]
      refine ⟨by omega, by omega, b', es ++ [b'.length], _, _, _, _, gb', by omega, fun p hp => ?_, by rw [List.length_append, hel]; rfl, rfl⟩
      rcases List.mem_append.mp hp with z | z
      · have := he p z
        omega
      · rw [List.mem_singleton.mp z]
        exact Nat.le_refl _
  · rintro c' ⟨b, es, s4, s9, s10, s11, gb, lb, he, hel, rfl⟩
    unfold t_law_far7
    walk_at "cl"
    have hl : b.length ≤ 10000 := by omega
    refine lcm (f := fun ch => Dt.str [ch]) (fun ch => .int (cl ch : Nat)) (by omega) (fun ch hch Y hY => ?_) ?_
    · walk_at "cl"
      refine cl_ok (gb ch hch) ?_
      walk_at "cl"
      exact hY
    walk_at "cl"
    refine tb_ok hl ?_
    walk_at "cl"
    rw [List.length_map]
    refine ⟨by omega, take_ok (by omega) (by omega) fun x x0 x1 => ?_⟩
    walk_at "cl"
    have hx : x.toNat < es.length := by omega
    refine ixL_i (n := x.toNat) (by omega) (by rw [List.getElem?_map, List.getElem?_eq_getElem hx]; rfl) ?_
    walk_at "cl"
    refine ⟨by omega, take_ok (by omega) (by omega) fun y y0 y1 => ?_⟩
    walk_at "cl"
    have ea : es.map (fun (p : Nat) => Dt.int p) ++ [.int (min (b.length : Int) ((es[x.toNat] : Nat) + 1)), .int y] = (es ++ [min b.length (es[x.toNat] + 1), y.toNat]).map (fun (p : Nat) => Dt.int p) := by
      rw [List.map_append]
      show _ = _ ++ [Dt.int ((min b.length (es[x.toNat] + 1) : Nat) : Int), Dt.int ((y.toNat : Nat) : Int)]
      rw [show ((min b.length (es[x.toNat] + 1) : Nat) : Int) = min (b.length : Int) ((es[x.toNat] : Nat) + 1) by omega, show ((y.toNat : Nat) : Int) = y by omega]
    rw [ea]
    have hask : Sp b.length (es ++ [min b.length (es[x.toNat] + 1), y.toNat]) := fun p hp => by
      rcases List.mem_append.mp hp with z | z
      · exact he p z
      · simp only [List.mem_cons, List.not_mem_nil, or_false] at z
        rcases z with rfl | rfl
        · exact Nat.min_le_left _ _
        · omega
    generalize es ++ [min b.length (es[x.toNat] + 1), y.toNat] = ask at *
    refine ⟨by rw [List.length_map]; omega, rfl, ?_⟩
    walk_at "cl"
    refine for_map (f := Dt.str) (fun k c => ∃ s5 s6 s7 s8 s12 s13 : Slot, OD (kdsD b) s5 ∧ OD (tblD b) s6 ∧ OD (ask.map fun (p : Nat) => Dt.int p) s7 ∧ c = [.arg .pool, .own (.lst (clsT.map Dt.str)), .dat (.str b), .own (.lst (es.map fun (p : Nat) => Dt.int p)), s4, s5, s6, s7, s8, s9, s10, s11, s12, s13, .no]) ⟨_, _, _, _, _, _, .inl rfl, .inl rfl, .inl rfl, rfl⟩ ?_ ?_
    · rintro k w c' hw ⟨s5, s6, s7, s8, s12, s13, h5, h6, h7, rfl⟩
      obtain ⟨hk, rfl⟩ := wds_at hw
      unfold l_law_far5
      simp only [c_gN, List.set_cons_succ, List.set_cons_zero]
      have inner : ∀ s12 s13 : Slot, FI (ask.map fun (p : Nat) => Dt.int p) (gN 12) l_law_far4 { nx := fun c => ∃ s5 s6 s7 s8 s12 s13 : Slot, OD (kdsD b) s5 ∧ OD (tblD b) s6 ∧ OD (ask.map fun (p : Nat) => Dt.int p) s7 ∧ c = [.arg .pool, .own (.lst (clsT.map Dt.str)), .dat (.str b), .own (.lst (es.map fun (p : Nat) => Dt.int p)), s4, s5, s6, s7, s8, s9, s10, s11, s12, s13, .no], rt := (fnEnds [.ob .pool] R).rt, bk := t_law_far6 (fnEnds [.ob .pool] R), ct := fun c => ∃ s5 s6 s7 s8 s12 s13 : Slot, OD (kdsD b) s5 ∧ OD (tblD b) s6 ∧ OD (ask.map fun (p : Nat) => Dt.int p) s7 ∧ c = [.arg .pool, .own (.lst (clsT.map Dt.str)), .dat (.str b), .own (.lst (es.map fun (p : Nat) => Dt.int p)), s4, s5, s6, s7, s8, s9, s10, s11, s12, s13, .no], ra := (fnEnds [.ob .pool] R).ra } [.arg .pool, .own (.lst (clsT.map Dt.str)), .dat (.str b), .own (.lst (es.map fun (p : Nat) => Dt.int p)), s4, s5, s6, .dat (.lst (ask.map fun (p : Nat) => Dt.int p)), .dat (.str (wd k)), s9, s10, s11, s12, s13, .no] := by
        intro s12 s13
        refine for_map (f := fun (p : Nat) => Dt.int p) (fun j c => ∃ s5 s6 s12 s13 : Slot, OD (kdsD b) s5 ∧ OD (tblD b) s6 ∧ c = [.arg .pool, .own (.lst (clsT.map Dt.str)), .dat (.str b), .own (.lst (es.map fun (p : Nat) => Dt.int p)), s4, s5, s6, .dat (.lst (ask.map fun (p : Nat) => Dt.int p)), .dat (.str (wd k)), s9, s10, s11, s12, s13, .no]) ⟨_, _, _, _, h5, h6, rfl⟩ ?_ ?_
        · rintro j p c' hp ⟨s5, s6, s12, s13, h5, h6, rfl⟩
          have hpl := hask p (List.mem_of_getElem? hp)
          unfold l_law_far4
          simp only [c_gN, List.set_cons_succ, List.set_cons_zero]
          rcases h5 with rfl | rfl <;> rcases h6 with rfl | rfl
          all_goals
            walk_at "cl"
            refine mv_ok hk gb hl hpl fun q hq => ?_
            walk_at "cl"
            refine nu_ok ?_
            walk_at "cl"
            refine du_ok hk hl hpl hq ?_
            walk_at "cl"
            first | exact ⟨_, _, _, _, .inr rfl, .inr rfl, rfl⟩ | exact ⟨fun z => absurd rfl z, fun _ => ⟨_, _, _, _, .inr rfl, .inr rfl, rfl⟩⟩ | exact ⟨fun _ => ⟨_, _, _, _, .inr rfl, .inr rfl, rfl⟩, fun z => absurd rfl z⟩
        · rintro c' ⟨s5, s6, s12, s13, h5, h6, rfl⟩
          exact ⟨_, _, _, _, _, _, h5, h6, .inr rfl, rfl⟩
      rcases h7 with rfl | rfl
      · walk_at "cl"
        exact inner s12 s13
      · walk_at "cl"
        exact inner s12 s13
    · rintro c' ⟨s5, s6, s7, s8, s12, s13, h5, h6, h7, rfl⟩
      unfold t_law_far6
      rcases h5 with rfl | rfl <;> rcases h6 with rfl | rfl <;> rcases h7 with rfl | rfl
      all_goals
        walk_at "cl"
        exact hR


end K48
namespace K48
open PySem PySem.Spec PyProof.Rows L2 Cl
local macro_rules | `(tactic| walk_at "cl") => `(tactic| simp only [c0, toSlot, pick, wipeC, e_dSeq, e_dAsg, e_dAsgG, e_dIf, e_dTru, e_dC, e_dBin, e_dBinT, e_dUn, e_dRet, e_dRetN, e_dDrop, e_dMeth, e_dNext, e_dBreak, e_dCont, e_dAnd, e_dOr, e_dNot, e_dAndV, e_dOrV, e_dNotV, e_dIfE, e_dTup, e_dLst, e_dCB, e_dSl, e_dNoPart, e_dIsi, e_dYes, e_aCons, e_aNil, e_lCons, e_lNil, e_vCons, e_vNil, e_dItems, e_dRng2, e_dRng3, e_dCall, e_dCallK, e_dRev, e_dEnum, c_on1_dat, c_on1_sl, c_onS_dat, c_onS_own, c_onS_arg, c_on2, c_hd_dat, c_hd_sl, c_hd_new, c_asD_dat, c_asD_new, c_asD_sl, c_asS_dat, c_asS_own, c_var, c_varS_dat, c_varS_own, c_varS_arg, c_blR, c_blD, c_tru_non, c_tru_bl, c_tru_int, c_tru_lst, c_tru_tup, c_put_dat, c_put_new, c_put_sl, c_putS_dat, c_putS_own, c_toRet_dat, c_toRet_new, c_toRet_sl, c_toRetS_dat, c_toRetS_own, c_retC_dat, c_retC_new, c_ends_rt, c_ends_nx, c_ends_bk, c_ends_ct, c_retB_dat, c_retB_new, c_retB_sl, c_retBS_own, c_bk_nil, c_bk_dat, c_bk_ob, c_gt0, c_gtS, c_fsub, c_faddI, c_fadd_int, c_fadd_str, c_fadd_lst, c_fadd_tup, c_fmul_int, c_fmul_lst, c_fmul_str, c_fdiv, c_fmod, c_fpow, c_fshl, c_fshr, c_fand, c_for, c_fxor, c_flt, c_fle, c_fgt, c_fge, c_fneg, c_feq_int, c_fne_int, c_feq_str, c_fne_str, c_feq_bl, c_fne_bl, c_fin_str, c_fin_lst, c_fin_tup, c_fisn, c_fisb, c_isn_non, c_isb_non, c_tyd_non, c_isn_bl, c_isb_bl, c_tyd_bl, c_isn_int, c_isb_int, c_tyd_int, c_isn_str, c_isb_str, c_tyd_str, c_isn_tup, c_isb_tup, c_tyd_tup, c_isn_lst, c_isb_lst, c_tyd_lst, c_isn_frz, c_isb_frz, c_tyd_frz, c_isi_NoneType_bool, c_isi_NoneType_int, c_isi_NoneType_str, c_isi_NoneType_tuple, c_isi_NoneType_list, c_isi_bool_bool, c_isi_bool_int, c_isi_bool_str, c_isi_bool_tuple, c_isi_bool_list, c_isi_int_bool, c_isi_int_int, c_isi_int_str, c_isi_int_tuple, c_isi_int_list, c_isi_str_bool, c_isi_str_int, c_isi_str_str, c_isi_str_tuple, c_isi_str_list, c_isi_tuple_bool, c_isi_tuple_int, c_isi_tuple_str, c_isi_tuple_tuple, c_isi_tuple_list, c_isi_list_bool, c_isi_list_int, c_isi_list_str, c_isi_list_tuple, c_isi_list_list, c_fix_lst, c_fix_tup, c_fix_frz, c_fix_str, c_ixL0, c_ixL1, c_ixL2, c_ixL3, c_len_lst, c_len_tup, c_len_frz, c_len_str, c_int1_int, c_int1_bl, c_abs, c_min2, c_max2, c_len, c_int1, c_fabs, c_ftuple, c_flist, c_tuple_lst, c_tuple_tup, c_list_lst, c_list_tup, c_sl_lst, c_sl_str, c_sl_tup, c_part_int, c_part, c_mappend, c_mpop, c_obS_own, c_setS_own, c_obS_arg, c_setS_arg, c_obL, c_setL, c_setIx, c_ixQ, c_setN, c_ixN10, c_ixN20, c_ixN21, c_ixN30, c_ixN31, c_ixN32, c_mt, c_mtQ, c_vws_nil, c_vws_cons, c_rfind4, c_rfind, c_join_lst, c_join_tup, c_one1, c_cints2, c_cints3, c_own, c_isOb_own, c_isOb_arg, c_callQ, c_look_nil, c_look_dat, c_look_own, c_lookS_own, c_lookS_arg, c_nd_nil, c_nd_dat, c_nd_own, c_ni_nil, c_ni_dat, c_ni_own, c_putA_nil, c_putA_cons, c_new_none, c_new_arg, c_new_own, c_oa_nil, c_oa_dat, c_oa_own, c_gT, c_gsCons, c_gsNil, c_gN, c_it_lst, c_it_tup, c_it_frz, c_it_str, c_rng1, c_rngQ, c_par, c_two, c_aug, c_augS, c_loop, c_lc, List.map_cons, List.map_nil, List.length_cons, List.length_nil, Nat.reduceAdd, Nat.reduceSub, Nat.reduceLT, Nat.reduceLeDiff, Nat.zero_le, List.replicate, List.cons_append, List.nil_append, List.append_nil, List.set_cons_zero, List.set_cons_succ, List.getD_cons_zero, List.getD_cons_succ, br_true, br_false, br_not, br_dec, true_and, and_true, if_true, if_false, reduceIte, reduceCtorEq, Nat.reduceEqDiff, Nat.reduceBNe, Bool.and_true, Bool.true_and, Bool.bne_false, Bool.bne_true, Bool.not_true, Bool.not_false, Bool.true_bne, Bool.false_bne, not_true_eq_false, not_false_eq_true, implies_true, one_eq, rngD_length, rngC_length, Int.reduceToNat, Int.cast_ofNat_Int, Int.natCast_one, Int.natCast_zero, Int.reduceEq, eq_self, true_implies, false_implies, not_false_eq_true, Int.reducePow, Int.reduceNeg, Int.reduceLT, Int.reduceLE, true_or, or_true, decide_eq_true_eq, beq_self_eq_true, Nat.zero_add, c_unw_nil, c_unw, c_unwS_no, c_unwS_dat, c_rev_lst, c_rev_tup, c_oneD, c_bad, c_ext, c_extK, c_mrev, c_popAt, c_popK, c_idx, c_forA, fEq_pair, fNe_pair, e_dIsiT, e_dLstRg, c_rgL, c_idxD, c_gL, c_isiD_bool, c_isiD_int, c_isiD_str, c_isiD_tuple, c_isiD_list, c_isiD_NoneType, Bool.or_false, Bool.false_or, Bool.or_true, Bool.true_or, Bool.and_false, Bool.false_and, e_dZip2, e_dZip3, c_twoD, c_threeD, c_zip2t, c_zip2l, c_zip3t, c_addT_int, c_addT_str, c_addT_lst, c_addT_tup, e_dSlT, c_slT_lst, c_slT_tup, c_slT_str, c_ntB, e_dRvT, c_rvT, c_finD, e_dIdxS, c_slL, c_endsX_rt, c_endsX_nx, c_endsX_ra, e_dCallX, e_dDropX, e_dAsgX, e_dAsgGX, e_dRetX, e_dRaise, e_dTry, c_catchX, e_dFld, c_fieldX, c_lookF, c_mtL1, c_in1, e_dEmp, c_gSubI, c_tyd_emp, c_isi_dict_bool, c_isi_dict_int, c_isi_dict_str, c_isi_dict_tuple, c_isi_dict_list, c_isi_dict_dict, c_min2, c_intS, e_dGetL, c_getLS, e_dReplW, c_replWD, e_dSrtSet, c_srtSet, e_dChain, e_dChainT, c_sorted_lst, c_sorted_tup, c_sorted_frz, c_sum, c_all, c_any, c_minI2, c_maxI2, c_minI_lst, c_maxI_lst, e_dRvL, c_rvL, e_dZipM, c_sq_lst, c_sq_tup, c_sq_frz, e_dIsE, c_isED, e_dDisp, c_wrd, c_count1, c_count4, c_find3, c_find, c_split, c_listS, c_tupleS])
theorem replW_one (ch z : Nat) (t : List Nat) : replW [ch] [z] t = replL ch [z] t := by
  unfold replW
  rw [repl_S]
  rfl
theorem replL_gp {ch z : Nat} (hz : cl z < 4) : ∀ {t : List Nat}, Gp t → Gp (replL ch [z] t) ∧ (replL ch [z] t).length = t.length
  | [], g => ⟨g, rfl⟩
  | a :: r, g => by
    obtain ⟨i1, i2⟩ := replL_gp (ch := ch) hz (t := r) fun c hc => g c (List.mem_cons_of_mem _ hc)
    unfold replL
    by_cases e : a = ch
    · rw [if_pos e]
      refine ⟨fun c hc => ?_, by rw [List.singleton_append, List.length_cons, List.length_cons, i2]⟩
      rcases List.mem_cons.mp hc with z | z
      · rw [z]
        exact hz
      · exact i1 c z
    · rw [if_neg e]
      refine ⟨fun c hc => ?_, by rw [List.length_cons, List.length_cons, i2]⟩
      rcases List.mem_cons.mp hc with z | z
      · rw [z]
        exact g a (List.mem_cons_self ..)
      · exact i1 c z
theorem Gp.sub {a b : List Nat} (h : Gp b) (hs : ∀ ch ∈ a, ch ∈ b) : Gp a := fun ch hc => h ch (hs ch hc)
theorem cut_in (b : List Nat) (o1 o2 : Option Int) : (∀ ch ∈ cut b o1 o2, ch ∈ b) ∧ (cut b o1 o2).length ≤ b.length := by
  unfold cut
  exact ⟨fun ch h => List.mem_of_mem_drop (List.mem_of_mem_take h), by rw [List.length_take, List.length_drop]; omega⟩
theorem rng_nat (n : Nat) : rngD 0 n = (List.range n).map fun (p : Nat) => Dt.int p := by
  unfold rngD
  refine List.map_congr_left fun k _ => ?_
  rw [Int.zero_add]
def Out (ns : List Int) (b ask : List Nat) : CEnv → Prop := fun c => ∃ s4 s5 s6 s7 s8 s9 s10 : Slot, OD (ask.map fun (p : Nat) => Dt.int p) s4 ∧ OD (kdsD b) s5 ∧ OD (tblD b) s6 ∧ c = [.dat (.frz (ns.map .int)), .own .pool, .dat (.int b.length), .dat (.str b), s4, s5, s6, s7, s8, s9, s10, .no, .no]
theorem lw2 {R : Res → List AArg → Prop} {ns : List Int} {b ask : List Nat} {k : Nat} {s5 s6 s8 s9 s10 : Slot} (hk : k < 10) (gb : Gp b) (hl : b.length ≤ 1000) (h5 : OD (kdsD b) s5) (h6 : OD (tblD b) s6) : t_law2 { nx := Out ns b ask, rt := (fnEnds [.dat (.frz (ns.map .int))] R).rt, bk := t_law5 (fnEnds [.dat (.frz (ns.map .int))] R), ct := Out ns b ask, ra := (fnEnds [.dat (.frz (ns.map .int))] R).ra } [.dat (.frz (ns.map .int)), .own .pool, .dat (.int b.length), .dat (.str b), .dat (.lst (ask.map fun (p : Nat) => Dt.int p)), s5, s6, .dat (.str (wd k)), s8, s9, s10, .no, .no] := by
  unfold t_law2
  walk_at "cl"
  refine take_ok (by omega) (by omega) fun x x0 x1 => ?_
  walk_at "cl"
  refine take_ok (by omega) (by omega) fun y y0 y1 => ?_
  walk_at "cl"
  refine ixN_ok2 (n := 3900) y0 (by simp; omega) (fun d hd => ?_) fun v hv => ?_
  · simp only [List.mem_cons, List.not_mem_nil, or_false] at hd
    rcases hd with rfl | rfl | rfl | rfl | rfl
    · exact ⟨0, by omega, rfl⟩
    · exact ⟨0, by omega, rfl⟩
    · exact ⟨1, by omega, rfl⟩
    · exact ⟨5, by omega, rfl⟩
    · exact ⟨x.toNat, by omega, by rw [show ((x.toNat : Nat) : Int) = x by omega]⟩
  walk_at "cl"
  rw [show ((b.length : Int) + 1 + (v : Int)) = ((b.length + 1 + v : Nat) : Int) by omega]
  refine ⟨b, b.length + 1 + v, k, rfl, hk, gb, by omega, by omega, ?_⟩
  walk_at "cl"
  exact ⟨_, _, _, _, _, _, _, .inr rfl, h5, h6, rfl⟩
theorem lw1 {R : Res → List AArg → Prop} {ns : List Int} {b ask : List Nat} {k : Nat} {s5 s6 s8 s9 s10 : Slot} (hk : k < 10) (gb : Gp b) (hl : b.length ≤ 1000) (hask : Sp b.length ask) (h5 : OD (kdsD b) s5) (h6 : OD (tblD b) s6) : FI (ask.map fun (p : Nat) => Dt.int p) (gN 8) l_law1 { nx := t_law2 { nx := Out ns b ask, rt := (fnEnds [.dat (.frz (ns.map .int))] R).rt, bk := t_law5 (fnEnds [.dat (.frz (ns.map .int))] R), ct := Out ns b ask, ra := (fnEnds [.dat (.frz (ns.map .int))] R).ra }, rt := (fnEnds [.dat (.frz (ns.map .int))] R).rt, bk := t_law5 (fnEnds [.dat (.frz (ns.map .int))] R), ct := Out ns b ask, ra := (fnEnds [.dat (.frz (ns.map .int))] R).ra } [.dat (.frz (ns.map .int)), .own .pool, .dat (.int b.length), .dat (.str b), .dat (.lst (ask.map fun (p : Nat) => Dt.int p)), s5, s6, .dat (.str (wd k)), s8, s9, s10, .no, .no] := by
  refine for_map (f := fun (p : Nat) => Dt.int p) (fun j c => ∃ s5 s6 s8 s9 : Slot, OD (kdsD b) s5 ∧ OD (tblD b) s6 ∧ c = [.dat (.frz (ns.map .int)), .own .pool, .dat (.int b.length), .dat (.str b), .dat (.lst (ask.map fun (p : Nat) => Dt.int p)), s5, s6, .dat (.str (wd k)), s8, s9, s10, .no, .no]) ⟨_, _, _, _, h5, h6, rfl⟩ ?_ ?_
  · rintro j p c' hp ⟨s5, s6, s8, s9, h5, h6, rfl⟩
    have hpl := hask p (List.mem_of_getElem? hp)
    unfold l_law1
    simp only [c_gN, List.set_cons_succ, List.set_cons_zero]
    rcases h5 with rfl | rfl <;> rcases h6 with rfl | rfl
    all_goals
      walk_at "cl"
      refine mv_ok hk gb (by omega) hpl fun q hq => ?_
      walk_at "cl"
      refine nu_ok ?_
      walk_at "cl"
      refine du_ok hk (by omega) hpl hq ?_
      walk_at "cl"
      first | exact ⟨_, _, _, _, .inr rfl, .inr rfl, rfl⟩ | exact ⟨fun z => absurd rfl z, fun _ => ⟨_, _, _, _, .inr rfl, .inr rfl, rfl⟩⟩ | exact ⟨fun _ => ⟨_, _, _, _, .inr rfl, .inr rfl, rfl⟩, fun z => absurd rfl z⟩
  · rintro c' ⟨s5, s6, s8, s9, h5, h6, rfl⟩
    exact lw2 hk gb hl h5 h6
theorem lw5 {R : Res → List AArg → Prop} {ns : List Int} {b ask : List Nat} (hR : R (.dat (.bl true)) [.dat (.frz (ns.map .int))]) (gb : Gp b) (hl : b.length ≤ 1000) (hask : Sp b.length ask) (ha1 : 1 ≤ ask.length) (ha2 : ask.length ≤ 100000) {c : CEnv} (h : Out ns b ask c) : t_law5 (fnEnds [.dat (.frz (ns.map .int))] R) c := by
  obtain ⟨s4, s5, s6, s7, s8, s9, s10, h4, h5, h6, rfl⟩ := h
  unfold t_law5 t_law4
  rcases h4 with rfl | rfl <;> rcases h5 with rfl | rfl
  all_goals
    walk_at "cl"
    rw [List.length_map]
    refine take_ok (by omega) (by omega) fun x x0 x1 => ?_
    walk_at "cl"
    have hx : x.toNat < ask.length := by omega
    have hpl := hask _ (List.getElem_mem hx)
    refine ixL_i (n := x.toNat) (by omega) (by rw [List.getElem?_map, List.getElem?_eq_getElem hx]; rfl) ?_
    generalize ask[x.toNat] = p at *
    walk_at "cl"
    refine mv_ok (i := 8) (by decide) gb (by omega) hpl fun q hq => ?_
    walk_at "cl"
    refine nu_ok ?_
    walk_at "cl"
    refine on_ok2 (by omega) hpl hq ?_
    walk_at "cl"
    refine take_ok (by omega) (by omega) fun y y0 y1 => ?_
    walk_at "cl"
    first
      | exact ⟨fun _ => hR, fun _ => ⟨rfl, hR⟩⟩
      | exact ⟨fun _ => hR, fun _ => hR⟩
theorem lw7 {R : Res → List AArg → Prop} {ns : List Int} {b ask : List Nat} (hR : R (.dat (.bl true)) [.dat (.frz (ns.map .int))]) (gb : Gp b) (hl : b.length ≤ 1000) (hask : Sp b.length ask) (ha1 : 1 ≤ ask.length) (ha2 : ask.length ≤ 100000) : t_law7 (fnEnds [.dat (.frz (ns.map .int))] R) [.dat (.frz (ns.map .int)), .own .pool, .dat (.int b.length), .dat (.str b), .own (.lst (ask.map fun (p : Nat) => Dt.int p)), .no, .no, .no, .no, .no, .no, .no, .no] := by
  unfold t_law7
  walk_at "cl"
  refine lcm (f := fun ch => Dt.str [ch]) (fun ch => .int (cl ch : Nat)) (by omega) (fun ch hch Y hY => ?_) ?_
  · walk_at "cl"
    refine cl_ok (gb ch hch) ?_
    walk_at "cl"
    exact hY
  walk_at "cl"
  refine tb_ok (by omega) ?_
  walk_at "cl"
  refine ⟨rfl, ?_⟩
  walk_at "cl"
  unfold t_law6
  walk_at "cl"
  refine ⟨rfl, ?_⟩
  walk_at "cl"
  refine for_map (f := Dt.str) (fun k => Out ns b ask) ⟨_, _, _, _, _, _, _, .inl rfl, .inl rfl, .inl rfl, rfl⟩ ?_ ?_
  · rintro k w c' hw ⟨s4, s5, s6, s7, s8, s9, s10, h4, h5, h6, rfl⟩
    obtain ⟨hk, rfl⟩ := wds_at hw
    unfold l_law3
    simp only [c_gN, List.set_cons_succ, List.set_cons_zero]
    rcases h4 with rfl | rfl
    · walk_at "cl"
      exact lw1 hk gb hl hask h5 h6
    · walk_at "cl"
      exact lw1 hk gb hl hask h5 h6
  · rintro c' h
    exact lw5 hR gb hl hask ha1 ha2 h
theorem red_law : ∀ as R, as.length = P_law.length → F_law as R → b_law (fnEnds as R) (c0 as N_law.length) := by
  rintro as R - ⟨ns, rfl, hl, hR⟩
  unfold b_law
  walk_at "cl"
  refine ⟨ns, rfl, by omega, ?_⟩
  walk_at "cl"
  refine take_ok (by omega) (by omega) fun a a0 a1 => ?_
  walk_at "cl"
  refine take_ok (by omega) (by omega) fun c c0 c1 => ?_
  walk_at "cl"
  have A : ∀ n : Int, 0 ≤ n → n ≤ 80 → t_law10 (fnEnds [.dat (.frz (ns.map .int))] R) [.dat (.frz (ns.map .int)), .own .pool, .dat (.int n), .no, .no, .no, .no, .no, .no, .no, .no, .no, .no] := by
    intro n n0 n1
    unfold t_law10
    walk_at "cl"
    refine lt_ok (by omega) (by omega) fun b gb lb => ?_
    walk_at "cl"
    have B : ∀ b : List Nat, Gp b → b.length ≤ 1000 → t_law9 (fnEnds [.dat (.frz (ns.map .int))] R) [.dat (.frz (ns.map .int)), .own .pool, .dat (.int n), .dat (.str b), .no, .no, .no, .no, .no, .no, .no, .no, .no] := by
      intro b gb lb
      unfold t_law9
      walk_at "cl"
      refine take_ok (by omega) (by omega) fun d d0 d1 => ?_
      walk_at "cl"
      have C : ∀ b : List Nat, Gp b → b.length ≤ 1000 → t_law8 (fnEnds [.dat (.frz (ns.map .int))] R) [.dat (.frz (ns.map .int)), .own .pool, .dat (.int n), .dat (.str b), .no, .no, .no, .no, .no, .no, .no, .no, .no] := by
        intro b gb lb
        unfold t_law8
        walk_at "cl"
        rw [show ((b.length : Int) + 1).toNat = b.length + 1 by omega, rng_nat (b.length + 1)]
        refine ⟨by omega, by omega, fun h => ?_, fun h => lw7 hR gb lb (fun p hp => by have := List.mem_range.mp hp; omega) (by rw [List.length_range]; omega) (by rw [List.length_range]; omega)⟩
        refine lcr (β := Nat) (fun r => r ≤ b.length) (fun r => .int r) (by rw [rngD_length]; omega) (fun d hd Y hY => ?_) fun ys y1 y2 => ?_
        · walk_at "cl"
          refine take_ok (by omega) (by omega) fun x x0 x1 => ?_
          walk_at "cl"
          have := hY x.toNat (by omega)
          rwa [show ((x.toNat : Nat) : Int) = x by omega] at this
        walk_at "cl"
        have y3 : ys.length = 12 := y1
        refine ⟨by rw [List.length_map]; omega, lw7 (ask := 0 :: b.length :: ys) hR gb lb (fun p hp => ?_) (by simp) (by simp; omega)⟩
        rcases List.mem_cons.mp hp with z | hp
        · omega
        · rcases List.mem_cons.mp hp with z | hp
          · omega
          · exact y2 p hp
      refine ⟨fun _ => ?_, fun _ => C b gb lb⟩
      refine ⟨rfl, fun b2 g2 l2 => ?_⟩
      walk_at "cl"
      exact C b2 g2 l2
    refine ⟨fun h => ?_, fun h => B b gb (by omega)⟩
    refine take_ok (by omega) (by omega) fun x x0 x1 => ?_
    walk_at "cl"
    refine ⟨fun _ => ?_, fun _ => B b gb (by omega)⟩
    obtain ⟨c1, c2⟩ := cut_in b none (some (n / 2))
    obtain ⟨c3, c4⟩ := cut_in b (some (n / 2 + 1)) none
    generalize cut b none (some (n / 2)) = u at *
    generalize cut b (some (n / 2 + 1)) none = v at *
    rw [replW_one, replW_one]
    obtain ⟨r1, r2⟩ := replL_gp (ch := 10) (z := 97) (by decide) (t := u) (gb.sub c1)
    obtain ⟨r3, r4⟩ := replL_gp (ch := 10) (z := 32) (by decide) (t := v) (gb.sub c3)
    refine ⟨by omega, by omega, by omega, by omega, by omega, by rw [List.length_append, List.length_singleton]; omega, B _ ((r1.app ?_).app r3) ?_⟩
    · unfold Gp
      decide +kernel
    · rw [List.length_append, List.length_append, List.length_singleton]
      omega
  refine ⟨fun _ => ?_, fun _ => A a (by omega) (by omega)⟩
  refine take_ok (by omega) (by omega) fun d d0 d1 => ?_
  walk_at "cl"
  exact A (30 + d) (by omega) (by omega)


end K48
namespace K48
open PySem PySem.Spec PyProof.Rows L2 Cl
theorem law_ok (ns : List Int) (h : ns.length ≤ 63) (R : Res → List AArg → Prop) (hR : ∀ as, R (.dat (.bl true)) as) : F_law [.dat (.frz (ns.map .int))] R := ⟨ns, rfl, h, hR _⟩
def d_kind_of : He.DefD := ⟨("kind_of", none), "kind_of", "kind_of", defArgs s_kind_of, defBody s_kind_of, defScope s_kind_of, [], []⟩
def d_spot_of : He.DefD := ⟨("spot_of", none), "spot_of", "spot_of", defArgs s_spot_of, defBody s_spot_of, defScope s_spot_of, [], []⟩
def d_row_bounds : He.DefD := ⟨("row_bounds", none), "row_bounds", "row_bounds", defArgs s_row_bounds, defBody s_row_bounds, defScope s_row_bounds, [], []⟩
def d_place_of : He.DefD := ⟨("place_of", none), "place_of", "place_of", defArgs s_place_of, defBody s_place_of, defScope s_place_of, [], []⟩
def d_to_left : He.DefD := ⟨("_to_left", none), "_to_left", "_to_left", defArgs s_to_left, defBody s_to_left, defScope s_to_left, [], []⟩
def d_to_right : He.DefD := ⟨("_to_right", none), "_to_right", "_to_right", defArgs s_to_right, defBody s_to_right, defScope s_to_right, [], []⟩
def d_to_line_above : He.DefD := ⟨("_to_line_above", none), "_to_line_above", "_to_line_above", defArgs s_to_line_above, defBody s_to_line_above, defScope s_to_line_above, [], []⟩
def d_to_line_below : He.DefD := ⟨("_to_line_below", none), "_to_line_below", "_to_line_below", defArgs s_to_line_below, defBody s_to_line_below, defScope s_to_line_below, [], []⟩
def d_to_row_home : He.DefD := ⟨("_to_row_home", none), "_to_row_home", "_to_row_home", defArgs s_to_row_home, defBody s_to_row_home, defScope s_to_row_home, [], []⟩
def d_to_row_end : He.DefD := ⟨("_to_row_end", none), "_to_row_end", "_to_row_end", defArgs s_to_row_end, defBody s_to_row_end, defScope s_to_row_end, [], []⟩
def d_to_text_start : He.DefD := ⟨("_to_text_start", none), "_to_text_start", "_to_text_start", defArgs s_to_text_start, defBody s_to_text_start, defScope s_to_text_start, [], []⟩
def d_to_text_finish : He.DefD := ⟨("_to_text_finish", none), "_to_text_finish", "_to_text_finish", defArgs s_to_text_finish, defBody s_to_text_finish, defScope s_to_text_finish, [], []⟩
def d_run_kind : He.DefD := ⟨("_run_kind", none), "_run_kind", "_run_kind", defArgs s_run_kind, defBody s_run_kind, defScope s_run_kind, [], []⟩
def d_on_over : He.DefD := ⟨("_on_over", none), "_on_over", "_on_over", defArgs s_on_over, defBody s_on_over, defScope s_on_over, [], []⟩
def d_back_over : He.DefD := ⟨("_back_over", none), "_back_over", "_back_over", defArgs s_back_over, defBody s_back_over, defScope s_back_over, [], []⟩
def d_to_next_word : He.DefD := ⟨("_to_next_word", none), "_to_next_word", "_to_next_word", defArgs s_to_next_word, defBody s_to_next_word, defScope s_to_next_word, [], []⟩
def d_to_word_before : He.DefD := ⟨("_to_word_before", none), "_to_word_before", "_to_word_before", defArgs s_to_word_before, defBody s_to_word_before, defScope s_to_word_before, [], []⟩
def d_moved : He.DefD := ⟨("moved", none), "moved", "moved", defArgs s_moved, defBody s_moved, defScope s_moved, [], []⟩
def d_law_draws : He.DefD := ⟨("_law_draws", none), "_law_draws", "_law_draws", defArgs s_law_draws, defBody s_law_draws, defScope s_law_draws, [], []⟩
def d_law_take : He.DefD := ⟨("_law_take", none), "_law_take", "_law_take", defArgs s_law_take, defBody s_law_take, defScope s_law_take, [], []⟩
def d_law_classes : He.DefD := ⟨("_law_classes", none), "_law_classes", "_law_classes", defArgs s_law_classes, defBody s_law_classes, defScope s_law_classes, [], []⟩
def d_law_text : He.DefD := ⟨("_law_text", none), "_law_text", "_law_text", defArgs s_law_text, defBody s_law_text, defScope s_law_text, [], []⟩
def d_law_runs : He.DefD := ⟨("_law_runs", none), "_law_runs", "_law_runs", defArgs s_law_runs, defBody s_law_runs, defScope s_law_runs, [], []⟩
def d_law_class : He.DefD := ⟨("_law_class", none), "_law_class", "_law_class", defArgs s_law_class, defBody s_law_class, defScope s_law_class, [], []⟩
def d_law_table : He.DefD := ⟨("_law_table", none), "_law_table", "_law_table", defArgs s_law_table, defBody s_law_table, defScope s_law_table, [], []⟩
def d_law_nearest : He.DefD := ⟨("_law_nearest", none), "_law_nearest", "_law_nearest", defArgs s_law_nearest, defBody s_law_nearest, defScope s_law_nearest, [], []⟩
def d_law_on : He.DefD := ⟨("_law_on", none), "_law_on", "_law_on", defArgs s_law_on, defBody s_law_on, defScope s_law_on, [], []⟩
def d_law_back : He.DefD := ⟨("_law_back", none), "_law_back", "_law_back", defArgs s_law_back, defBody s_law_back, defScope s_law_back, [], []⟩
def d_law_due : He.DefD := ⟨("_law_due", none), "_law_due", "_law_due", defArgs s_law_due, defBody s_law_due, defScope s_law_due, [], []⟩
def d_law_number : He.DefD := ⟨("_law_number", none), "_law_number", "_law_number", defArgs s_law_number, defBody s_law_number, defScope s_law_number, [], []⟩
def d_law_refused : He.DefD := ⟨("_law_refused", none), "_law_refused", "_law_refused", defArgs s_law_refused, defBody s_law_refused, defScope s_law_refused, [], []⟩
def d_law_words : He.DefD := ⟨("_law_words", none), "_law_words", "_law_words", defArgs s_law_words, defBody s_law_words, defScope s_law_words, [], []⟩
def d_law_words_told : He.DefD := ⟨("_law_words_told", none), "_law_words_told", "_law_words_told", defArgs s_law_words_told, defBody s_law_words_told, defScope s_law_words_told, [], []⟩
def d_law_far : He.DefD := ⟨("_law_far", none), "_law_far", "_law_far", defArgs s_law_far, defBody s_law_far, defScope s_law_far, [], []⟩
def d_law : He.DefD := ⟨("law", none), "law", "law", defArgs s_law, defBody s_law, defScope s_law, [], []⟩
def d_init_BadPlace : He.DefD := ⟨("BadPlace", some "__init__"), "__init__", "BadPlace.__init__", defArgs s_init_BadPlace, defBody s_init_BadPlace, defScope s_init_BadPlace, [], []⟩
def fn : List He.DefD := [d_kind_of, d_spot_of, d_row_bounds, d_place_of, d_to_left, d_to_right, d_to_line_above, d_to_line_below, d_to_row_home, d_to_row_end, d_to_text_start, d_to_text_finish, d_run_kind, d_on_over, d_back_over, d_to_next_word, d_to_word_before, d_moved, d_law_draws, d_law_take, d_law_classes, d_law_text, d_law_runs, d_law_class, d_law_table, d_law_nearest, d_law_on, d_law_back, d_law_due, d_law_number, d_law_refused, d_law_words, d_law_words_told, d_law_far, d_law, d_init_BadPlace]
def fa : List He.Fa := [.glo "kind_of", .glo "spot_of", .glo "row_bounds", .glo "place_of", .glo "_to_left", .glo "_to_right", .glo "_to_line_above", .glo "_to_line_below", .glo "_to_row_home", .glo "_to_row_end", .glo "_to_text_start", .glo "_to_text_finish", .glo "_run_kind", .glo "_on_over", .glo "_back_over", .glo "_to_next_word", .glo "_to_word_before", .glo "moved", .glo "_law_draws", .glo "_law_take", .glo "_law_classes", .glo "_law_text", .glo "_law_runs", .glo "_law_class", .glo "_law_table", .glo "_law_nearest", .glo "_law_on", .glo "_law_back", .glo "_law_due", .glo "_law_number", .glo "_law_refused", .glo "_law_words", .glo "_law_words_told", .glo "_law_far", .glo "law", .free "abs", .free "bool", .free "int", .free "isinstance", .free "len", .free "list", .free "max", .free "min", .free "range", .free "str", .free "tuple", .str "DIGITS" (S c_DIGITS), .str "GREAT_LETTERS" (S c_GREAT_LETTERS), .str "SMALL_LETTERS" (S c_SMALL_LETTERS), .glo "BadPlace", .glo "DeskError", .glo "WORDS", .glo "_MOTIONS", .exm "BadPlace" "BadPlace" true]
def exB (K : PySem.W.Frag) : Bool := exc1B "BadPlace" "at" K && (isEB "BadPlace" "DeskError" true K && (gtupB "WORDS" c_WORDS K && (He.eqO (PySem.W.nsIn K (He.ga K "_MOTIONS") (S [108, 101, 102, 116])) (some (some (.ref (He.ga K "_to_left")))) && (He.eqO (PySem.W.nsIn K (He.ga K "_MOTIONS") (S [114, 105, 103, 104, 116])) (some (some (.ref (He.ga K "_to_right")))) && (He.eqO (PySem.W.nsIn K (He.ga K "_MOTIONS") (S [117, 112])) (some (some (.ref (He.ga K "_to_line_above")))) && (He.eqO (PySem.W.nsIn K (He.ga K "_MOTIONS") (S [100, 111, 119, 110])) (some (some (.ref (He.ga K "_to_line_below")))) && (He.eqO (PySem.W.nsIn K (He.ga K "_MOTIONS") (S [104, 111, 109, 101])) (some (some (.ref (He.ga K "_to_row_home")))) && (He.eqO (PySem.W.nsIn K (He.ga K "_MOTIONS") (S [101, 110, 100])) (some (some (.ref (He.ga K "_to_row_end")))) && (He.eqO (PySem.W.nsIn K (He.ga K "_MOTIONS") (S [115, 116, 97, 114, 116])) (some (some (.ref (He.ga K "_to_text_start")))) && (He.eqO (PySem.W.nsIn K (He.ga K "_MOTIONS") (S [102, 105, 110, 105, 115, 104])) (some (some (.ref (He.ga K "_to_text_finish")))) && (He.eqO (PySem.W.nsIn K (He.ga K "_MOTIONS") (S [119, 111, 114, 100])) (some (some (.ref (He.ga K "_to_next_word")))) && (He.eqO (PySem.W.nsIn K (He.ga K "_MOTIONS") (S [119, 111, 114, 100, 98, 97, 99, 107])) (some (some (.ref (He.ga K "_to_word_before"))))))))))))))))
def ts : List He.Tab := [(fun K => He.ga K "_MOTIONS", ["left", "right", "up", "down", "home", "end", "start", "finish", "word", "wordback"])]
abbrev RR : PySem.W.OpenRow := PySem.W.OpenLaw.row PySem.Challenge.rw_deedstand_k48_motions_lead_by_spots
abbrev hk : PySem.W.Hook := He.hookX 5 fa fn ts [] exB
def ob (s : PySem.W.SharedT) : He.AlX := He.obsX 5 fa fn ts [] exB (HandSHeadRun.getT s)
theorem ob_eq (s : PySem.W.SharedT) : ob s = hk.obs s.abs := He.obsX_eq (HandSHeadRun.getT_eq s)
def fixW (b : Bool) (w : World) : World := { w with params := { w.params with followText := fun s => if s = "special-get-raises" then b else w.params.followText s } }
theorem fixW_eq (w : World) : fixW (w.params.followText "special-get-raises") w = w := by
  have e : (fun s => if s = "special-get-raises" then w.params.followText "special-get-raises" else w.params.followText s) = w.params.followText := by
    funext s
    by_cases h : s = "special-get-raises"
    · rw [if_pos h, h]
    · rw [if_neg h]
  unfold fixW
  rw [e]
set_option maxHeartbeats 0 in
theorem run2 (b : Bool) (w : World) : HandSHeadRun.RunEq RR (PySem.W.view RR.prog [46]) hk ob 3000 [("DeskError" : PySem.Str), ("BadPlace" : PySem.Str), ("DIGITS" : PySem.Str), ("SMALL_LETTERS" : PySem.Str), ("GREAT_LETTERS" : PySem.Str), ("kind_of" : PySem.Str), ("spot_of" : PySem.Str), ("row_bounds" : PySem.Str), ("place_of" : PySem.Str), ("WORDS" : PySem.Str), ("_to_left" : PySem.Str), ("_to_right" : PySem.Str), ("_to_line_above" : PySem.Str), ("_to_line_below" : PySem.Str), ("_to_row_home" : PySem.Str), ("_to_row_end" : PySem.Str), ("_to_text_start" : PySem.Str), ("_to_text_finish" : PySem.Str), ("_run_kind" : PySem.Str), ("_on_over" : PySem.Str), ("_back_over" : PySem.Str), ("_to_next_word" : PySem.Str), ("_to_word_before" : PySem.Str), ("_MOTIONS" : PySem.Str), ("moved" : PySem.Str), ("_law_draws" : PySem.Str), ("_law_take" : PySem.Str), ("_law_classes" : PySem.Str), ("_law_text" : PySem.Str), ("_law_runs" : PySem.Str), ("_law_class" : PySem.Str), ("_law_table" : PySem.Str), ("_law_nearest" : PySem.Str), ("_law_on" : PySem.Str), ("_law_back" : PySem.Str), ("_law_due" : PySem.Str), ("_law_number" : PySem.Str), ("_law_refused" : PySem.Str), ("_law_words" : PySem.Str), ("_law_words_told" : PySem.Str), ("_law_far" : PySem.Str)] (fixW b w) := by
  cases b
  · intro os
    kernel_rfl
  · intro os
    kernel_rfl
theorem run (w : World) : HandSHeadRun.RunEq RR (PySem.W.view RR.prog [46]) hk ob 3000 [("DeskError" : PySem.Str), ("BadPlace" : PySem.Str), ("DIGITS" : PySem.Str), ("SMALL_LETTERS" : PySem.Str), ("GREAT_LETTERS" : PySem.Str), ("kind_of" : PySem.Str), ("spot_of" : PySem.Str), ("row_bounds" : PySem.Str), ("place_of" : PySem.Str), ("WORDS" : PySem.Str), ("_to_left" : PySem.Str), ("_to_right" : PySem.Str), ("_to_line_above" : PySem.Str), ("_to_line_below" : PySem.Str), ("_to_row_home" : PySem.Str), ("_to_row_end" : PySem.Str), ("_to_text_start" : PySem.Str), ("_to_text_finish" : PySem.Str), ("_run_kind" : PySem.Str), ("_on_over" : PySem.Str), ("_back_over" : PySem.Str), ("_to_next_word" : PySem.Str), ("_to_word_before" : PySem.Str), ("_MOTIONS" : PySem.Str), ("moved" : PySem.Str), ("_law_draws" : PySem.Str), ("_law_take" : PySem.Str), ("_law_classes" : PySem.Str), ("_law_text" : PySem.Str), ("_law_runs" : PySem.Str), ("_law_class" : PySem.Str), ("_law_table" : PySem.Str), ("_law_nearest" : PySem.Str), ("_law_on" : PySem.Str), ("_law_back" : PySem.Str), ("_law_due" : PySem.Str), ("_law_number" : PySem.Str), ("_law_refused" : PySem.Str), ("_law_words" : PySem.Str), ("_law_words_told" : PySem.Str), ("_law_far" : PySem.Str)] w := by
  have h := run2 (w.params.followText "special-get-raises") w
  rw [fixW_eq] at h
  exact h
theorem facts {P : Program} {w : World} {K : PySem.W.Frag} {h : Heap} {mg : Str → Option Value} {f : Addr} (X : K.In h) (G : h.Ns mainGlobals mg) (hfa : mg ("law" : Str) = some (.ref f)) (c : He.SaysD fa fn K) (cx : exB K = true) (ct : He.SaysT fa fn ts w K) :
    ∃ fd : FuncData, (∀ (s : Shared) (v : Value), BindsTo s fd ⟨[v], []⟩ [("script", v)]) ∧ ∀ base : Heap, K.In base → base.Ns mainGlobals mg → FnOk P w K mg base CX0 7 f fd ["script"] (spC K flowPL 1 F_law) := by
  obtain ⟨fd_kind_of, F_kind_of_⟩ := c.def_ 0 (d := d_kind_of) rfl
  have m_kind_of := He.glo_ok X G (c.fact 0 (f := .glo "kind_of") rfl)
  obtain ⟨fd_spot_of, F_spot_of_⟩ := c.def_ 1 (d := d_spot_of) rfl
  have m_spot_of := He.glo_ok X G (c.fact 1 (f := .glo "spot_of") rfl)
  obtain ⟨fd_row_bounds, F_row_bounds_⟩ := c.def_ 2 (d := d_row_bounds) rfl
  have m_row_bounds := He.glo_ok X G (c.fact 2 (f := .glo "row_bounds") rfl)
  obtain ⟨fd_place_of, F_place_of_⟩ := c.def_ 3 (d := d_place_of) rfl
  have m_place_of := He.glo_ok X G (c.fact 3 (f := .glo "place_of") rfl)
  obtain ⟨fd_to_left, F_to_left_⟩ := c.def_ 4 (d := d_to_left) rfl
  have m_to_left := He.glo_ok X G (c.fact 4 (f := .glo "_to_left") rfl)
  obtain ⟨fd_to_right, F_to_right_⟩ := c.def_ 5 (d := d_to_right) rfl
  have m_to_right := He.glo_ok X G (c.fact 5 (f := .glo "_to_right") rfl)
  obtain ⟨fd_to_line_above, F_to_line_above_⟩ := c.def_ 6 (d := d_to_line_above) rfl
  have m_to_line_above := He.glo_ok X G (c.fact 6 (f := .glo "_to_line_above") rfl)
  obtain ⟨fd_to_line_below, F_to_line_below_⟩ := c.def_ 7 (d := d_to_line_below) rfl
  have m_to_line_below := He.glo_ok X G (c.fact 7 (f := .glo "_to_line_below") rfl)
  obtain ⟨fd_to_row_home, F_to_row_home_⟩ := c.def_ 8 (d := d_to_row_home) rfl
  have m_to_row_home := He.glo_ok X G (c.fact 8 (f := .glo "_to_row_home") rfl)
  obtain ⟨fd_to_row_end, F_to_row_end_⟩ := c.def_ 9 (d := d_to_row_end) rfl
  have m_to_row_end := He.glo_ok X G (c.fact 9 (f := .glo "_to_row_end") rfl)
  obtain ⟨fd_to_text_start, F_to_text_start_⟩ := c.def_ 10 (d := d_to_text_start) rfl
  have m_to_text_start := He.glo_ok X G (c.fact 10 (f := .glo "_to_text_start") rfl)
  obtain ⟨fd_to_text_finish, F_to_text_finish_⟩ := c.def_ 11 (d := d_to_text_finish) rfl
  have m_to_text_finish := He.glo_ok X G (c.fact 11 (f := .glo "_to_text_finish") rfl)
  obtain ⟨fd_run_kind, F_run_kind_⟩ := c.def_ 12 (d := d_run_kind) rfl
  have m_run_kind := He.glo_ok X G (c.fact 12 (f := .glo "_run_kind") rfl)
  obtain ⟨fd_on_over, F_on_over_⟩ := c.def_ 13 (d := d_on_over) rfl
  have m_on_over := He.glo_ok X G (c.fact 13 (f := .glo "_on_over") rfl)
  obtain ⟨fd_back_over, F_back_over_⟩ := c.def_ 14 (d := d_back_over) rfl
  have m_back_over := He.glo_ok X G (c.fact 14 (f := .glo "_back_over") rfl)
  obtain ⟨fd_to_next_word, F_to_next_word_⟩ := c.def_ 15 (d := d_to_next_word) rfl
  have m_to_next_word := He.glo_ok X G (c.fact 15 (f := .glo "_to_next_word") rfl)
  obtain ⟨fd_to_word_before, F_to_word_before_⟩ := c.def_ 16 (d := d_to_word_before) rfl
  have m_to_word_before := He.glo_ok X G (c.fact 16 (f := .glo "_to_word_before") rfl)
  obtain ⟨fd_moved, F_moved_⟩ := c.def_ 17 (d := d_moved) rfl
  have m_moved := He.glo_ok X G (c.fact 17 (f := .glo "moved") rfl)
  obtain ⟨fd_law_draws, F_law_draws_⟩ := c.def_ 18 (d := d_law_draws) rfl
  have m_law_draws := He.glo_ok X G (c.fact 18 (f := .glo "_law_draws") rfl)
  obtain ⟨fd_law_take, F_law_take_⟩ := c.def_ 19 (d := d_law_take) rfl
  have m_law_take := He.glo_ok X G (c.fact 19 (f := .glo "_law_take") rfl)
  obtain ⟨fd_law_classes, F_law_classes_⟩ := c.def_ 20 (d := d_law_classes) rfl
  have m_law_classes := He.glo_ok X G (c.fact 20 (f := .glo "_law_classes") rfl)
  obtain ⟨fd_law_text, F_law_text_⟩ := c.def_ 21 (d := d_law_text) rfl
  have m_law_text := He.glo_ok X G (c.fact 21 (f := .glo "_law_text") rfl)
  obtain ⟨fd_law_runs, F_law_runs_⟩ := c.def_ 22 (d := d_law_runs) rfl
  have m_law_runs := He.glo_ok X G (c.fact 22 (f := .glo "_law_runs") rfl)
  obtain ⟨fd_law_class, F_law_class_⟩ := c.def_ 23 (d := d_law_class) rfl
  have m_law_class := He.glo_ok X G (c.fact 23 (f := .glo "_law_class") rfl)
  obtain ⟨fd_law_table, F_law_table_⟩ := c.def_ 24 (d := d_law_table) rfl
  have m_law_table := He.glo_ok X G (c.fact 24 (f := .glo "_law_table") rfl)
  obtain ⟨fd_law_nearest, F_law_nearest_⟩ := c.def_ 25 (d := d_law_nearest) rfl
  have m_law_nearest := He.glo_ok X G (c.fact 25 (f := .glo "_law_nearest") rfl)
  obtain ⟨fd_law_on, F_law_on_⟩ := c.def_ 26 (d := d_law_on) rfl
  have m_law_on := He.glo_ok X G (c.fact 26 (f := .glo "_law_on") rfl)
  obtain ⟨fd_law_back, F_law_back_⟩ := c.def_ 27 (d := d_law_back) rfl
  have m_law_back := He.glo_ok X G (c.fact 27 (f := .glo "_law_back") rfl)
  obtain ⟨fd_law_due, F_law_due_⟩ := c.def_ 28 (d := d_law_due) rfl
  have m_law_due := He.glo_ok X G (c.fact 28 (f := .glo "_law_due") rfl)
  obtain ⟨fd_law_number, F_law_number_⟩ := c.def_ 29 (d := d_law_number) rfl
  have m_law_number := He.glo_ok X G (c.fact 29 (f := .glo "_law_number") rfl)
  obtain ⟨fd_law_refused, F_law_refused_⟩ := c.def_ 30 (d := d_law_refused) rfl
  have m_law_refused := He.glo_ok X G (c.fact 30 (f := .glo "_law_refused") rfl)
  obtain ⟨fd_law_words, F_law_words_⟩ := c.def_ 31 (d := d_law_words) rfl
  have m_law_words := He.glo_ok X G (c.fact 31 (f := .glo "_law_words") rfl)
  obtain ⟨fd_law_words_told, F_law_words_told_⟩ := c.def_ 32 (d := d_law_words_told) rfl
  have m_law_words_told := He.glo_ok X G (c.fact 32 (f := .glo "_law_words_told") rfl)
  obtain ⟨fd_law_far, F_law_far_⟩ := c.def_ 33 (d := d_law_far) rfl
  have m_law_far := He.glo_ok X G (c.fact 33 (f := .glo "_law_far") rfl)
  obtain ⟨fd_law, F_law_⟩ := c.def_ 34 (d := d_law) rfl
  have m_law := He.glo_ok X G (c.fact 34 (f := .glo "law") rfl)
  have z_abs : mg "abs" = none := He.free_ok X G (c.fact 35 (f := .free "abs") rfl)
  have z_bool : mg "bool" = none := He.free_ok X G (c.fact 36 (f := .free "bool") rfl)
  have z_int : mg "int" = none := He.free_ok X G (c.fact 37 (f := .free "int") rfl)
  have z_isinstance : mg "isinstance" = none := He.free_ok X G (c.fact 38 (f := .free "isinstance") rfl)
  have z_len : mg "len" = none := He.free_ok X G (c.fact 39 (f := .free "len") rfl)
  have z_list : mg "list" = none := He.free_ok X G (c.fact 40 (f := .free "list") rfl)
  have z_max : mg "max" = none := He.free_ok X G (c.fact 41 (f := .free "max") rfl)
  have z_min : mg "min" = none := He.free_ok X G (c.fact 42 (f := .free "min") rfl)
  have z_range : mg "range" = none := He.free_ok X G (c.fact 43 (f := .free "range") rfl)
  have z_str : mg "str" = none := He.free_ok X G (c.fact 44 (f := .free "str") rfl)
  have z_tuple : mg "tuple" = none := He.free_ok X G (c.fact 45 (f := .free "tuple") rfl)
  obtain ⟨t_DIGITS, g_DIGITS⟩ := He.str_ok X G (c.fact 46 (f := .str "DIGITS" (S c_DIGITS)) rfl)
  obtain ⟨t_GREAT_LETTERS, g_GREAT_LETTERS⟩ := He.str_ok X G (c.fact 47 (f := .str "GREAT_LETTERS" (S c_GREAT_LETTERS)) rfl)
  obtain ⟨t_SMALL_LETTERS, g_SMALL_LETTERS⟩ := He.str_ok X G (c.fact 48 (f := .str "SMALL_LETTERS" (S c_SMALL_LETTERS)) rfl)
  obtain ⟨fd_init_BadPlace, F_init_BadPlace_⟩ := c.def_ 35 (d := d_init_BadPlace) rfl
  have m_BadPlace := He.glo_ok X G (c.fact 49 (f := .glo "BadPlace") rfl)
  have m_DeskError := He.glo_ok X G (c.fact 50 (f := .glo "DeskError") rfl)
  have m_WORDS := He.glo_ok X G (c.fact 51 (f := .glo "WORDS") rfl)
  have m__MOTIONS := He.glo_ok X G (c.fact 52 (f := .glo "_MOTIONS") rfl)
  unfold exB at cx
  simp only [Bool.and_eq_true] at cx
  have E_BadPlace : Exc1 "BadPlace" "at" K := exc1_ok cx.1
  have e_ie_BadPlace_DeskError : IsE K "BadPlace" "DeskError" true := isEB_ok cx.2.1
  have r_WORDS : ∀ B, Rep K B (.tup (c_WORDS.map Dt.str)) (.ref (He.ga K "WORDS")) := gtupB_ok cx.2.2.1
  have v_MOTIONS_0 : PySem.W.nsIn K (He.ga K "_MOTIONS") (S [108, 101, 102, 116]) = some (some (.ref (He.ga K "_to_left"))) := He.eqO_ok cx.2.2.2.1
  have v_MOTIONS_1 : PySem.W.nsIn K (He.ga K "_MOTIONS") (S [114, 105, 103, 104, 116]) = some (some (.ref (He.ga K "_to_right"))) := He.eqO_ok cx.2.2.2.2.1
  have v_MOTIONS_2 : PySem.W.nsIn K (He.ga K "_MOTIONS") (S [117, 112]) = some (some (.ref (He.ga K "_to_line_above"))) := He.eqO_ok cx.2.2.2.2.2.1
  have v_MOTIONS_3 : PySem.W.nsIn K (He.ga K "_MOTIONS") (S [100, 111, 119, 110]) = some (some (.ref (He.ga K "_to_line_below"))) := He.eqO_ok cx.2.2.2.2.2.2.1
  have v_MOTIONS_4 : PySem.W.nsIn K (He.ga K "_MOTIONS") (S [104, 111, 109, 101]) = some (some (.ref (He.ga K "_to_row_home"))) := He.eqO_ok cx.2.2.2.2.2.2.2.1
  have v_MOTIONS_5 : PySem.W.nsIn K (He.ga K "_MOTIONS") (S [101, 110, 100]) = some (some (.ref (He.ga K "_to_row_end"))) := He.eqO_ok cx.2.2.2.2.2.2.2.2.1
  have v_MOTIONS_6 : PySem.W.nsIn K (He.ga K "_MOTIONS") (S [115, 116, 97, 114, 116]) = some (some (.ref (He.ga K "_to_text_start"))) := He.eqO_ok cx.2.2.2.2.2.2.2.2.2.1
  have v_MOTIONS_7 : PySem.W.nsIn K (He.ga K "_MOTIONS") (S [102, 105, 110, 105, 115, 104]) = some (some (.ref (He.ga K "_to_text_finish"))) := He.eqO_ok cx.2.2.2.2.2.2.2.2.2.2.1
  have v_MOTIONS_8 : PySem.W.nsIn K (He.ga K "_MOTIONS") (S [119, 111, 114, 100]) = some (some (.ref (He.ga K "_to_next_word"))) := He.eqO_ok cx.2.2.2.2.2.2.2.2.2.2.2.1
  have v_MOTIONS_9 : PySem.W.nsIn K (He.ga K "_MOTIONS") (S [119, 111, 114, 100, 98, 97, 99, 107]) = some (some (.ref (He.ga K "_to_word_before"))) := He.eqO_ok cx.2.2.2.2.2.2.2.2.2.2.2.2
  have g_WORDS : mg "WORDS" = some (.ref (He.ga K "WORDS")) := m_WORDS
  have g_MOTIONS : mg "_MOTIONS" = some (.ref (He.ga K "_MOTIONS")) := m__MOTIONS
  have ie_BadPlace_DeskError : ∀ y ∈ (["BadPlace"] : List Str), IsE K y "DeskError" true := by
    intro y hy
    simp only [List.mem_cons, List.not_mem_nil, or_false] at hy
    rcases hy with rfl
    · exact e_ie_BadPlace_DeskError
  have xm_BadPlace : ∀ y ∈ (["BadPlace"] : List Str), PySem.W.exmOne K (.ref (He.ga K y)) (.ref (He.ga K "BadPlace")) = some true := by
    intro y hy
    simp only [List.mem_cons, List.not_mem_nil, or_false] at hy
    rcases hy with rfl
    · exact He.exm_ok (c.fact 53 (f := .exm "BadPlace" "BadPlace" true) rfl)
  have hf_BadPlace_at : ∀ y ∈ (["BadPlace"] : List Str), XfC K (He.ga K y) ∧ PySem.W.findIn K (.ref (He.ga K y)) "at" = some none := by
    intro y hy
    simp only [List.mem_cons, List.not_mem_nil, or_false] at hy
    rcases hy with rfl
    · exact ⟨E_BadPlace.xf, E_BadPlace.no⟩
  have e := hfa.symm.trans m_law
  cases e
  have b := FunD.bindsA (ps := ["script"]) F_law_ fun _ _ _ _ _ _ us hl => match us, hl with | [_], _ => rfl
  refine ⟨fd_law, fun s v => b s [v] rfl, fun base _ _ => ?_⟩
  have I_BadPlace : IniX P w K mg base 1 "BadPlace" "at" := inix (q_init_BadPlace F_init_BadPlace_) rfl (binds0 (bi_init_BadPlace F_init_BadPlace_)) E_BadPlace m_BadPlace
  have D_law_draws : Def P w K mg base flowPL CX0 1 "_law_draws" s_law_draws [] [] P_law_draws F_law_draws := ⟨_, _, raw_law_draws F_law_draws_ z_abs z_int, m_law_draws, F_law_draws_.kp, F_law_draws_⟩
  have D_law_take : Def P w K mg base flowPL CX0 1 "_law_take" s_law_take [] [] P_law_take F_law_take := ⟨_, _, raw_law_take F_law_take_ z_len z_int, m_law_take, F_law_take_.kp, F_law_take_⟩
  have D_law_classes : Def P w K mg base flowPL CX0 1 "_law_classes" s_law_classes [] [] P_law_classes F_law_classes := ⟨_, _, fnC F_law_classes_ sc_law_classes (fun _ _ _ _ _ _ hr => q_law_classes  hr) red_law_classes, m_law_classes, F_law_classes_.kp, F_law_classes_⟩
  have D_law_text : Def P w K mg base flowPL CX0 2 "_law_text" s_law_text [] [] P_law_text F_law_text := ⟨_, _, fnC F_law_text_ sc_law_text (fun _ _ _ _ _ _ hr => q_law_text D_law_classes D_law_take z_len z_range hr) red_law_text, m_law_text, F_law_text_.kp, F_law_text_⟩
  have D_law_table : Def P w K mg base flowPL CX0 1 "_law_table" s_law_table [] [] P_law_table F_law_table := ⟨_, _, fnC F_law_table_ sc_law_table (fun _ _ _ _ _ _ hr => q_law_table z_len z_range hr) red_law_table, m_law_table, F_law_table_.kp, F_law_table_⟩
  have D_law_words : Def P w K mg base flowPL CX0 1 "_law_words" s_law_words [] [] P_law_words F_law_words := ⟨_, _, fnC F_law_words_ sc_law_words (fun _ _ _ _ _ _ hr => q_law_words  hr) red_law_words, m_law_words, F_law_words_.kp, F_law_words_⟩
  have D_to_left : Def P w K mg base flowPL CX0 1 "_to_left" s_to_left [] [] P_to_left F_to_left := ⟨_, _, fnC F_to_left_ sc_to_left (fun _ _ _ _ _ _ hr => q_to_left z_max hr) red_to_left, m_to_left, F_to_left_.kp, F_to_left_⟩
  have D_to_right : Def P w K mg base flowPL CX0 1 "_to_right" s_to_right [] [] P_to_right F_to_right := ⟨_, _, fnC F_to_right_ sc_to_right (fun _ _ _ _ _ _ hr => q_to_right z_len z_min hr) red_to_right, m_to_right, F_to_right_.kp, F_to_right_⟩
  have D_spot_of : Def P w K mg base flowPL CX0 1 "spot_of" s_spot_of [] [] P_spot_of F_spot_of := ⟨_, _, fnC F_spot_of_ sc_spot_of (fun _ _ _ _ _ _ hr => q_spot_of z_len hr) red_spot_of, m_spot_of, F_spot_of_.kp, F_spot_of_⟩
  have D_row_bounds : Def P w K mg base flowPL CX0 1 "row_bounds" s_row_bounds [] [] P_row_bounds F_row_bounds := ⟨_, _, fnC F_row_bounds_ sc_row_bounds (fun _ _ _ _ _ _ hr => q_row_bounds z_len z_range hr) red_row_bounds, m_row_bounds, F_row_bounds_.kp, F_row_bounds_⟩
  have D_place_of : Def P w K mg base flowPL CX0 2 "place_of" s_place_of [] [] P_place_of F_place_of := ⟨_, _, fnC F_place_of_ sc_place_of (fun _ _ _ _ _ _ hr => q_place_of D_row_bounds z_min hr) red_place_of, m_place_of, F_place_of_.kp, F_place_of_⟩
  have D_to_line_above : Def P w K mg base flowPL CX0 3 "_to_line_above" s_to_line_above [] [] P_to_line_above F_to_line_above := ⟨_, _, fnC F_to_line_above_ sc_to_line_above (fun _ _ _ _ _ _ hr => q_to_line_above D_spot_of D_place_of hr) red_to_line_above, m_to_line_above, F_to_line_above_.kp, F_to_line_above_⟩
  have D_to_line_below : Def P w K mg base flowPL CX0 3 "_to_line_below" s_to_line_below [] [] P_to_line_below F_to_line_below := ⟨_, _, fnC F_to_line_below_ sc_to_line_below (fun _ _ _ _ _ _ hr => q_to_line_below D_spot_of D_place_of hr) red_to_line_below, m_to_line_below, F_to_line_below_.kp, F_to_line_below_⟩
  have D_to_row_home : Def P w K mg base flowPL CX0 2 "_to_row_home" s_to_row_home [] [] P_to_row_home F_to_row_home := ⟨_, _, fnC F_to_row_home_ sc_to_row_home (fun _ _ _ _ _ _ hr => q_to_row_home D_spot_of D_row_bounds hr) red_to_row_home, m_to_row_home, F_to_row_home_.kp, F_to_row_home_⟩
  have D_to_row_end : Def P w K mg base flowPL CX0 2 "_to_row_end" s_to_row_end [] [] P_to_row_end F_to_row_end := ⟨_, _, fnC F_to_row_end_ sc_to_row_end (fun _ _ _ _ _ _ hr => q_to_row_end D_spot_of D_row_bounds hr) red_to_row_end, m_to_row_end, F_to_row_end_.kp, F_to_row_end_⟩
  have D_to_text_start : Def P w K mg base flowPL CX0 1 "_to_text_start" s_to_text_start [] [] P_to_text_start F_to_text_start := ⟨_, _, fnC F_to_text_start_ sc_to_text_start (fun _ _ _ _ _ _ hr => q_to_text_start  hr) red_to_text_start, m_to_text_start, F_to_text_start_.kp, F_to_text_start_⟩
  have D_to_text_finish : Def P w K mg base flowPL CX0 1 "_to_text_finish" s_to_text_finish [] [] P_to_text_finish F_to_text_finish := ⟨_, _, fnC F_to_text_finish_ sc_to_text_finish (fun _ _ _ _ _ _ hr => q_to_text_finish z_len hr) red_to_text_finish, m_to_text_finish, F_to_text_finish_.kp, F_to_text_finish_⟩
  have D_kind_of : Def P w K mg base flowPL CX0 1 "kind_of" s_kind_of [] [] P_kind_of F_kind_of := ⟨_, _, fnC F_kind_of_ sc_kind_of (fun _ _ _ _ _ _ hr => q_kind_of g_DIGITS g_GREAT_LETTERS g_SMALL_LETTERS hr) red_kind_of, m_kind_of, F_kind_of_.kp, F_kind_of_⟩
  have D_run_kind : Def P w K mg base flowPL CX0 2 "_run_kind" s_run_kind [] [] P_run_kind F_run_kind := ⟨_, _, fnC F_run_kind_ sc_run_kind (fun _ _ _ _ _ _ hr => q_run_kind D_kind_of hr) red_run_kind, m_run_kind, F_run_kind_.kp, F_run_kind_⟩
  have D_on_over : Def P w K mg base flowPL CX0 3 "_on_over" s_on_over [] [] P_on_over F_on_over := ⟨_, _, fnC F_on_over_ sc_on_over (fun _ _ _ _ _ _ hr => q_on_over D_run_kind z_len hr) red_on_over, m_on_over, F_on_over_.kp, F_on_over_⟩
  have D_to_next_word : Def P w K mg base flowPL CX0 4 "_to_next_word" s_to_next_word [] [] P_to_next_word F_to_next_word := ⟨_, _, fnC F_to_next_word_ sc_to_next_word (fun _ _ _ _ _ _ hr => q_to_next_word D_run_kind D_on_over z_len hr) red_to_next_word, m_to_next_word, F_to_next_word_.kp, F_to_next_word_⟩
  have D_back_over : Def P w K mg base flowPL CX0 3 "_back_over" s_back_over [] [] P_back_over F_back_over := ⟨_, _, fnC F_back_over_ sc_back_over (fun _ _ _ _ _ _ hr => q_back_over D_run_kind hr) red_back_over, m_back_over, F_back_over_.kp, F_back_over_⟩
  have D_to_word_before : Def P w K mg base flowPL CX0 4 "_to_word_before" s_to_word_before [] [] P_to_word_before F_to_word_before := ⟨_, _, fnC F_to_word_before_ sc_to_word_before (fun _ _ _ _ _ _ hr => q_to_word_before D_back_over D_run_kind hr) red_to_word_before, m_to_word_before, F_to_word_before_.kp, F_to_word_before_⟩
  have T_MOTIONS : DispOk P w K mg base flowPL 4 2 (He.ga K "_MOTIONS") tab_MOTIONS := by
    obtain ⟨es, n, kd⟩ := ct.tab 0 (t := (fun K => He.ga K "_MOTIONS", ["left", "right", "up", "down", "home", "end", "start", "finish", "word", "wordback"])) rfl
    intro z F h
    simp only [tab_MOTIONS, List.mem_cons, Prod.mk.injEq, List.not_mem_nil, or_false] at h
    rcases h with ⟨rfl, rfl⟩ | ⟨rfl, rfl⟩ | ⟨rfl, rfl⟩ | ⟨rfl, rfl⟩ | ⟨rfl, rfl⟩ | ⟨rfl, rfl⟩ | ⟨rfl, rfl⟩ | ⟨rfl, rfl⟩ | ⟨rfl, rfl⟩ | ⟨rfl, rfl⟩
    · exact dispRow kd v_MOTIONS_0 m_to_left (fun F => binds0 (bi_to_left F)) D_to_left (by decide)
    · exact dispRow kd v_MOTIONS_1 m_to_right (fun F => binds0 (bi_to_right F)) D_to_right (by decide)
    · exact dispRow kd v_MOTIONS_2 m_to_line_above (fun F => binds0 (bi_to_line_above F)) D_to_line_above (by decide)
    · exact dispRow kd v_MOTIONS_3 m_to_line_below (fun F => binds0 (bi_to_line_below F)) D_to_line_below (by decide)
    · exact dispRow kd v_MOTIONS_4 m_to_row_home (fun F => binds0 (bi_to_row_home F)) D_to_row_home (by decide)
    · exact dispRow kd v_MOTIONS_5 m_to_row_end (fun F => binds0 (bi_to_row_end F)) D_to_row_end (by decide)
    · exact dispRow kd v_MOTIONS_6 m_to_text_start (fun F => binds0 (bi_to_text_start F)) D_to_text_start (by decide)
    · exact dispRow kd v_MOTIONS_7 m_to_text_finish (fun F => binds0 (bi_to_text_finish F)) D_to_text_finish (by decide)
    · exact dispRow kd v_MOTIONS_8 m_to_next_word (fun F => binds0 (bi_to_next_word F)) D_to_next_word (by decide)
    · exact dispRow kd v_MOTIONS_9 m_to_word_before (fun F => binds0 (bi_to_word_before F)) D_to_word_before (by decide)
  have D_moved : DefX P w K mg base flowPL 5 "moved" s_moved [] [] P_moved F_moved := ⟨_, _, fnX F_moved_ sc_moved (fun _ _ _ _ _ _ hr => q_moved I_BadPlace z_len g_MOTIONS T_MOTIONS hr) red_moved, m_moved, F_moved_.kp, F_moved_⟩
  have D_law_runs : Def P w K mg base flowPL CX0 3 "_law_runs" s_law_runs [] [] P_law_runs F_law_runs := ⟨_, _, fnC F_law_runs_ sc_law_runs (fun _ _ _ _ _ _ hr => q_law_runs D_law_classes D_law_text D_law_take z_int z_len z_range hr) red_law_runs, m_law_runs, F_law_runs_.kp, F_law_runs_⟩
  have D_law_class : Def P w K mg base flowPL CX0 2 "_law_class" s_law_class [] [] P_law_class F_law_class := ⟨_, _, fnC F_law_class_ sc_law_class (fun _ _ _ _ _ _ hr => q_law_class D_law_classes z_range hr) red_law_class, m_law_class, F_law_class_.kp, F_law_class_⟩
  have D_law_words_told : Def P w K mg base flowPL CX0 2 "_law_words_told" s_law_words_told [] [] P_law_words_told F_law_words_told := ⟨_, _, fnC F_law_words_told_ sc_law_words_told (fun _ _ _ _ _ _ hr => q_law_words_told D_law_words z_isinstance z_len z_range z_str z_tuple g_WORDS r_WORDS hr) red_law_words_told, m_law_words_told, F_law_words_told_.kp, F_law_words_told_⟩
  have D_law_number : Def P w K mg base flowPL CX0 1 "_law_number" s_law_number [] [] P_law_number F_law_number := ⟨_, _, fnC F_law_number_ sc_law_number (fun _ _ _ _ _ _ hr => q_law_number z_bool z_int z_isinstance hr) red_law_number, m_law_number, F_law_number_.kp, F_law_number_⟩
  have H_law_number : DefH P w K mg base flowPL 1 "_law_number" s_law_number [] [] P_law_number F_law_number := ⟨_, _, fnH F_law_number_ sc_law_number (fun _ _ _ _ _ _ hr p ho => h_law_number z_bool z_int z_isinstance hr p ho) red_law_number, m_law_number, F_law_number_.kp, F_law_number_⟩
  have D_law_nearest : Def P w K mg base flowPL CX0 1 "_law_nearest" s_law_nearest [] [] P_law_nearest F_law_nearest := ⟨_, _, fnC F_law_nearest_ sc_law_nearest (fun _ _ _ _ _ _ hr => q_law_nearest z_len z_range hr) red_law_nearest, m_law_nearest, F_law_nearest_.kp, F_law_nearest_⟩
  have D_law_on : Def P w K mg base flowPL CX0 1 "_law_on" s_law_on [] [] P_law_on F_law_on := ⟨_, _, fnC F_law_on_ sc_law_on (fun _ _ _ _ _ _ hr => q_law_on z_len z_range hr) red_law_on, m_law_on, F_law_on_.kp, F_law_on_⟩
  have D_law_back : Def P w K mg base flowPL CX0 1 "_law_back" s_law_back [] [] P_law_back F_law_back := ⟨_, _, fnC F_law_back_ sc_law_back (fun _ _ _ _ _ _ hr => q_law_back z_range hr) red_law_back, m_law_back, F_law_back_.kp, F_law_back_⟩
  have D_law_due : Def P w K mg base flowPL CX0 2 "_law_due" s_law_due [] [] P_law_due F_law_due := ⟨_, _, fnC F_law_due_ sc_law_due (fun _ _ _ _ _ _ hr => q_law_due D_law_nearest D_law_on D_law_back z_int z_len hr) red_law_due, m_law_due, F_law_due_.kp, F_law_due_⟩
  have D_law_far : Def P w K mg base flowPL CX0 6 "_law_far" s_law_far [] [] P_law_far F_law_far := ⟨_, _, fnC F_law_far_ sc_law_far (fun _ _ _ _ _ _ hr => q_law_far D_law_classes D_law_table D_law_words D_law_take D_law_class D_moved D_law_number D_law_due z_int z_len z_min z_range hr) red_law_far, m_law_far, F_law_far_.kp, F_law_far_⟩
  have D_law_refused : Def P w K mg base flowPL CX0 6 "_law_refused" s_law_refused [] [] P_law_refused F_law_refused := ⟨_, _, fnC F_law_refused_ sc_law_refused (fun _ _ _ _ _ _ hr => q_law_refused D_moved H_law_number m_BadPlace xm_BadPlace m_DeskError ie_BadPlace_DeskError hf_BadPlace_at z_isinstance hr) red_law_refused, m_law_refused, F_law_refused_.kp, F_law_refused_⟩
  exact fnC F_law_ sc_law (fun _ _ _ _ _ _ hr => q_law D_law_draws D_law_take D_law_text D_law_table D_law_words D_moved D_law_runs D_law_class D_law_words_told D_law_far D_law_refused D_law_number D_law_on D_law_due z_len z_list z_range hr) red_law
end K48
open PySem PySem.W PySem.Calls PyProof.Rows
set_option maxHeartbeats 0 in
theorem PySem.Challenge.cw_deedstand_k48_motions_lead_by_spots_holds : PySem.Challenge.rw_deedstand_k48_motions_lead_by_spots.Holds := by
  w_on; o_law
  refine HandSHeadRun.head_any (r := OpenLaw.row PySem.Challenge.rw_deedstand_k48_motions_lead_by_spots) (q := view (OpenLaw.row PySem.Challenge.rw_deedstand_k48_motions_lead_by_spots).prog [46]) (H := K48.hk) (ob := K48.ob) (M := 3000) (loose := [("DeskError" : PySem.Str), ("BadPlace" : PySem.Str), ("DIGITS" : PySem.Str), ("SMALL_LETTERS" : PySem.Str), ("GREAT_LETTERS" : PySem.Str), ("kind_of" : PySem.Str), ("spot_of" : PySem.Str), ("row_bounds" : PySem.Str), ("place_of" : PySem.Str), ("WORDS" : PySem.Str), ("_to_left" : PySem.Str), ("_to_right" : PySem.Str), ("_to_line_above" : PySem.Str), ("_to_line_below" : PySem.Str), ("_to_row_home" : PySem.Str), ("_to_row_end" : PySem.Str), ("_to_text_start" : PySem.Str), ("_to_text_finish" : PySem.Str), ("_run_kind" : PySem.Str), ("_on_over" : PySem.Str), ("_back_over" : PySem.Str), ("_to_next_word" : PySem.Str), ("_to_word_before" : PySem.Str), ("_MOTIONS" : PySem.Str), ("moved" : PySem.Str), ("_law_draws" : PySem.Str), ("_law_take" : PySem.Str), ("_law_classes" : PySem.Str), ("_law_text" : PySem.Str), ("_law_runs" : PySem.Str), ("_law_class" : PySem.Str), ("_law_table" : PySem.Str), ("_law_nearest" : PySem.Str), ("_law_on" : PySem.Str), ("_law_back" : PySem.Str), ("_law_due" : PySem.Str), ("_law_number" : PySem.Str), ("_law_refused" : PySem.Str), ("_law_words" : PySem.Str), ("_law_words_told" : PySem.Str), ("_law_far" : PySem.Str)]) (d := HandSHeadRun.topDef (OpenLaw.row PySem.Challenge.rw_deedstand_k48_motions_lead_by_spots).prog 46) (kwd := []) K48.ob_eq
    (by kernel_rfl) (fun s => by kernel_rfl) K48.run (by kernel_rfl) (by kernel_rfl) (by kernel_rfl) (by rfl) (by first | assumption | decide +kernel) (by decide +kernel) ⟨rfl, rfl, rfl, rfl, rfl, by decide +kernel⟩ ?hw ?hc
  case hw => w_witness2
  case hc =>
    refine L2.walk_ofE (l := PySem.Challenge.rw_deedstand_k48_motions_lead_by_spots) (n := 63) (k := 7) (x := "script") (CX := L2.CX0) rfl (by decide) (by kernel_rfl) ⟨rfl, by decide, by decide⟩ ?F (fun _ _ _ _ z => z)
    intro w mg fa h Y G hmg0
    obtain ⟨K, KX, c⟩ := Y
    have hmg : mg ("law" : PySem.Str) = some (.ref fa) := by
      have e : (HandSHeadRun.topDef (OpenLaw.row PySem.Challenge.rw_deedstand_k48_motions_lead_by_spots).prog 46).name = ("law" : PySem.Str) := by kernel_rfl
      rw [← e]
      exact hmg0
    obtain ⟨fd, hb, hF⟩ := K48.facts (P := (PySem.Challenge.rw_deedstand_k48_motions_lead_by_spots).prog) (w := w) KX G hmg c.t.d c.more c.t
    exact ⟨K, fd, _, KX, hb, fun H a ns hl _ hS => Cl.law_sp K48.law_ok hl hS, hF⟩
