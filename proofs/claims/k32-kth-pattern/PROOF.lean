import PyProof.Rows.All
import Wide.All
import OpenK.AllK
import Wide.FinOn
import HandS.ForMost
import HandS.ForExc
import HandS.Wide
import HandS.TupAny
import HandS.TupMul
import HandS.TupLe
import HandS.Style
import HandS.SortOrd
import HandS.SortInts
import HandS.Conv
import HandS.IsInst
import HandS.TryMany
import HandS.TryOnly
import HandS.ExcInit
import HandS.ExcField
import HandS.ExcOwn
import HandS.Rev
import HandS.RevTup
import HandS.RevRange
import HandS.Flow
import HandS.Deep
import HandS.Iter
import HandS.Zip
import HandS.ClsMeth
import HandS.Property
import HandS.OwnEq
import HandS.HeadEnd
import HandS.HeadHook1
import HandS.HeadHook2
import HandS.Head0
import HandS.Head1
import HandS.Head2
import HandS.Small
import HandS.SetKeys
import HandS.Remove
import HandS.SetFor
import KE.SortData
import KE.DatumOrd
import HandS.WideBits
import HandS.HeadHook4
import HandS.HeadNt
import HandS.Head3
import PySem.Challenge.RW_landings_k32_kth_pattern
set_option Elab.async false
set_option linter.all false
set_option maxRecDepth 100000
set_option maxHeartbeats 0
/-! Values as trees, and how the heap bears them. -/
namespace Pf
open PySem PySem.Spec PyProof.Rows L2

inductive D where
  | non | bl (b : Bool) | int (i : Int) | str (x : Str)
  | tup (xs : List D)
  | lst (o : Bool) (xs : List D)
  | ins (o : Bool) (c : Str) (ns : List Str) (fs : List D)
  | cls (c : Str)

mutual
def fz : D → Bool
  | .non => true
  | .bl _ => true
  | .int _ => true
  | .str _ => true
  | .tup xs => fzs xs
  | .lst o xs => !o && fzs xs
  | .ins o _ _ fs => !o && fzs fs
  | .cls _ => true
def fzs : List D → Bool
  | [] => true
  | d :: ds => fz d && fzs ds
end
mutual
def frz : D → D
  | .non => .non
  | .bl b => .bl b
  | .int i => .int i
  | .str x => .str x
  | .tup xs => .tup (frzs xs)
  | .lst _ xs => .lst false (frzs xs)
  | .ins _ c ns fs => .ins false c ns (frzs fs)
  | .cls c => .cls c
def frzs : List D → List D
  | [] => []
  | d :: ds => frz d :: frzs ds
end
mutual
theorem frz_of : ∀ d : D, fz d = true → frz d = d
  | .non, _ => rfl
  | .bl _, _ => rfl
  | .int _, _ => rfl
  | .str _, _ => rfl
  | .tup xs, h => by
    rw [frz, frzs_of xs (by rw [fz] at h; exact h)]
  | .lst o xs, h => by
    rw [fz, Bool.and_eq_true] at h
    rw [frz, frzs_of xs h.2]
    cases o with
    | false => rfl
    | true => cases h.1
  | .ins o _ _ fs, h => by
    rw [fz, Bool.and_eq_true] at h
    rw [frz, frzs_of fs h.2]
    cases o with
    | false => rfl
    | true => cases h.1
  | .cls _, _ => rfl
theorem frzs_of : ∀ ds : List D, fzs ds = true → frzs ds = ds
  | [], _ => rfl
  | d :: ds, h => by
    rw [fzs, Bool.and_eq_true] at h
    rw [frzs, frz_of d h.1, frzs_of ds h.2]
end
mutual
theorem fz_frz : ∀ d : D, fz (frz d) = true
  | .non => rfl
  | .bl _ => rfl
  | .int _ => rfl
  | .str _ => rfl
  | .tup xs => by rw [frz, fz]; exact fzs_frzs xs
  | .lst o xs => by rw [frz, fz, fzs_frzs xs]; rfl
  | .ins o _ _ fs => by rw [frz, fz, fzs_frzs fs]; rfl
  | .cls _ => rfl
theorem fzs_frzs : ∀ ds : List D, fzs (frzs ds) = true
  | [] => rfl
  | d :: ds => by rw [frzs, fzs, fz_frz d, fzs_frzs ds]; rfl
end
theorem fzs_iff : ∀ ds : List D, fzs ds = true ↔ ∀ d ∈ ds, fz d = true
  | [] => by simp [fzs]
  | d :: ds => by simp [fzs, fzs_iff ds]
theorem fzs_append (xs ys : List D) : fzs (xs ++ ys) = (fzs xs && fzs ys) := by
  induction xs with
  | nil => simp [fzs]
  | cons d ds ih => simp [fzs, ih, Bool.and_assoc]
theorem fzs_sub {xs ys : List D} (h : fzs ys = true) (s : ∀ d ∈ xs, d ∈ ys) : fzs xs = true :=
  (fzs_iff xs).mpr fun d hd => (fzs_iff ys).mp h d (s d hd)

/-- a set of addresses -/
abbrev AS := Addr → Prop
abbrev AS.no : AS := fun _ => False
/-- what never changes once it stands -/
def stat : HO → Bool
  | .tup _ => true
  | .xd _ => true
  | .frz _ _ => true
  | .own _ => true
  | _ => false

section
variable (K : PySem.W.Frag) (g : Str → Addr) (Z : AS) (H : Hp)
mutual
/-- the value v stands for d; O: the addresses that it may own -/
inductive Rep : D → V → AS → Prop
  | non {O : AS} : Rep .non .non O
  | bl {O : AS} (b : Bool) : Rep (.bl b) (.bl b) O
  | int {O : AS} (i : Int) : Rep (.int i) (.int i) O
  | str {O : AS} (x : Str) : Rep (.str x) (.str x) O
  | tup {O : AS} {a : Addr} {ds : List D} {vs : List V} (e : SqT K H a vs) (r : RepL ds vs O) : Rep (.tup ds) (.ref a) O
  | lstO {O O' : AS} {a : Addr} {ds : List D} {vs : List V} (e : H a = some (.lst vs)) (oa : O a) (s : ∀ b, O' b → O b ∧ b ≠ a) (r : RepL ds vs O') : Rep (.lst true ds) (.ref a) O
  | lstF {O : AS} {a : Addr} {ds : List D} {vs : List V} (z : Z a) (e : Rd H a (.lst vs)) (r : RepL ds vs AS.no) : Rep (.lst false ds) (.ref a) O
  | insO {O O' : AS} {a dx : Addr} {c : Str} {ns : List Str} {fs : List D} {vs : List V} (e : H a = some (.ins (g c) dx (ns.zip vs))) (hl : ns.length = vs.length) (oa : O a) (s : ∀ b, O' b → O b ∧ b ≠ a) (r : RepL fs vs O') : Rep (.ins true c ns fs) (.ref a) O
  | insF {O : AS} {a dx : Addr} {c : Str} {ns : List Str} {fs : List D} {vs : List V} (z : Z a) (e : H a = some (.ins (g c) dx (ns.zip vs))) (hl : ns.length = vs.length) (r : RepL fs vs AS.no) : Rep (.ins false c ns fs) (.ref a) O
  | cls {O : AS} (c : Str) : Rep (.cls c) (.ref (g c)) O
inductive RepL : List D → List V → AS → Prop
  | nil {O : AS} : RepL [] [] O
  | cons {O O1 O2 : AS} {d : D} {v : V} {ds : List D} {vs : List V} (s1 : ∀ b, O1 b → O b) (s2 : ∀ b, O2 b → O b ∧ ¬ O1 b) (r : Rep d v O1) (t : RepL ds vs O2) : RepL (d :: ds) (v :: vs) O
end
end
section
variable {K : PySem.W.Frag} {g : Str → Addr} {Z Z' : AS} {H H' : Hp}
/-- more may be owned -/
theorem Rep.up {d : D} {v : V} {O O' : AS} (r : Rep K g Z H d v O) (s : ∀ b, O b → O' b) : Rep K g Z H d v O' := by
  cases r with
  | non => exact .non
  | bl b => exact .bl b
  | int i => exact .int i
  | str x => exact .str x
  | tup e r => 
    cases r with
    | nil => exact .tup e .nil
    | cons s1 s2 r t => exact .tup e (.cons (fun b h => s b (s1 b h)) (fun b h => ⟨s b (s2 b h).1, (s2 b h).2⟩) r t)
  | lstO e oa s' r => exact .lstO e (s _ oa) (fun b h => ⟨s b (s' b h).1, (s' b h).2⟩) r
  | lstF z e r => exact .lstF z e r
  | insO e hl oa s' r => exact .insO e hl (s _ oa) (fun b h => ⟨s b (s' b h).1, (s' b h).2⟩) r
  | insF z e hl r => exact .insF z e hl r
  | cls c => exact .cls c
theorem RepL.up {ds : List D} {vs : List V} {O O' : AS} (r : RepL K g Z H ds vs O) (s : ∀ b, O b → O' b) : RepL K g Z H ds vs O' := by
  cases r with
  | nil => exact .nil
  | cons s1 s2 r t => exact .cons (fun b h => s b (s1 b h)) (fun b h => ⟨s b (s2 b h).1, (s2 b h).2⟩) r t
theorem RepL.length {ds : List D} {vs : List V} {O : AS} (r : RepL K g Z H ds vs O) : ds.length = vs.length := by
  induction ds generalizing vs O with
  | nil => cases r; rfl
  | cons d ds ih =>
    cases r with
    | cons s1 s2 r t => rw [List.length_cons, List.length_cons, ih t]
/-- what a step keeps -/
def Keep (Z O : AS) (H H' : Hp) : Prop := ∀ a x, H a = some x → (Z a ∨ O a ∨ stat x = true) → H' a = some x
theorem SqT.keep {a : Addr} {vs : List V} {O : AS} (e : SqT K H a vs) (k : Keep Z O H H') : SqT K H' a vs := by
  rcases e with (e | ⟨o, e⟩) | e
  · exact .inl (.inl (k a _ e (.inr (.inr rfl))))
  · exact .inl (.inr ⟨o, k a _ e (.inr (.inr rfl))⟩)
  · exact .inr e
mutual
theorem Rep.keep : ∀ {d : D} {v : V} {O : AS}, Rep K g Z H d v O → (∀ a, Z a → Z' a) → Keep Z O H H' → Rep K g Z' H' d v O
  | _, _, _, .non, _, _ => .non
  | _, _, _, .bl b, _, _ => .bl b
  | _, _, _, .int i, _, _ => .int i
  | _, _, _, .str x, _, _ => .str x
  | _, _, _, .tup e r, hz, k => .tup (SqT.keep e k) (RepL.keep r hz k)
  | _, _, _, .lstO e oa s r, hz, k => .lstO (k _ _ e (.inr (.inl oa))) oa s (RepL.keep r hz fun a x h q => k a x h (q.imp id fun q => q.imp (fun q => (s a q).1) id))
  | _, _, _, .lstF z e r, hz, k => .lstF (hz _ z) (by
      rcases e with e | ⟨o, e⟩
      · exact .inl (k _ _ e (.inl z))
      · exact .inr ⟨o, k _ _ e (.inl z)⟩) (RepL.keep r hz fun a x h q => k a x h (q.imp id fun q => q.imp (fun q => q.elim) id))
  | _, _, _, .insO e hl oa s r, hz, k => .insO (k _ _ e (.inr (.inl oa))) hl oa s (RepL.keep r hz fun a x h q => k a x h (q.imp id fun q => q.imp (fun q => (s a q).1) id))
  | _, _, _, .insF z e hl r, hz, k => .insF (hz _ z) (k _ _ e (.inl z)) hl (RepL.keep r hz fun a x h q => k a x h (q.imp id fun q => q.imp (fun q => q.elim) id))
  | _, _, _, .cls c, _, _ => .cls c
theorem RepL.keep : ∀ {ds : List D} {vs : List V} {O : AS}, RepL K g Z H ds vs O → (∀ a, Z a → Z' a) → Keep Z O H H' → RepL K g Z' H' ds vs O
  | _, _, _, .nil, _, _ => .nil
  | _, _, _, .cons s1 s2 r t, hz, k => .cons s1 s2 (Rep.keep r hz fun a x h q => k a x h (q.imp id fun q => q.imp (s1 a) id)) (RepL.keep t hz fun a x h q => k a x h (q.imp id fun q => q.imp (fun q => (s2 a q).1) id))
end
mutual
/-- what is frozen owns nothing -/
theorem Rep.none : ∀ {d : D} {v : V} {O : AS}, Rep K g Z H d v O → fz d = true → Rep K g Z H d v AS.no
  | _, _, _, .non, _ => .non
  | _, _, _, .bl b, _ => .bl b
  | _, _, _, .int i, _ => .int i
  | _, _, _, .str x, _ => .str x
  | _, _, _, .tup e r, h => .tup e (RepL.none r (by rw [fz] at h; exact h))
  | _, _, _, .lstO e oa s r, h => by rw [fz] at h; cases h
  | _, _, _, .lstF z e r, h => .lstF z e r
  | _, _, _, .insO e hl oa s r, h => by rw [fz] at h; cases h
  | _, _, _, .insF z e hl r, h => .insF z e hl r
  | _, _, _, .cls c, _ => .cls c
theorem RepL.none : ∀ {ds : List D} {vs : List V} {O : AS}, RepL K g Z H ds vs O → fzs ds = true → RepL K g Z H ds vs AS.no
  | _, _, _, .nil, _ => .nil
  | _, _, _, .cons s1 s2 r t, h => by
    rw [fzs, Bool.and_eq_true] at h
    exact .cons (fun _ x => x) (fun _ x => x.elim) (Rep.none r h.1) (RepL.none t h.2)
end
mutual
/-- frozen: all that was owned may not change any more -/
theorem Rep.frz : ∀ {d : D} {v : V} {O : AS}, Rep K g Z H d v O → (∀ a, Z a ∨ O a → Z' a) → Rep K g Z' H (frz d) v AS.no
  | _, _, _, .non, _ => .non
  | _, _, _, .bl b, _ => .bl b
  | _, _, _, .int i, _ => .int i
  | _, _, _, .str x, _ => .str x
  | _, _, _, .tup e r, h => .tup e (RepL.frz r h)
  | _, _, _, .lstO e oa s r, h => .lstF (h _ (.inr oa)) (.inl e) (RepL.frz r fun a q => h a (q.imp id fun q => (s a q).1))
  | _, _, _, .lstF z e r, h => .lstF (h _ (.inl z)) e (RepL.frz r fun a q => h a (q.imp id fun q => q.elim))
  | _, _, _, .insO e hl oa s r, h => .insF (h _ (.inr oa)) e hl (RepL.frz r fun a q => h a (q.imp id fun q => (s a q).1))
  | _, _, _, .insF z e hl r, h => .insF (h _ (.inl z)) e hl (RepL.frz r fun a q => h a (q.imp id fun q => q.elim))
  | _, _, _, .cls c, _ => .cls c
theorem RepL.frz : ∀ {ds : List D} {vs : List V} {O : AS}, RepL K g Z H ds vs O → (∀ a, Z a ∨ O a → Z' a) → RepL K g Z' H (frzs ds) vs AS.no
  | _, _, _, .nil, _ => .nil
  | _, _, _, .cons s1 s2 r t, h => .cons (fun _ x => x) (fun _ x => x.elim) (Rep.frz r fun a q => h a (q.imp id (s1 a))) (RepL.frz t fun a q => h a (q.imp id fun q => (s2 a q).1))
end
/-- one item of many -/
theorem RepL.get {ds : List D} {vs : List V} {O : AS} (r : RepL K g Z H ds vs O) {i : Nat} {d : D} (h : ds[i]? = some d) : ∃ v, vs[i]? = some v ∧ Rep K g Z H d v O := by
  induction ds generalizing vs O i with
  | nil => cases h
  | cons x xs ih =>
    cases r with
    | cons s1 s2 r t =>
      cases i with
      | zero =>
        cases h
        exact ⟨_, rfl, r.up s1⟩
      | succ i =>
        obtain ⟨v, e, q⟩ := ih t (i := i) h
        exact ⟨v, e, q.up fun b z => (s2 b z).1⟩
theorem RepL.ofNo {ds : List D} {vs : List V} (hl : ds.length = vs.length) (h : ∀ (i : Nat) (d : D) (v : V), ds[i]? = some d → vs[i]? = some v → Rep K g Z H d v AS.no) {O : AS} : RepL K g Z H ds vs O := by
  induction ds generalizing vs O with
  | nil =>
    cases vs with
    | nil => exact .nil
    | cons _ _ => cases hl
  | cons x xs ih =>
    cases vs with
    | nil => cases hl
    | cons v vs =>
      refine .cons (O1 := AS.no) (O2 := AS.no) (fun _ z => z.elim) (fun _ z => z.elim) (h 0 x v rfl rfl) ?_
      exact ih (by simpa using hl) fun i d v h1 h2 => h (i + 1) d v h1 h2
theorem RepL.app {xs ys : List D} {vs ws : List V} {O O1 O2 : AS} (r : RepL K g Z H xs vs O1) (t : RepL K g Z H ys ws O2) (s1 : ∀ b, O1 b → O b) (s2 : ∀ b, O2 b → O b ∧ ¬ O1 b) : RepL K g Z H (xs ++ ys) (vs ++ ws) O := by
  induction xs generalizing vs O O1 with
  | nil =>
    cases r
    exact t.up fun b z => (s2 b z).1
  | cons x xs ih =>
    cases r with
    | @cons _ A B _ _ _ _ a1 a2 r q =>
      refine .cons (O1 := A) (O2 := fun b => B b ∨ O2 b) (fun b z => s1 b (a1 b z)) (fun b z => ?_) r (ih q (O := fun b => B b ∨ O2 b) (fun b z => .inl z) fun b z => ⟨.inr z, fun y => (s2 b z).2 (a2 b y).1⟩)
      rcases z with z | z
      · exact ⟨s1 b (a2 b z).1, (a2 b z).2⟩
      · exact ⟨(s2 b z).1, fun y => (s2 b z).2 (a1 b y)⟩
/-- ints -/
theorem RepL.ints {ns : List Int} {O : AS} : RepL K g Z H (ns.map D.int) (ns.map V.int) O := by
  induction ns with
  | nil => exact .nil
  | cons n ns ih => exact .cons (O1 := AS.no) (O2 := O) (fun _ z => z.elim) (fun _ z => ⟨z, id⟩) (.int n) ih
theorem RepL.intsV {ns : List Int} {vs : List V} {O : AS} (r : RepL K g Z H (ns.map D.int) vs O) : vs = ns.map V.int := by
  induction ns generalizing vs O with
  | nil => cases r; rfl
  | cons n ns ih =>
    cases r with
    | cons s1 s2 r t =>
      cases r
      rw [ih t]
      rfl
theorem RepL.blsV {ns : List Bool} {vs : List V} {O : AS} (r : RepL K g Z H (ns.map D.bl) vs O) : vs = ns.map V.bl := by
  induction ns generalizing vs O with
  | nil => cases r; rfl
  | cons n ns ih =>
    cases r with
    | cons s1 s2 r t =>
      cases r
      rw [ih t]
      rfl
end
@[simp] theorem fzs_ints (ns : List Int) : fzs (ns.map D.int) = true := by
  induction ns with
  | nil => rfl
  | cons n ns ih => exact ih
@[simp] theorem frzs_ints (ns : List Int) : frzs (ns.map D.int) = ns.map D.int := frzs_of _ (fzs_ints ns)
end Pf

/-! The state of a body: the names' values, what is in flight, who may change what. -/
namespace Pf
open PySem PySem.Spec PyProof.Rows L2

abbrev Sg := L2.St
abbrev En := List (Option D)
/-- in flight: a value, or a name's own list -/
inductive R where
  | v (d : D) | s (i : Nat)
structure Bs where
  H : Hp
  Z : AS
  O : AS
  pin : List (Nat × V) := []
  ts : List D := []
  tv : List V := []

section
variable (K : PySem.W.Frag) (g : Str → Addr) (Z : AS) (H : Hp)
inductive RepE : En → Sg → AS → Prop
  | nil {O : AS} : RepE [] [] O
  | un {O : AS} {en : En} {σ : Sg} {x : Option V} (t : RepE en σ O) : RepE (none :: en) (x :: σ) O
  | has {O O1 O2 : AS} {d : D} {v : V} {en : En} {σ : Sg} (s1 : ∀ b, O1 b → O b) (s2 : ∀ b, O2 b → O b ∧ ¬ O1 b) (r : Rep K g Z H d v O1) (t : RepE en σ O2) : RepE (some d :: en) (some v :: σ) O
inductive RepT (σ : Sg) : List R → List V → AS → Prop
  | nil {O : AS} : RepT σ [] [] O
  | v {O O1 O2 : AS} {d : D} {v : V} {rs : List R} {vs : List V} (s1 : ∀ b, O1 b → O b) (s2 : ∀ b, O2 b → O b ∧ ¬ O1 b) (r : Rep K g Z H d v O1) (t : RepT σ rs vs O2) : RepT σ (.v d :: rs) (v :: vs) O
  | s {O : AS} {i : Nat} {v : V} {rs : List R} {vs : List V} (e : σ[i]? = some (some v)) (t : RepT σ rs vs O) : RepT σ (.s i :: rs) (v :: vs) O
end
/-- against the entry B -/
structure Good (B : Bs) (Z O : AS) (H : Hp) : Prop where
  dj : ∀ a, O a → Z a → False
  trO : ∀ a, O a → ∃ x, H a = some x ∧ stat x = false
  trZ : ∀ a, Z a → H a ≠ none
  fr : ∀ a x, B.H a = some x → ¬ B.O a → H a = some x
  dom : ∀ a, B.H a ≠ none → H a ≠ none
  zz : ∀ a, B.Z a → Z a
  zn : ∀ a, Z a → B.Z a ∨ B.O a ∨ B.H a = none
  on : ∀ a, O a → B.O a ∨ B.H a = none
theorem Good.sub {B : Bs} {Z O O' : AS} {H : Hp} (q : Good B Z O H) (s : ∀ a, O' a → O a) : Good B Z O' H :=
  ⟨fun a h => q.dj a (s a h), fun a h => q.trO a (s a h), q.trZ, q.fr, q.dom, q.zz, q.zn, fun a h => q.on a (s a h)⟩
theorem Good.nonew {B : Bs} {Z O : AS} {H : Hp} (q : Good B Z O H) {p : Addr} (hp : H p = none) : ¬ O p ∧ ¬ Z p ∧ B.H p = none :=
  ⟨fun h => (by obtain ⟨x, e, _⟩ := q.trO p h; rw [hp] at e; cases e), fun h => q.trZ p h hp, (by
    cases e : B.H p with
    | none => rfl
    | some x => exact absurd hp (q.dom p (by rw [e]; intro z; cases z)))⟩
theorem upd_new {H : Hp} {p a : Addr} {x y : HO} (hp : H p = none) (h : H a = some y) : upd H p x a = some y := by
  rw [upd_ne (ne_of_none h hp)]
  exact h
theorem upd_dom {H : Hp} {p a : Addr} {x : HO} (h : H a ≠ none) : upd H p x a ≠ none := by
  by_cases e : a = p
  · rw [e, upd_same]
    intro z
    cases z
  · rw [upd_ne e]
    exact h
theorem Good.new {B : Bs} {Z O : AS} {H : Hp} {x : HO} {p : Addr} (q : Good B Z O H) (hp : H p = none) : Good B Z O (upd H p x) :=
  ⟨q.dj, fun a h => (by
    obtain ⟨y, e, s⟩ := q.trO a h
    exact ⟨y, upd_new hp e, s⟩), fun a h => upd_dom (q.trZ a h), fun a y h n => upd_new hp (q.fr a y h n), fun a h => upd_dom (q.dom a h), q.zz, q.zn, q.on⟩
theorem Good.newO {B : Bs} {Z O : AS} {H : Hp} {x : HO} {p : Addr} (q : Good B Z O H) (hp : H p = none) (hs : stat x = false) : Good B Z (fun a => O a ∨ a = p) (upd H p x) := by
  have n := q.nonew hp
  have q' := q.new (x := x) hp
  exact ⟨fun a h z => h.elim (fun h => q.dj a h z) fun h => n.2.1 (h ▸ z), fun a h => h.elim (q'.trO a) fun h => ⟨x, (by rw [h, upd_same]), hs⟩, q'.trZ, q'.fr, q'.dom, q.zz, q.zn, fun a h => h.elim (q.on a) fun h => .inr (h ▸ n.2.2)⟩
theorem Good.mut {B : Bs} {Z O : AS} {H : Hp} {x : HO} {p : Addr} (q : Good B Z O H) (hp : O p) (hs : stat x = false) : Good B Z O (upd H p x) :=
  ⟨q.dj, fun a h => (by
    by_cases e : a = p
    · exact ⟨x, by rw [e, upd_same], hs⟩
    · obtain ⟨y, e1, s⟩ := q.trO a h
      exact ⟨y, by rw [upd_ne e]; exact e1, s⟩), fun a h => upd_dom (q.trZ a h), fun a y h n => (by
    by_cases e : a = p
    · rcases q.on p hp with o | o
      · exact absurd (e ▸ o) n
      · rw [← e, h] at o
        cases o
    · rw [upd_ne e]
      exact q.fr a y h n), fun a h => upd_dom (q.dom a h), q.zz, q.zn, q.on⟩
theorem Good.frz {B : Bs} {Z O O1 O2 : AS} {H : Hp} (q : Good B Z O H) (s1 : ∀ a, O1 a → O a) (s2 : ∀ a, O2 a → O a ∧ ¬ O1 a) : Good B (fun a => Z a ∨ O1 a) O2 H :=
  ⟨fun a h z => z.elim (q.dj a (s2 a h).1) (s2 a h).2, fun a h => q.trO a (s2 a h).1, fun a h => h.elim (q.trZ a) fun h => (by
    obtain ⟨x, e, _⟩ := q.trO a (s1 a h)
    rw [e]
    intro z
    cases z), q.fr, q.dom, fun a h => .inl (q.zz a h), fun a h => h.elim (q.zn a) fun h => .inr (q.on a (s1 a h)), fun a h => q.on a (s2 a h).1⟩
theorem keep_new {Z O : AS} {H : Hp} {x : HO} {p : Addr} (hp : H p = none) : Keep Z O H (upd H p x) := fun _ _ h _ => upd_new hp h
/-- what others own stays behind a write -/
theorem Good.keep {B : Bs} {Z O O2 : AS} {H : Hp} {x : HO} {p : Addr} (q : Good B Z O H) (hp : O p) (n : ¬ O2 p) : Keep Z O2 H (upd H p x) := fun a y h c => by
  have e : a ≠ p := fun e => by
    subst e
    rcases c with c | c | c
    · exact q.dj a hp c
    · exact n c
    · obtain ⟨z, e, s⟩ := q.trO a hp
      rw [h] at e
      cases e
      rw [c] at s
      cases s
  rw [upd_ne e]
  exact h

section
variable {K : PySem.W.Frag} {g : Str → Addr} {Z Z' : AS} {H H' : Hp}
theorem RepE.up {en : En} {σ : Sg} {O O' : AS} (r : RepE K g Z H en σ O) (s : ∀ b, O b → O' b) : RepE K g Z H en σ O' := by
  induction r with
  | nil => exact .nil
  | un t ih => exact .un (ih s)
  | has s1 s2 r t ih => exact .has (fun b h => s b (s1 b h)) (fun b h => ⟨s b (s2 b h).1, (s2 b h).2⟩) r t
theorem RepT.up {σ : Sg} {rs : List R} {vs : List V} {O O' : AS} (r : RepT K g Z H σ rs vs O) (s : ∀ b, O b → O' b) : RepT K g Z H σ rs vs O' := by
  induction r with
  | nil => exact .nil
  | v s1 s2 r t ih => exact .v (fun b h => s b (s1 b h)) (fun b h => ⟨s b (s2 b h).1, (s2 b h).2⟩) r t
  | s e t ih => exact .s e (ih s)
theorem RepE.len {en : En} {σ : Sg} {O : AS} (r : RepE K g Z H en σ O) : en.length = σ.length := by
  induction r with
  | nil => rfl
  | un t ih => rw [List.length_cons, List.length_cons, ih]
  | has s1 s2 r t ih => rw [List.length_cons, List.length_cons, ih]
theorem RepE.keep {en : En} {σ : Sg} {O : AS} (r : RepE K g Z H en σ O) (hz : ∀ a, Z a → Z' a) (k : Keep Z O H H') : RepE K g Z' H' en σ O := by
  induction r with
  | nil => exact .nil
  | un t ih => exact .un (ih k)
  | has s1 s2 r t ih => exact .has s1 s2 (r.keep hz fun a x h q => k a x h (q.imp id fun q => q.imp (s1 a) id)) (ih fun a x h q => k a x h (q.imp id fun q => q.imp (fun q => (s2 a q).1) id))
theorem RepT.keep {σ : Sg} {rs : List R} {vs : List V} {O : AS} (r : RepT K g Z H σ rs vs O) (hz : ∀ a, Z a → Z' a) (k : Keep Z O H H') : RepT K g Z' H' σ rs vs O := by
  induction r with
  | nil => exact .nil
  | v s1 s2 r t ih => exact .v s1 s2 (r.keep hz fun a x h q => k a x h (q.imp id fun q => q.imp (s1 a) id)) (ih fun a x h q => k a x h (q.imp id fun q => q.imp (fun q => (s2 a q).1) id))
  | s e t ih => exact .s e (ih k)
theorem RepE.split {en : En} {σ : Sg} {O : AS} (r : RepE K g Z H en σ O) {i : Nat} {d : D} (h : en[i]? = some (some d)) :
    ∃ v O1 O2, σ[i]? = some (some v) ∧ Rep K g Z H d v O1 ∧ RepE K g Z H (en.set i none) σ O2 ∧ (∀ b, O1 b → O b) ∧ ∀ b, O2 b → O b ∧ ¬ O1 b := by
  induction r generalizing i with
  | nil => cases h
  | un t ih =>
    cases i with
    | zero => cases h
    | succ i =>
      obtain ⟨v, O1, O2, e, r, q, s1, s2⟩ := ih h
      exact ⟨v, O1, O2, e, r, .un q, s1, s2⟩
  | @has O A B d' v' en σ a1 a2 r t ih =>
    cases i with
    | zero =>
      cases h
      exact ⟨v', A, B, rfl, r, .un t, a1, a2⟩
    | succ i =>
      obtain ⟨v, O1, O2, e, r', q, s1, s2⟩ := ih h
      refine ⟨v, O1, fun b => A b ∨ O2 b, e, r', .has (O1 := A) (O2 := O2) (fun b h => .inl h) (fun b h => ⟨.inr h, fun y => (a2 b (s2 b h).1).2 y⟩) r q, fun b h => (a2 b (s1 b h)).1, fun b h => ?_⟩
      rcases h with h | h
      · exact ⟨a1 b h, fun y => (a2 b (s1 b y)).2 h⟩
      · exact ⟨(a2 b (s2 b h).1).1, (s2 b h).2⟩
/-- name i holds d, at the place where its value stands -/
theorem RepE.put {en : En} {σ : Sg} {O O1 O2 : AS} (r : RepE K g Z H en σ O2) {i : Nat} {d : D} {v : V} (h : σ[i]? = some (some v)) (q : Rep K g Z H d v O1) (s1 : ∀ b, O1 b → O b) (s2 : ∀ b, O2 b → O b ∧ ¬ O1 b) :
    RepE K g Z H (en.set i (some d)) σ O := by
  induction r generalizing i O with
  | nil => cases h
  | @un A en' σ' x t ih =>
    cases i with
    | zero =>
      cases h
      exact .has s1 s2 q t
    | succ i => exact .un (ih h s1 s2)
  | @has A B C d' v' en' σ' a1 a2 r t ih =>
    cases i with
    | zero =>
      cases h
      exact .has s1 (fun b z => s2 b (a2 b z).1) q t
    | succ i =>
      refine .has (O1 := B) (O2 := fun b => O1 b ∨ C b) (fun b z => (s2 b (a1 b z)).1) (fun b z => ?_) r (ih h (fun b z => .inl z) fun b z => ⟨.inr z, (s2 b (a2 b z).1).2⟩)
      rcases z with z | z
      · exact ⟨s1 b z, fun y => (s2 b (a1 b y)).2 z⟩
      · exact ⟨(s2 b (a2 b z).1).1, (a2 b z).2⟩
/-- name i gets v -/
theorem RepE.asg {en : En} {σ : Sg} {O O1 O2 : AS} (r : RepE K g Z H en σ O2) {i : Nat} {d : D} {v : V} (h : i < σ.length) (q : Rep K g Z H d v O1) (s1 : ∀ b, O1 b → O b) (s2 : ∀ b, O2 b → O b ∧ ¬ O1 b) :
    RepE K g Z H (en.set i (some d)) (σ.set i (some v)) O := by
  induction r generalizing i O with
  | nil => cases h
  | @un A en' σ' x t ih =>
    cases i with
    | zero => exact .has s1 s2 q t
    | succ i => exact .un (ih (Nat.lt_of_succ_lt_succ h) s1 s2)
  | @has A B C d' v' en' σ' a1 a2 r t ih =>
    cases i with
    | zero => exact .has s1 (fun b z => s2 b (a2 b z).1) q t
    | succ i =>
      refine .has (O1 := B) (O2 := fun b => O1 b ∨ C b) (fun b z => (s2 b (a1 b z)).1) (fun b z => ?_) r (ih (Nat.lt_of_succ_lt_succ h) (fun b z => .inl z) fun b z => ⟨.inr z, (s2 b (a2 b z).1).2⟩)
      rcases z with z | z
      · exact ⟨s1 b z, fun y => (s2 b (a1 b y)).2 z⟩
      · exact ⟨(s2 b (a2 b z).1).1, (a2 b z).2⟩
/-- name i is forgotten -/
theorem RepE.off {en : En} {σ : Sg} {O : AS} (r : RepE K g Z H en σ O) (i : Nat) : RepE K g Z H (en.set i none) σ O := by
  induction r generalizing i with
  | nil => exact .nil
  | un t ih =>
    cases i with
    | zero => exact .un t
    | succ i => exact .un (ih i)
  | has s1 s2 r t ih =>
    cases i with
    | zero => exact .un (t.up fun b z => (s2 b z).1)
    | succ i => exact .has s1 s2 r (ih i)
/-- whatever stands where en knows nothing -/
theorem RepE.any {en : En} {σ : Sg} {O : AS} (r : RepE K g Z H en σ O) {i : Nat} (h : en[i]? = some none) (x : Option V) : RepE K g Z H en (σ.set i x) O := by
  induction r generalizing i with
  | nil => cases h
  | un t ih =>
    cases i with
    | zero => exact .un t
    | succ i => exact .un (ih h)
  | has s1 s2 r t ih =>
    cases i with
    | zero => cases h
    | succ i => exact .has s1 s2 r (ih h)
end
section
variable (K : PySem.W.Frag) (g : Str → Addr)
/-- the state -/
def SR (B : Bs) (en : En) (rs : List R) (σ : Sg) (vs : List V) (H : Hp) : Prop :=
  ∃ Z O O1 O2, RepE K g Z H en σ O1 ∧ RepT K g Z H σ rs vs O2 ∧ (∀ b, O1 b → O b) ∧ (∀ b, O2 b → O b ∧ ¬ O1 b) ∧ Good B Z O H ∧ ∀ p ∈ B.pin, σ[p.1]? = some (some p.2)
end
section
variable {K : PySem.W.Frag} {g : Str → Addr} {B : Bs} {en : En} {rs : List R} {σ : Sg} {vs : List V} {H : Hp}
theorem SR.len (h : SR K g B en rs σ vs H) : en.length = σ.length := by
  obtain ⟨_, _, _, _, r, _⟩ := h
  exact r.len
/-- a value without objects comes -/
theorem SR.flat {d : D} {v : V} (h : SR K g B en rs σ vs H) (r : ∀ Z, Rep K g Z H d v AS.no) : SR K g B en (.v d :: rs) σ (v :: vs) H := by
  obtain ⟨Z, O, O1, O2, e, t, s1, s2, q, p⟩ := h
  exact ⟨Z, O, O1, O2, e, .v (O1 := AS.no) (fun _ z => z.elim) (fun _ z => ⟨z, id⟩) (r Z) t, s1, s2, q, p⟩
theorem SR.drop {r : R} {v : V} (h : SR K g B en (r :: rs) σ (v :: vs) H) : SR K g B en rs σ vs H := by
  obtain ⟨Z, O, O1, O2, e, t, s1, s2, q, p⟩ := h
  cases t with
  | v a1 a2 r t => exact ⟨Z, O, O1, _, e, t, s1, fun b z => s2 b (a2 b z).1, q, p⟩
  | s _ t => exact ⟨Z, O, O1, _, e, t, s1, s2, q, p⟩
/-- a frozen name is read -/
theorem SR.read {i : Nat} {d : D} (h : SR K g B en rs σ vs H) (hi : en[i]? = some (some d)) (hf : fz d = true) : ∃ v, σ[i]? = some (some v) ∧ SR K g B en (.v d :: rs) σ (v :: vs) H := by
  obtain ⟨Z, O, O1, O2, e, t, s1, s2, q, p⟩ := h
  obtain ⟨v, A, C, ev, r, _, _, _⟩ := e.split hi
  exact ⟨v, ev, Z, O, O1, O2, e, .v (O1 := AS.no) (fun _ z => z.elim) (fun _ z => ⟨z, id⟩) (r.none hf) t, s1, s2, q, p⟩
/-- a name's list goes in flight as the name's -/
theorem SR.slot {i : Nat} {d : D} (h : SR K g B en rs σ vs H) (hi : en[i]? = some (some d)) : ∃ v, σ[i]? = some (some v) ∧ SR K g B en (.s i :: rs) σ (v :: vs) H := by
  obtain ⟨Z, O, O1, O2, e, t, s1, s2, q, p⟩ := h
  obtain ⟨v, A, C, ev, r, _, _, _⟩ := e.split hi
  exact ⟨v, ev, Z, O, O1, O2, e, .s ev t, s1, s2, q, p⟩
/-- a name is frozen and read -/
theorem SR.freeze {i : Nat} {d : D} (h : SR K g B en rs σ vs H) (hi : en[i]? = some (some d)) : ∃ v, σ[i]? = some (some v) ∧ SR K g B (en.set i (some (frz d))) (.v (frz d) :: rs) σ (v :: vs) H := by
  obtain ⟨Z, O, O1, O2, e, t, s1, s2, q, p⟩ := h
  obtain ⟨v, A, C, ev, r, e', a1, a2⟩ := e.split hi
  have q' : Good B (fun a => Z a ∨ A a) (fun a => C a ∨ O2 a) H := q.frz (O1 := A) (fun a z => s1 a (a1 a z)) fun a z => by
    rcases z with z | z
    · exact ⟨s1 a (a2 a z).1, (a2 a z).2⟩
    · exact ⟨(s2 a z).1, fun y => (s2 a z).2 (a1 a y)⟩
  have kz : ∀ (X : AS), Keep Z X H H := fun X a x h _ => h
  have r' := r.frz (Z' := fun a => Z a ∨ A a) fun a z => z
  have e2 := RepE.put (O1 := AS.no) (e'.keep (Z' := fun a => Z a ∨ A a) (fun a z => .inl z) (kz _)) ev r' (fun _ z => z.elim) (fun _ z => ⟨z, id⟩)
  rw [List.set_set] at e2
  refine ⟨v, ev, _, _, C, O2, e2, .v (O1 := AS.no) (fun _ z => z.elim) (fun _ z => ⟨z, id⟩) r' (t.keep (fun a z => .inl z) (kz _)), fun b z => .inl z, fun b z => ⟨.inr z, fun y => (s2 b z).2 (a2 b y).1⟩, q', p⟩
/-- what is in flight is frozen -/
theorem SR.freezeT {d : D} {v : V} (h : SR K g B en (.v d :: rs) σ (v :: vs) H) : SR K g B en (.v (frz d) :: rs) σ (v :: vs) H := by
  obtain ⟨Z, O, O1, O2, e, t, s1, s2, q, p⟩ := h
  cases t with
  | @v _ A C _ _ _ _ a1 a2 r t =>
    have q' : Good B (fun a => Z a ∨ A a) (fun a => O1 a ∨ C a) H := q.frz (O1 := A) (fun a z => (s2 a (a1 a z)).1) fun a z => by
      rcases z with z | z
      · exact ⟨s1 a z, fun y => (s2 a (a1 a y)).2 z⟩
      · exact ⟨(s2 a (a2 a z).1).1, (a2 a z).2⟩
    have kz : ∀ (X : AS), Keep Z X H H := fun X a x h _ => h
    exact ⟨_, _, O1, C, e.keep (fun a z => .inl z) (kz _), .v (O1 := AS.no) (fun _ z => z.elim) (fun _ z => ⟨z, id⟩) (r.frz fun a z => z) (t.keep (fun a z => .inl z) (kz _)), fun b z => .inl z, fun b z => ⟨.inr z, (s2 b (a2 b z).1).2⟩, q', p⟩
/-- the value of what is in flight -/
def rv (en : En) : R → Option D
  | .v d => some d
  | .s i => (en[i]?).join
/-- what is in flight stands for its value -/
theorem SR.rep {r : R} {d : D} {v : V} (h : SR K g B en (r :: rs) σ (v :: vs) H) (hr : rv en r = some d) : ∃ Z O, Rep K g Z H d v O ∧ (∀ a, Z a → H a ≠ none) ∧ ∀ a, O a → ∃ x, H a = some x ∧ stat x = false := by
  obtain ⟨Z, O, O1, O2, e, t, s1, s2, q, p⟩ := h
  cases t with
  | v a1 a2 r t =>
    cases hr
    exact ⟨Z, _, r, q.trZ, fun a h => q.trO a (s2 a (a1 a h)).1⟩
  | @s _ i _ _ _ ev t =>
    have hi : en[i]? = some (some d) := by
      have hr' : (en[i]?).join = some d := hr
      cases z : en[i]? with
      | none => rw [z] at hr'; cases hr'
      | some o => rw [z] at hr'; rw [show o = some d from hr']
    obtain ⟨v', A, C, ev', r, _, b1, _⟩ := e.split hi
    rw [ev] at ev'
    cases ev'
    exact ⟨Z, A, r, q.trZ, fun a h => q.trO a (s1 a (b1 a h))⟩
/-- the order of what is in flight -/
theorem RepT.swap {Z : AS} {O : AS} {r1 r2 : R} {v1 v2 : V} (t : RepT K g Z H σ (r1 :: r2 :: rs) (v1 :: v2 :: vs) O) : RepT K g Z H σ (r2 :: r1 :: rs) (v2 :: v1 :: vs) O := by
  cases t with
  | @v _ A C _ _ _ _ a1 a2 r t =>
    cases t with
    | @v _ A' C' _ _ _ _ b1 b2 r' t =>
      refine .v (O1 := A') (O2 := fun b => A b ∨ C' b) (fun b z => (a2 b (b1 b z)).1) (fun b z => ?_) r' (.v (O1 := A) (O2 := C') (fun b z => .inl z) (fun b z => ⟨.inr z, fun y => (a2 b (b2 b z).1).2 y⟩) r t)
      rcases z with z | z
      · exact ⟨a1 b z, fun y => (a2 b (b1 b y)).2 z⟩
      · exact ⟨(a2 b (b2 b z).1).1, (b2 b z).2⟩
    | s e t => exact .s e (.v a1 a2 r t)
  | s e t =>
    cases t with
    | v b1 b2 r' t => exact .v b1 b2 r' (.s e t)
    | s e' t => exact .s e' (.s e t)
theorem SR.swap {r1 r2 : R} {v1 v2 : V} (h : SR K g B en (r1 :: r2 :: rs) σ (v1 :: v2 :: vs) H) : SR K g B en (r2 :: r1 :: rs) σ (v2 :: v1 :: vs) H := by
  obtain ⟨Z, O, O1, O2, e, t, s1, s2, q, p⟩ := h
  exact ⟨Z, O, O1, O2, e, t.swap, s1, s2, q, p⟩
theorem RepT.move {Z : AS} {r : R} {v : V} : ∀ {xs : List R} {us : List V} {O : AS}, xs.length = us.length → RepT K g Z H σ (xs ++ r :: rs) (us ++ v :: vs) O → RepT K g Z H σ (r :: (xs ++ rs)) (v :: (us ++ vs)) O
  | [], [], _, _, t => t
  | [], _ :: _, _, h, _ => by cases h
  | _ :: _, [], _, h, _ => by cases h
  | x :: xs, u :: us, O, h, t => by
    have hl : xs.length = us.length := by simpa using h
    refine RepT.swap ?_
    cases t with
    | v a1 a2 q t => exact .v a1 a2 q (RepT.move hl t)
    | s e t => exact .s e (RepT.move hl t)
theorem SR.move {r : R} {v : V} {xs : List R} {us : List V} (h : SR K g B en (xs ++ r :: rs) σ (us ++ v :: vs) H) (hl : xs.length = us.length) : SR K g B en (r :: (xs ++ rs)) σ (v :: (us ++ vs)) H := by
  obtain ⟨Z, O, O1, O2, e, t, s1, s2, q, p⟩ := h
  exact ⟨Z, O, O1, O2, e, t.move hl, s1, s2, q, p⟩
/-- values in flight, all at once -/
theorem RepT.vals {Z : AS} : ∀ {ds : List D} {us : List V} {O : AS}, RepT K g Z H σ (ds.map R.v ++ rs) (us ++ vs) O → ds.length = us.length → ∃ O1 O2, RepL K g Z H ds us O1 ∧ RepT K g Z H σ rs vs O2 ∧ (∀ b, O1 b → O b) ∧ ∀ b, O2 b → O b ∧ ¬ O1 b
  | [], [], O, t, _ => ⟨AS.no, O, .nil, t, fun _ z => z.elim, fun _ z => ⟨z, id⟩⟩
  | [], _ :: _, _, _, h => by cases h
  | _ :: _, [], _, _, h => by cases h
  | d :: ds, u :: us, O, t, h => by
    cases t with
    | @v _ A C _ _ _ _ a1 a2 r t =>
      obtain ⟨O1, O2, q1, q2, b1, b2⟩ := RepT.vals t (by simpa using h)
      refine ⟨fun b => A b ∨ O1 b, O2, .cons (O1 := A) (O2 := O1) (fun b z => .inl z) (fun b z => ⟨.inr z, (a2 b (b1 b z)).2⟩) r q1, q2, fun b z => ?_, fun b z => ⟨(a2 b (b2 b z).1).1, fun y => ?_⟩⟩
      · rcases z with z | z
        · exact a1 b z
        · exact (a2 b (b1 b z)).1
      · rcases y with y | y
        · exact (a2 b (b2 b z).1).2 y
        · exact (b2 b z).2 y
/-- a new object of the values in flight -/
theorem SR.tup {ds : List D} {us : List V} (h : SR K g B en (ds.map R.v ++ rs) σ (us ++ vs) H) (hl : ds.length = us.length) {p : Addr} (hp : H p = none) : SR K g B en (.v (.tup ds) :: rs) σ (.ref p :: vs) (upd H p (.tup us)) := by
  obtain ⟨Z, O, O1, O2, e, t, s1, s2, q, pi⟩ := h
  obtain ⟨A, C, r, t', a1, a2⟩ := t.vals hl
  exact ⟨Z, O, O1, O2, e.keep (fun _ z => z) (keep_new hp), .v (O1 := A) (O2 := C) a1 a2 (.tup (.inl (.inl upd_same)) (r.keep (fun _ z => z) (keep_new hp))) (t'.keep (fun _ z => z) (keep_new hp)), s1, s2, q.new hp, pi⟩
theorem SR.lst {ds : List D} {us : List V} (h : SR K g B en (ds.map R.v ++ rs) σ (us ++ vs) H) (hl : ds.length = us.length) {p : Addr} (hp : H p = none) : SR K g B en (.v (.lst true ds) :: rs) σ (.ref p :: vs) (upd H p (.lst us)) := by
  obtain ⟨Z, O, O1, O2, e, t, s1, s2, q, pi⟩ := h
  obtain ⟨A, C, r, t', a1, a2⟩ := t.vals hl
  have n := q.nonew hp
  refine ⟨Z, fun a => O a ∨ a = p, O1, fun a => O2 a ∨ a = p, e.keep (fun _ z => z) (keep_new hp), .v (O1 := fun a => A a ∨ a = p) (O2 := C) (fun b z => z.imp (a1 b) id) (fun b z => ⟨.inl (a2 b z).1, fun y => ?_⟩) (.lstO (O' := A) upd_same (.inr rfl) (fun b z => ⟨.inl z, fun y => n.1 (y ▸ (s2 b (a1 b z)).1)⟩) (r.keep (fun _ z => z) (keep_new hp))) (t'.keep (fun _ z => z) (keep_new hp)),
    fun b z => .inl (s1 b z), fun b z => ?_, q.newO hp rfl, pi⟩
  · rcases y with y | y
    · exact (a2 b z).2 y
    · exact n.1 (y ▸ (s2 b (a2 b z).1).1)
  · rcases z with z | z
    · exact ⟨.inl (s2 b z).1, (s2 b z).2⟩
    · exact ⟨.inr z, fun y => n.1 (z ▸ s1 b y)⟩
/-- a name gets what is in flight -/
theorem RepT.any {Z : AS} {σ' : Sg} : ∀ {ds : List D} {us : List V} {O : AS}, RepT K g Z H σ (ds.map R.v) us O → RepT K g Z H σ' (ds.map R.v) us O
  | [], _, _, t => by cases t; exact .nil
  | _ :: _, _, _, t => by
    cases t with
    | v a1 a2 r t => exact .v a1 a2 r (RepT.any t)
theorem SR.asg {ts : List D} {i : Nat} {d : D} {v : V} (h : SR K g B en (.v d :: ts.map R.v) σ (v :: vs) H) (hi : i < σ.length) (hp : ∀ p ∈ B.pin, p.1 ≠ i) : SR K g B (en.set i (some d)) (ts.map R.v) (σ.set i (some v)) vs H := by
  obtain ⟨Z, O, O1, O2, e, t, s1, s2, q, p⟩ := h
  cases t with
  | @v _ A C _ _ _ _ a1 a2 r t =>
    refine ⟨Z, O, fun b => O1 b ∨ A b, C, e.asg (O1 := A) hi r (fun b z => .inr z) (fun b z => ⟨.inl z, fun y => (s2 b (a1 b y)).2 z⟩), RepT.any t, fun b z => ?_, fun b z => ⟨(s2 b (a2 b z).1).1, fun y => ?_⟩, q, fun x hx => ?_⟩
    · rcases z with z | z
      · exact s1 b z
      · exact (s2 b (a1 b z)).1
    · rcases y with y | y
      · exact (s2 b (a2 b z).1).2 y
      · exact (a2 b z).2 y
    · rw [List.getElem?_set_ne (Ne.symm (hp x hx))]
      exact p x hx
theorem SR.off (h : SR K g B en rs σ vs H) (i : Nat) : SR K g B (en.set i none) rs σ vs H := by
  obtain ⟨Z, O, O1, O2, e, t, s1, s2, q, p⟩ := h
  exact ⟨Z, O, O1, O2, e.off i, t, s1, s2, q, p⟩
end
end Pf

/-! A small language, and what has to hold so that its run ends as wanted. -/
namespace Pf
open PySem PySem.Spec PyProof.Rows L2

/-- built-in functions upon values -/
inductive Bf where
  | len | int1 | abs | min2 | max2 | dvm | sum | maxL | minL | sorted | sortD | list1 | tuple1 | all1 | any1
  deriving DecidableEq
/-- methods that change a list -/
inductive Mm where
  | append | pop0 | pop1 | reverse | extend | insert | remove
  deriving DecidableEq
mutual
inductive E where
  | var (i : Nat) | fv (i : Nat) | int (n : Int) | bl (b : Bool) | non | str (x : String) | gint (x : String) (n : Int)
  | bin (op : Operator) (a b : E) | neg (a : E)
  | cmp (op : CmpOp) (a b : E) | oeq (c : String) (a b : E) | bop (isAnd : Bool) (es : Es) | nt (a : E) | ite (c a b : E)
  | tup (es : Es) | lst (es : Es)
  | idx (a b : E) | slc (a : E) (lo hi : Ox)
  | call (f : String) (es : Es) | blt (f : Bf) (es : Es) | isi (a : E) (ts : List String) | lrg (es : Es) | lset (a : E)
  | fld (a : E) (f : String) | meth (c m : String) (a : E) (es : Es) | new (c : String) (es : Es)
  | cm (c m : String) (es : Es) | newv (i : Nat) (c : String) (es : Es) | isc (a : E) (c : String) | cnt (a b : E)
  | mut (m : Mm) (i : Nat) (es : Es) | ice (a : E) | chn (o1 o2 : CmpOp) (a b c : E) | din (n : Bool) (a b : E)
  | lc (tg : List Nat) (src : Src) (cs : Es) (elt : E) | lc2 (tg : List Nat) (src : Src) (cs : Es) (tg1 : List Nat) (src1 : Src) (cs1 : Es) (elt : E)
inductive Es where
  | nil | cons (e : E) (es : Es)
inductive Ox where
  | no | so (e : E)
inductive Src where
  | it (e : E) | rng (es : Es) | rdn (es : Es) | rev (e : E)
end
/-- what an except suite reckons -/
inductive U where
  | int (n : Int) | bl (b : Bool) | non | str (x : String) | var (i : Nat) | fld (f : String) | tup (us : List U) | lst (us : List U)
inductive Su where
  | asg (i : Nat) (u : U) | ret (u : U) | pas
inductive Hs where
  | nil | cons (c : String) (i : Option Nat) (u : Su) (hs : Hs)
mutual
inductive S where
  | asg (i : Nat) (e : E) | asgT (is : List Nat) (e : E) | aug (i : Nat) (op : Operator) (e : E) | augL (i : Nat) (e : E) | put (i : Nat) (k e : E) | augI (i : Nat) (op : Operator) (k e : E) | setf (i : Nat) (f : String) (e : E)
  | expr (e : E) | ret (e : E) | retN | iff (c : E) (a b : Ss) | whl (c : E) (b : Ss) | forr (tg : List Nat) (src : Src) (b : Ss)
  | brk | cnt | pas | raise (c : String) (es : Es) | tri (b : Ss) (hs : Hs)
inductive Ss where
  | nil | cons (s : S) (ss : Ss)
end

def esLen : Es → Nat
  | .nil => 0
  | .cons _ es => esLen es + 1
/-! ### values -/
mutual
def deq : D → D → Bool
  | .non, .non => true
  | .bl a, .bl b => a == b
  | .bl a, .int j => (if a then 1 else 0) == j
  | .int i, .bl b => i == (if b then 1 else 0)
  | .int i, .int j => i == j
  | .str x, .str y => x == y
  | .lst _ xs, .lst _ ys => deqs xs ys
  | .tup xs, .tup ys => deqs xs ys
  | _, _ => false
def deqs : List D → List D → Bool
  | [], [] => true
  | x :: xs, y :: ys => deq x y && deqs xs ys
  | _, _ => false
end

mutual
def dat : Nat → D → Bool
  | _, .non => true
  | _, .bl _ => true
  | _, .int _ => true
  | _, .str x => PyData.strOk x
  | 0, _ => false
  | n + 1, .lst _ xs => dats n xs
  | n + 1, .tup xs => dats n xs
  | _, _ => false
def dats : Nat → List D → Bool
  | _, [] => true
  | n, d :: ds => dat n d && dats n ds
end
mutual
def toP : D → PyData
  | .non => .none
  | .bl b => .bool b
  | .int i => .int i
  | .str x => .str x
  | .tup xs => .tuple (toPs xs)
  | .lst _ xs => .list (toPs xs)
  | _ => .none
def toPs : List D → List PyData
  | [] => []
  | d :: ds => toP d :: toPs ds
end
/-- items that sorted() puts in some order: tuples of one form -/
def srtOk (xs : List D) : Prop := (fzs xs = true ∧ dats 60 xs = true) ∧ (∀ x ∈ xs, ∀ y ∈ xs, PySem.W.alike (toP x) (toP y) = true) ∧ ∀ x ∈ xs, ∃ d ds, x = .tup (d :: ds)
def flat : D → Bool
  | .non => true
  | .bl _ => true
  | .int _ => true
  | .str _ => true
  | _ => false
abbrev Wd := (D → Prop) → Prop
def addW : D → D → Wd
  | .int i, .int j, k => k (.int (i + j))
  | .str x, .str y, k => x.length + y.length ≤ 16777216 ∧ k (.str (x ++ y))
  | .lst _ xs, .lst _ ys, k => (fzs xs = true ∧ fzs ys = true ∧ xs.length + ys.length ≤ 16777216) ∧ k (.lst true (xs ++ ys))
  | .tup xs, .tup ys, k => (fzs xs = true ∧ fzs ys = true ∧ xs.length + ys.length ≤ 16777216) ∧ k (.tup (xs ++ ys))
  | _, _, _ => False
def subW : D → D → Wd
  | .int i, .int j, k => k (.int (i - j))
  | _, _, _ => False
def mulW : D → D → Wd
  | .int i, .int j, k => ((-(2 ^ 64) < i ∧ i < 2 ^ 64) ∨ (-(2 ^ 64) < j ∧ j < 2 ^ 64) ∨ i.natAbs.log2 + j.natAbs.log2 < 1000000) ∧ k (.int (i * j))
  | .lst _ xs, .int n, k => (fzs xs = true ∧ -(2 ^ 63) ≤ n ∧ n < 2 ^ 63 ∧ xs.length * n.toNat ≤ 16777216) ∧ k (.lst true (List.replicate n.toNat xs).flatten)
  | _, _, _ => False
def fdivW : D → D → Wd
  | .int i, .int j, k => (0 < j ∧ j.natAbs.log2 < 9000) ∧ k (.int (i / j))
  | _, _, _ => False
def modW : D → D → Wd
  | .int i, .int j, k => 0 < j ∧ k (.int (i % j))
  | _, _, _ => False
def powW : D → D → Wd
  | .int i, .int j, k => (0 ≤ j ∧ j ≤ 1000000 ∧ i.natAbs < 2 ^ 64) ∧ k (.int (i ^ j.toNat))
  | _, _, _ => False
def bopW : Operator → D → D → Wd
  | .Add => addW
  | .Sub => subW
  | .Mult => mulW
  | .FloorDiv => fdivW
  | .Mod => modW
  | .Pow => powW
  | _ => fun _ _ _ => False
def intW (p : Int → Int → Bool) : D → D → Wd
  | .int i, .int j, k => k (.bl (p i j))
  | _, _, _ => False
def eqW (n : Bool) (a b : D) : Wd := fun k => (dat 60 a = true ∧ dat 60 b = true) ∧ k (.bl (n ^^ deq a b))
def itms : D → Option (List D)
  | .lst _ xs => some xs
  | .tup xs => some xs
  | _ => none
def inW (n : Bool) (a b : D) : Wd := fun k => match itms b with
  | some xs => (flat a = true ∧ xs.all flat = true) ∧ k (.bl (n ^^ xs.any fun y => deq y a))
  | none => False
def isNon : D → Bool
  | .non => true
  | _ => false
def isW (n : Bool) : D → D → Wd
  | a, .non, k => k (.bl (n ^^ isNon a))
  | .bl a, .bl b, k => k (.bl (n ^^ decide (a = b)))
  | _, _, _ => False
def cmpW : CmpOp → D → D → Wd
  | .Lt => intW fun i j => decide (i < j)
  | .LtE => intW fun i j => decide (i ≤ j)
  | .Gt => intW fun i j => decide (j < i)
  | .GtE => intW fun i j => decide (j ≤ i)
  | .Eq => eqW false
  | .NotEq => eqW true
  | .In => inW false
  | .NotIn => inW true
  | .Is => isW false
  | .IsNot => isW true
def negW : D → Wd
  | .int i, k => k (.int (-i))
  | _, _ => False
def sortI (ns : List Int) : List Int := ns.mergeSort fun a b => decide (a ≤ b)
def ixW (a b : D) : Wd := fun k => match itms a, b with
  | some xs, .int i => ∃ d, atI xs i = some d ∧ k d
  | _, _ => False
def cutD (xs : List D) (lo hi : Option Int) : List D := (xs.drop (HT.sIx xs.length 0 lo)).take (HT.sIx xs.length xs.length hi - HT.sIx xs.length 0 lo)
def slW (lo hi : Option Int) : D → Wd
  | .lst _ xs, k => fzs xs = true ∧ k (.lst true (cutD xs lo hi))
  | .tup xs, k => fzs xs = true ∧ k (.tup (cutD xs lo hi))
  | _, _ => False
def lenW : D → Wd
  | .lst _ xs, k => k (.int xs.length)
  | .tup xs, k => k (.int xs.length)
  | .str x, k => x.length ≤ 16777216 ∧ k (.int x.length)
  | _, _ => False
def intsW (a : D) (f : List Int → Prop) : Prop := ∃ ns : List Int, itms a = some (ns.map .int) ∧ f ns
def isLst : D → Bool
  | .lst _ _ => true
  | _ => false
def bltW : Bf → List D → Wd
  | .len, [a], k => lenW a k
  | .int1, [.int i], k => k (.int i)
  | .int1, [.bl b], k => k (.int (if b then 1 else 0))
  | .abs, [.int i], k => k (.int (if i < 0 then -i else i))
  | .min2, [.int i, .int j], k => k (.int (if j < i then j else i))
  | .max2, [.int i, .int j], k => k (.int (if j > i then j else i))
  | .dvm, [.int i, .int j], k => (0 < j ∧ j.natAbs.log2 < 9000) ∧ k (.tup [.int (i / j), .int (i % j)])
  | .sum, [a], k => intsW a fun ns => k (.int ns.sum)
  | .maxL, [a], k => intsW a fun ns => ∃ m, (m ∈ ns ∧ ∀ y ∈ ns, y ≤ m) ∧ k (.int m)
  | .minL, [a], k => intsW a fun ns => ∃ m, (m ∈ ns ∧ ∀ y ∈ ns, m ≤ y) ∧ k (.int m)
  | .sorted, [a], k => intsW a fun ns => k (.lst true ((sortI ns).map .int))
  | .sortD, [a], k => isLst a = true ∧ ∃ xs, itms a = some xs ∧ srtOk xs ∧ ∀ ys, ys.Perm xs → k (.lst true ys)
  | .list1, [a], k => ∃ xs, itms a = some xs ∧ fzs xs = true ∧ k (.lst true xs)
  | .tuple1, [a], k => ∃ xs, itms a = some xs ∧ fzs xs = true ∧ k (.tup xs)
  | .all1, [a], k => isLst a = true ∧ ∃ bs : List Bool, itms a = some (bs.map .bl) ∧ k (.bl (bs.all id))
  | .any1, [a], k => isLst a = true ∧ ∃ bs : List Bool, itms a = some (bs.map .bl) ∧ k (.bl (bs.any id))
  | _, _, _ => False
/-- the built-in kinds that isinstance is asked for -/
def isiB : D → String → Bool
  | .non, _ => false
  | .bl _, t => t == "bool" || t == "int"
  | .int _, t => t == "int"
  | .str _, t => t == "str"
  | .tup _, t => t == "tuple"
  | .lst _ _, t => t == "list"
  | _, _ => false
def isiT : D → Bool
  | .ins _ _ _ _ => false
  | .cls _ => false
  | _ => true
/-- a changing method: the list's itms, the arguments, then the itms behind and the answer -/
def mutW : Mm → List D → List D → (List D → D → Prop) → Prop
  | .append, xs, [d], k => xs.length < 16777216 ∧ k (xs ++ [d]) .non
  | .pop0, xs, [], k => fzs xs = true ∧ ∃ d, xs[xs.length - 1]? = some d ∧ k xs.dropLast d
  | .pop1, xs, [.int i], k => (fzs xs = true ∧ xs.length ≤ 16777216) ∧ ∃ j d, ixN xs.length i = some j ∧ xs[j]? = some d ∧ k (xs.eraseIdx j) d
  | .reverse, xs, [], k => fzs xs = true ∧ k xs.reverse .non
  | .extend, xs, [.lst _ ys], k => (fzs xs = true ∧ fzs ys = true ∧ xs.length + ys.length ≤ 16777216) ∧ k (xs ++ ys) .non
  | .remove, xs, [.int n], k => ∃ ns : List Int, xs = ns.map .int ∧ n ∈ ns ∧ k ((ns.erase n).map .int) .non
  | .insert, xs, [.int i, d], k => (fzs xs = true ∧ fz d = true ∧ xs.length < 16777216 ∧ 0 ≤ i ∧ i < 2 ^ 63) ∧ k (xs.take i.toNat ++ [d] ++ xs.drop i.toNat) .non
  | _, _, _, _ => False
def rgL (a b : Int) : List D := (List.range (b - a).toNat).map fun (i : Nat) => D.int (a + i)

def rgD (a b : Int) : List D := (List.range (a - b).toNat).map fun (i : Nat) => D.int (a + i * (-1))
/-! ### the run -/
abbrev FSp := List D → (D → List (Option D) → Prop) → (String → List D → List (Option D) → Prop) → Prop
structure Gb where
  fns : String → Option FSp
  excs : String → Option (List Str)
  exm : String → String → Option Bool
  cints : String → Option Int
  mth : String → String → Option FSp := fun _ _ => none
  fok : Str → Str → Bool := fun _ _ => false
  cmt : String → String → Option FSp := fun _ _ => none
  isc : Str → Bool := fun _ => false
def takeA : En → List R → Option (List D × En)
  | en, [] => some ([], en)
  | en, .v d :: rs => (takeA en rs).map fun p => (d :: p.1, p.2)
  | en, .s i :: rs => match (en[i]?).join with
    | some d => (takeA (en.set i none) rs).map fun p => (d :: p.1, p.2)
    | none => none
def putA : En → List R → List (Option D) → En
  | en, .v _ :: rs, _ :: us => putA en rs us
  | en, .s i :: rs, u :: us => putA (en.set i u) rs us
  | en, _, _ => en
abbrev Xp := String → List D → En → Prop
def isS : R → Bool
  | .s _ => true
  | .v _ => false
def asR (e : E) (f : En → (D → En → Prop) → Xp → Prop) (en : En) (Q : R → En → Prop) (X : Xp) : Prop := match e with
  | .var i => (match (en[i]?).join with
    | some d => if fz d = true then Q (.v d) en else Q (.s i) en
    | none => False)
  | _ => f en (fun d en' => Q (.v d) en') X
def callW (F : Option FSp) (rs : List R) (en : En) (Q : D → En → Prop) (X : Xp) : Prop := match F, takeA en rs with
  | some F, some (ds, en2) => F ds (fun r us => Q r (putA en2 rs us)) (fun c fs us => X c fs (putA en2 rs us))
  | _, _ => False
/-- all that is in flight, told -/
def rvs (en : En) : List R → Option (List D)
  | [] => some []
  | r :: rs => match rv en r, rvs en rs with
    | some d, some ds => some (d :: ds)
    | _, _ => none
def setN : En → List Nat → List D → Option En
  | en, [], [] => some en
  | en, i :: is, d :: ds => setN (en.set i (some d)) is ds
  | _, _, _ => none
/-- the names of a target -/
def bindW (tg : List Nat) (d : D) (en : En) (Q : En → Prop) : Prop := match tg with
  | [i] => Q (en.set i (some d))
  | _ => ∃ ds en', d = .tup ds ∧ setN en tg ds = some en' ∧ Q en'
def offs : En → List Nat → En
  | en, [] => en
  | en, i :: is => offs (en.set i none) is
/-- a comprehension's turns -/
def lcW (tg : List Nat) (own : List Nat) (t : En → (Bool → En → Prop) → Prop) (f : En → (D → En → Prop) → Prop) : List D → En → List D → (D → En → Prop) → Prop
  | [], en, acc, Q => Q (.lst true acc) en
  | d :: ds, en, acc, Q => bindW tg d en fun e1 => t e1 fun b e2 => if b = true then f e2 (fun y e3 => acc.length < 16777216 ∧ lcW tg own t f ds (offs e3 own) (acc ++ [y]) Q) else lcW tg own t f ds (offs e2 own) acc Q
/-- two clauses: the inner turns -/
def lcI (tg : List Nat) (t : En → (Bool → En → Prop) → Prop) (f : En → (D → En → Prop) → Prop) (fin : En → List D → Prop) : List D → En → List D → Prop
  | [], en, acc => fin en acc
  | d :: ds, en, acc => bindW tg d en fun e1 => t e1 fun b e2 => if b = true then f e2 (fun y e3 => acc.length < 16777216 ∧ lcI tg t f fin ds (offs e3 tg) (acc ++ [y])) else lcI tg t f fin ds (offs e2 tg) acc
def lc2W (tg own : List Nat) (t : En → (Bool → En → Prop) → Prop) (s1 : En → (List D → En → Prop) → Prop) (tg1 : List Nat) (t1 : En → (Bool → En → Prop) → Prop) (f : En → (D → En → Prop) → Prop) : List D → En → List D → (D → En → Prop) → Prop
  | [], en, acc, Q => Q (.lst true acc) en
  | d :: ds, en, acc, Q => bindW tg d en fun e1 => t e1 fun b e2 => if b = true then s1 e2 (fun ds1 e3 => lcI tg1 t1 f (fun e4 acc' => lc2W tg own t s1 tg1 t1 f ds (offs e4 own) acc' Q) ds1 (offs e3 tg1) acc) else lc2W tg own t s1 tg1 t1 f ds (offs e2 own) acc Q
section
variable (G : Gb)
mutual
def ev : E → En → (D → En → Prop) → Xp → Prop
  | .var i, en, Q, _ => match (en[i]?).join with
    | some d => if fz d = true then Q d en else Q (frz d) (en.set i (some (frz d)))
    | none => False
  | .fv i, en, Q, _ => match (en[i]?).join with
    | some d => if fz d = true then Q d en else Q (frz d) (en.set i (some (frz d)))
    | none => False
  | .int n, en, Q, _ => Q (.int n) en
  | .bl b, en, Q, _ => Q (.bl b) en
  | .non, en, Q, _ => Q .non en
  | .str x, en, Q, _ => Q (.str (Str.ofString x)) en
  | .gint x n, en, Q, _ => G.cints x = some n ∧ Q (.int n) en
  | .bin op a b, en, Q, X => asR a (ev a) en (fun r1 e1 => asR b (ev b) e1 (fun r2 e2 => match rv e2 r1, rv e2 r2 with
    | some x, some y => bopW op x y fun d => Q d e2
    | _, _ => False) X) X
  | .neg a, en, Q, X => ev a en (fun x e1 => negW x fun d => Q d e1) X
  | .cmp op a b, en, Q, X => asR a (ev a) en (fun r1 e1 => asR b (ev b) e1 (fun r2 e2 => match rv e2 r1, rv e2 r2 with
    | some x, some y => cmpW op x y fun d => Q d e2
    | _, _ => False) X) X
  | .oeq c a b, en, Q, X => (G.mth c "__eq__").isSome = true ∧ asR a (ev a) en (fun r1 e1 => asR b (ev b) e1 (fun r2 e2 => ((∃ o ns fs, rv e2 r1 = some (.ins o (Str.ofString c) ns fs)) ∧ ∃ o ns fs, rv e2 r2 = some (.ins o (Str.ofString c) ns fs)) ∧ callW (G.mth c "__eq__") [r1, r2] e2 (fun d e3 => ∃ t, d = .bl t ∧ Q d e3) X) X) X
  | .bop c es, en, Q, X => evB c es en Q X
  | .chn o1 o2 a b c, en, Q, X => ev a en (fun x e1 => ev b e1 (fun y e2 => ∃ i j, x = .int i ∧ y = .int j ∧ cmpW o1 x y fun d => ∃ t, d = .bl t ∧ if t = true then ev c e2 (fun z e3 => ∃ l, z = .int l ∧ cmpW o2 y z fun d => Q d e3) X else Q (.bl false) e2) X) X
  | .din n a b, en, Q, X => asR a (ev a) en (fun r1 e1 => asR b (ev b) e1 (fun r2 e2 => match rv e2 r1, rv e2 r2 with
    | some x, some (.lst o ys) => (dat 60 x = true ∧ dat 60 (.lst o ys) = true) ∧ Q (.bl (n ^^ ys.any fun y => deq y x)) e2
    | _, _ => False) X) X
  | .ice a, en, Q, X => ev a en (fun x e1 => Q (frz x) e1) X
  | .nt a, en, Q, X => ev a en (fun x e1 => ∃ b, x = .bl b ∧ Q (.bl (!b)) e1) X
  | .ite c a b, en, Q, X => ev c en (fun x e1 => ∃ t, x = .bl t ∧ if t = true then ev a e1 Q X else ev b e1 Q X) X
  | .tup es, en, Q, X => evs es en (fun ds e1 => Q (.tup ds) e1) X
  | .lst es, en, Q, X => evs es en (fun ds e1 => Q (.lst true ds) e1) X
  | .idx a b, en, Q, X => asR a (ev a) en (fun r1 e1 => ev b e1 (fun y e2 => match rv e2 r1 with
    | some x => ixW x y fun d => (isS r1 = true → fz d = true) ∧ Q d e2
    | none => False) X) X
  | .slc a lo hi, en, Q, X => asR a (ev a) en (fun r1 e1 => evO lo e1 (fun l e2 => evO hi e2 (fun h e3 => match rv e3 r1 with
    | some x => slW l h x fun d => Q d e3
    | none => False) X) X) X
  | .call f es, en, Q, X => evr es en (fun rs e1 => callW (G.fns f) rs e1 Q X) X
  | .blt f es, en, Q, X => evr es en (fun rs e1 => match rvs e1 rs with
    | some ds => bltW f ds fun d => Q d e1
    | none => False) X
  | .isi a ts, en, Q, X => asR a (ev a) en (fun r e1 => match rv e1 r with
    | some x => isiT x = true ∧ Q (.bl (ts.any (isiB x))) e1
    | none => False) X
  | .lrg es, en, Q, X => evs es en (fun ds e1 => match ds with
    | [.int b] => (b ≤ 16777216 ∧ -16777216 ≤ b) ∧ Q (.lst true (rgL 0 b)) e1
    | [.int a, .int b] => (a ≤ 16777216 ∧ -16777216 ≤ a ∧ b ≤ 16777216 ∧ -16777216 ≤ b ∧ b - a ≤ 16777216) ∧ Q (.lst true (rgL a b)) e1
    | _ => False) X
  | .lset a, en, Q, X => asR a (ev a) en (fun r e1 => match rv e1 r with
    | some x => ∃ ns : List Int, itms x = some (ns.map .int) ∧ ns.length ≤ 4000 ∧ ∀ c : Nat, c ≤ ns.length → (c = ns.length ↔ ns.Nodup) → Q (.int c) e1
    | none => False) X
  | .fld a f, en, Q, X => asR a (ev a) en (fun r e1 => match rv e1 r with
    | some (.ins _ c ns fs) => G.fok c (Str.ofString f) = true ∧ ∃ d, (ns.zip fs).lookup (Str.ofString f) = some d ∧ (isS r = true → fz d = true) ∧ Q d e1
    | _ => False) X
  | .meth c m a es, en, Q, X => (G.mth c m).isSome = true ∧ asR a (ev a) en (fun r e1 => (∃ o ns fs, rv e1 r = some (.ins o (Str.ofString c) ns fs) ∧ ns.contains (Str.ofString m) = false) ∧ evr es e1 (fun rs e2 => callW (G.mth c m) (r :: rs) e2 Q X) X) X
  | .new c es, en, Q, X => (G.mth c "__init__").isSome = true ∧ evr es en (fun rs e1 => match G.mth c "__init__", takeA e1 rs with
    | some F, some (ds, en2) => F (.ins true (Str.ofString c) [] [] :: ds) (fun r us => r = .non ∧ ∃ d, us.head?.join = some d ∧ Q d (putA en2 rs us.tail)) (fun cn fs us => X cn fs (putA en2 rs us.tail))
    | _, _ => False) X
  | .cm c m es, en, Q, X => (G.cmt c m).isSome = true ∧ evr es en (fun rs e1 => callW (G.cmt c m) (.v (.cls (Str.ofString c)) :: rs) e1 Q X) X
  | .newv i c es, en, Q, X => ((en[i]?).join = some (.cls (Str.ofString c)) ∧ (G.mth c "__init__").isSome = true) ∧ evr es en (fun rs e1 => match G.mth c "__init__", takeA e1 rs with
    | some F, some (ds, en2) => F (.ins true (Str.ofString c) [] [] :: ds) (fun r us => r = .non ∧ ∃ d, us.head?.join = some d ∧ Q d (putA en2 rs us.tail)) (fun cn fs us => X cn fs (putA en2 rs us.tail))
    | _, _ => False) X
  | .isc a c, en, Q, X => G.isc (Str.ofString c) = true ∧ asR a (ev a) en (fun r e1 => match rv e1 r with
    | some (.ins _ c' _ _) => G.isc c' = true ∧ Q (.bl (c' == Str.ofString c)) e1
    | some x => isiT x = true ∧ Q (.bl false) e1
    | none => False) X
  | .cnt a b, en, Q, X => asR a (ev a) en (fun r1 e1 => (∃ x, rv e1 r1 = some x ∧ isLst x = true) ∧ ev b e1 (fun y e2 => match rv e2 r1, y with
    | some x, .int n => isLst x = true ∧ ∃ ns : List Int, itms x = some (ns.map .int) ∧ Q (.int (ns.count n : Nat)) e2
    | _, _ => False) X) X
  | .mut m i es, en, Q, X => (∃ ws, (en[i]?).join = some (.lst true ws)) ∧ evs es en (fun ds e1 => match (e1[i]?).join with
    | some (.lst true xs) => mutW m xs ds fun ys d => Q d (e1.set i (some (.lst true ys)))
    | _ => False) X
  | .lc tg src cs elt, en, Q, X => evSrc src en (fun ds e1 => lcW tg tg (fun e2 K => evTs cs e2 K X) (fun e2 K => ev elt e2 K (fun _ _ _ => False)) ds (offs e1 tg) [] Q) X
  | .lc2 tg src cs tg1 src1 cs1 elt, en, Q, X => evSrc src en (fun ds e1 => lc2W tg (tg ++ tg1) (fun e2 K => evTs cs e2 K X) (fun e2 K => evSrc src1 e2 K (fun _ _ _ => False)) tg1 (fun e2 K => evTs cs1 e2 K X) (fun e2 K => ev elt e2 K (fun _ _ _ => False)) ds (offs e1 (tg ++ tg1)) [] Q) X
def evB : Bool → Es → En → (D → En → Prop) → Xp → Prop
  | _, .nil, _, _, _ => False
  | c, .cons a es, en, Q, X => match es with
    | .nil => ev a en Q X
    | _ => ev a en (fun x e1 => ∃ b, x = .bl b ∧ if b = c then evB c es e1 Q X else Q (.bl (!c)) e1) X
def evs : Es → En → (List D → En → Prop) → Xp → Prop
  | .nil, en, Q, _ => Q [] en
  | .cons a es, en, Q, X => ev a en (fun d e1 => evs es e1 (fun ds e2 => Q (d :: ds) e2) X) X
def evr : Es → En → (List R → En → Prop) → Xp → Prop
  | .nil, en, Q, _ => Q [] en
  | .cons a es, en, Q, X => asR a (ev a) en (fun d e1 => evr es e1 (fun ds e2 => Q (d :: ds) e2) X) X
/-- a clause's tests: none or one -/
def evTs : Es → En → (Bool → En → Prop) → Xp → Prop
  | .nil, en, Q, _ => Q true en
  | .cons a _, en, Q, X => ev a en (fun d e1 => ∃ b, d = .bl b ∧ Q b e1) (fun _ _ _ => False)
def evO : Ox → En → (Option Int → En → Prop) → Xp → Prop
  | .no, en, Q, _ => Q none en
  | .so e, en, Q, X => ev e en (fun d e1 => ∃ i, d = .int i ∧ Q (some i) e1) X
def evSrc : Src → En → (List D → En → Prop) → Xp → Prop
  | .it e, en, Q, X => ev e en (fun d e1 => ∃ xs, itms d = some xs ∧ Q (frzs xs) e1) X
  | .rng es, en, Q, X => evs es en (fun ds e1 => match ds with
    | [.int b] => (-(2 ^ 62) ≤ b ∧ b < 2 ^ 62) ∧ Q (rgL 0 b) e1
    | [.int a, .int b] => (-(2 ^ 62) ≤ a ∧ a < 2 ^ 62 ∧ -(2 ^ 62) ≤ b ∧ b < 2 ^ 62) ∧ Q (rgL a b) e1
    | _ => False) X
  | .rdn es, en, Q, X => evs es en (fun ds e1 => match ds with
    | [.int a, .int b, .int c] => (c = -1 ∧ -(2 ^ 62) ≤ a ∧ a < 2 ^ 62 ∧ -(2 ^ 62) ≤ b ∧ b < 2 ^ 62) ∧ Q (rgD a b) e1
    | _ => False) X
  | .rev e, en, Q, X => ev e en (fun d e1 => ∃ xs, itms d = some xs ∧ Q (frzs xs).reverse e1) X
end
structure Pt where
  nx : En → Prop
  rt : D → En → Prop
  bk : En → Prop := fun _ => False
  ct : En → Prop := fun _ => False
  ex : Xp
/-- so many turns at most -/
def whW (c : En → (Bool → En → Prop) → Prop) (b : En → (En → Prop) → Prop) (fin : En → Prop) : Nat → En → Prop
  | 0, _ => False
  | n + 1, en => c en fun t e1 => if t = true then b e1 (whW c b fin n) else fin e1
def frW (tg : List Nat) (b : En → (En → Prop) → Prop) (fin : En → Prop) : List D → En → Prop
  | [], en => fin en
  | d :: ds, en => bindW tg d en fun e1 => b e1 (frW tg b fin ds)
mutual
/-- a suite's value, with the error's own fields -/
def uv (ns : List Str) (fs : List D) (en : En) : U → (D → Prop) → Prop
  | .int n, k => k (.int n)
  | .bl b, k => k (.bl b)
  | .non, k => k .non
  | .str x, k => k (.str (Str.ofString x))
  | .var i, k => match (en[i]?).join with
    | some d => fz d = true ∧ k d
    | none => False
  | .fld f, k => ∃ (j : Nat) (d : D), ns[j]? = some (Str.ofString f) ∧ fs[j]? = some d ∧ k d
  | .tup us, k => uvs ns fs en us fun ds => k (.tup ds)
  | .lst us, k => uvs ns fs en us fun ds => k (.lst true ds)
def uvs (ns : List Str) (fs : List D) (en : En) : List U → (List D → Prop) → Prop
  | [], k => k []
  | u :: us, k => uv ns fs en u fun d => uvs ns fs en us fun ds => k (d :: ds)
end
def offO (en : En) : Option Nat → En
  | some i => en.set i none
  | none => en
def hnd : Hs → String → List D → En → Pt → Prop
  | .nil, c, fs, en, P => P.ex c fs en
  | .cons c' io u hs, c, fs, en, P => match G.exm c c', G.excs c with
    | some true, some ns => (match u with
      | .asg i x => io ≠ some i ∧ uv ns fs (offO en io) x fun d => P.nx ((offO en io).set i (some d))
      | .ret x => uv ns fs (offO en io) x fun d => P.rt d (offO en io)
      | .pas => P.nx (offO en io))
    | some false, some _ => hnd hs c fs en P
    | _, _ => False
mutual
def run : S → En → Pt → Prop
  | .asg i e, en, P => ev G e en (fun d e1 => P.nx (e1.set i (some d))) P.ex
  | .asgT is e, en, P => ev G e en (fun d e1 => ∃ ds e2, d = .tup ds ∧ setN e1 is ds = some e2 ∧ P.nx e2) P.ex
  | .aug i op e, en, P => (∃ d0, (en[i]?).join = some d0) ∧ ev G e en (fun y e1 => match (e1[i]?).join with
    | some (.int x) => (match op with
      | .Add => ∃ j, y = .int j ∧ P.nx (e1.set i (some (.int (x + j))))
      | .Sub => ∃ j, y = .int j ∧ P.nx (e1.set i (some (.int (x - j))))
      | _ => False)
    | _ => False) P.ex
  | .augL i e, en, P => (∃ ws, (en[i]?).join = some (.lst true ws)) ∧ ev G e en (fun y e1 => match (e1[i]?).join, y with
    | some (.lst true xs), .lst _ ys => (fzs xs = true ∧ fzs ys = true ∧ xs.length + ys.length ≤ 16777216) ∧ P.nx (e1.set i (some (.lst true (xs ++ ys))))
    | _, _ => False) P.ex
  | .put i k e, en, P => ev G e en (fun d e1 => (∃ ws, (e1[i]?).join = some (.lst true ws)) ∧ ev G k e1 (fun x e2 => match (e2[i]?).join, x with
    | some (.lst true xs), .int z => ∃ j, ixN xs.length z = some j ∧ P.nx (e2.set i (some (.lst true (xs.set j d))))
    | _, _ => False) P.ex) P.ex
  | .setf i f e, en, P => ev G e en (fun d e1 => match (e1[i]?).join with
    | some (.ins true c ns fs) => G.fok c (Str.ofString f) = true ∧ ns.contains (Str.ofString f) = false ∧ ns.length < 900 ∧ P.nx (e1.set i (some (.ins true c (ns ++ [Str.ofString f]) (fs ++ [d]))))
    | _ => False) P.ex
  | .augI i op k e, en, P => (∃ ws, (en[i]?).join = some (.lst true ws)) ∧ ev G k en (fun x e1 => match (e1[i]?).join, x with
    | some (.lst true xs), .int z => ∃ j x0, ixN xs.length z = some j ∧ xs[j]? = some (.int x0) ∧ ev G e e1 (fun y e2 => match (e2[i]?).join, y with
      | some (.lst true ys), .int y => ∃ j2, ixN ys.length z = some j2 ∧ (match op with
        | .Add => P.nx (e2.set i (some (.lst true (ys.set j2 (.int (x0 + y))))))
        | .Sub => P.nx (e2.set i (some (.lst true (ys.set j2 (.int (x0 - y))))))
        | _ => False)
      | _, _ => False) P.ex
    | _, _ => False) P.ex
  | .expr e, en, P => ev G e en (fun _ e1 => P.nx e1) P.ex
  | .ret e, en, P => (match e with
    | .var i => (match (en[i]?).join with
      | some d => if fz d = true then P.rt d en else P.rt d (en.set i none)
      | none => False)
    | e => ev G e en P.rt P.ex)
  | .retN, en, P => P.rt .non en
  | .iff c a b, en, P => ev G c en (fun d e1 => ∃ t, d = .bl t ∧ if t = true then runs a e1 P else runs b e1 P) P.ex
  | .whl c b, en, P => ∃ n, whW (fun e1 K => ev G c e1 (fun d e2 => ∃ t, d = .bl t ∧ K t e2) P.ex) (fun e1 K => runs b e1 { P with nx := K, ct := K, bk := P.nx }) P.nx n en
  | .forr tg src b, en, P => evSrc G src en (fun ds e1 => frW tg (fun e2 K => runs b e2 { P with nx := K, ct := K, bk := P.nx }) P.nx ds e1) P.ex
  | .brk, en, P => P.bk en
  | .cnt, en, P => P.ct en
  | .pas, en, P => P.nx en
  | .raise c es, en, P => evs G es en (fun ds e1 => (∃ ns, G.excs c = some ns ∧ ns.length = ds.length) ∧ P.ex c (frzs ds) e1) P.ex
  | .tri b hs, en, P => runs b en { P with ex := fun c fs e1 => hnd G hs c fs e1 P }
def runs : Ss → En → Pt → Prop
  | .nil, en, P => P.nx en
  | .cons s ss, en, P => match ss with
    | .nil => run s en P
    | _ => run s en { P with nx := fun e1 => runs ss e1 P }
end
end
end Pf

/-! Operators and built-ins, by values. -/
namespace Pf
open PySem PySem.Spec PyProof.Rows L2

theorem or2 {X : Cx} {f : Value → Value → Sem Value} {r r' : R2} (h : OpR X f r) (h' : OpR X f r') : OpR X f (fun x y H Q => r x y H Q ∨ r' x y H Q) := by
  intro pins s σ H x y v u Q I rx ry q
  rcases q with q | q
  · exact h pins s σ H x y v u Q I rx ry q
  · exact h' pins s σ H x y v u Q I rx ry q
theorem orC {X : Cx} {f : Value} {r r' : List V → Hp → VK → Prop} (h : CallR X f r) (h' : CallR X f r') : CallR X f (fun x H Q => r x H Q ∨ r' x H Q) := by
  intro pins s σ H vs us Q I rx q
  rcases q with q | q
  · exact h pins s σ H vs us Q I rx q
  · exact h' pins s σ H vs us Q I rx q
theorem ofNever {X : Cx} {f : Value → Value → Sem Value} : OpR X f (fun _ _ _ _ => False) := fun _ _ _ _ _ _ _ _ _ _ _ _ h => h.elim
theorem Rd.lst {X : Cx} {pins : List (Addr × Obj)} {σ : L2.St} {H : Hp} {s : Shared} {l : Addr} {xs : List V} (I : Inv X pins σ H s) (h : Rd H l (.lst xs)) :
    xs.length ≤ sizeLine ∧ ∃ (its : List Value) (n : Nat), Vals xs its ∧ s.heap.get? l = some { cls := .type "list", data := .seq its.toArray n } := by
  obtain ⟨z, its, n, r, e⟩ := h.ok I.hok
  exact ⟨z, its, n, r, e⟩

section
variable {X : Cx}
/-- list + list -/
def rCatL : R2 := fun x y H Q => ∃ l b xs zs, x = .ref l ∧ y = .ref b ∧ Rd H l (.lst xs) ∧ Rd H b (.lst zs) ∧ xs.length + zs.length ≤ sizeLine ∧ ∀ p, H p = none → Q (.ref p) (upd H p (.lst (xs ++ zs)))
theorem op_catL : OpR X (binaryOp .Add) rCatL := by
  intro pins s σ H x y v u Q I rx ry h
  obtain ⟨l, b, xs, zs, rfl, rfl, h1, h2, hz, q⟩ := h
  cases rx
  cases ry
  obtain ⟨z, us, n, r, e⟩ := Rd.lst I h1
  obtain ⟨z', ws, n', r', e'⟩ := Rd.lst I h2
  have l1 := r.length
  have l2 := r'.length
  refine PySem.P.add_list e e' ?_ (by simp only [List.size_toArray]; omega)
  rw [show us.toArray ++ ws.toArray = (us ++ ws).toArray by simp]
  exact ⟨.ref _, _, I.lnew (t' := s.toks) (r.append r') (by rw [List.length_append]; omega), rfl, q _ I.fresh⟩
/-- list * int -/
def rRepL : R2 := fun x y H Q => ∃ l k xs, x = .ref l ∧ y = .int k ∧ Rd H l (.lst xs) ∧ -(2 ^ 63) ≤ k ∧ k < 2 ^ 63 ∧ xs.length * k.toNat ≤ sizeLine ∧ ∀ p, H p = none → Q (.ref p) (upd H p (.lst (List.replicate k.toNat xs).flatten))
theorem op_repL : OpR X (binaryOp .Mult) rRepL := by
  intro pins s σ H x y v u Q I rx ry h
  obtain ⟨l, k, xs, rfl, rfl, hH, h1, h2, hz, q⟩ := h
  cases rx
  obtain ⟨tk, rfl⟩ := ry
  obtain ⟨z, us, n, r, e⟩ := Rd.lst I hH
  have hl := r.length
  have c1 : ¬ (!Builtin.List.listFitsIndex k) = true := by
    rw [fitsIndex_both h1 h2]
    simp
  have hle : us.toArray.size * k.toNat ≤ sizeLine := by
    rw [List.size_toArray, ← hl]
    exact hz
  have c2 : ¬ us.toArray.size * k.toNat > (2 ^ 63 - 1) / 8 := by
    have big : (sizeLine : Nat) ≤ (2 ^ 63 - 1) / 8 := by decide
    omega
  have c3 : ¬ Builtin.List.listTooLong (us.toArray.size * k.toNat) = true := by
    rw [notLongL hle]
    simp
  have fl : ∀ m : Nat, List.foldl (fun x1 x2 => x1 ++ x2) #[] (List.replicate m us.toArray) = (List.replicate m us).flatten.toArray := fun m => by
    have z := foldl_rep us m []
    rw [List.nil_append] at z
    exact z
  have fin : List.foldl (fun x1 x2 => x1 ++ x2) #[] (List.replicate (if us.toArray.isEmpty = true then 0 else k.toNat) us.toArray) = (List.replicate k.toNat us).flatten.toArray := by
    rw [fl]
    cases us with
    | nil => simp
    | cons a r' => rw [if_neg (by simp)]
  refine wpAny_binaryOp_repeat_ref (T := "list") (U := "int") (by decide) ⟨_, e, rfl⟩ (fun s' => typeIs_int s' k tk) noFill_list_mul F.fills_int_mul F.slot_int_rmul repeat_list F.slot_int_index.lookup (call_meets F.slot_int_rmul (typeIs_int s k tk)
    F.entry_int_rmul (F.args_int_rmul_2 _ _) (int___rmul___int_list k tk l us.toArray n) ⟨e, rfl, ⟨_, e, rfl⟩, call_meets F.slot_list_mul ⟨_, e, rfl⟩ F.entry_list_mul (F.args_list_mul_2 _ _) (AutoListH.list___mul___list_int_3 l us.toArray n k tk c1 c2 c3) ⟨e, ?_⟩⟩)
  rw [fin]
  exact ⟨.ref _, _, I.lnew (t' := s.toks) (r.rep k.toNat) (by rw [PyProof.Rows.lm_len_rep_flat, Nat.mul_comm]; exact hz), rfl, q _ I.fresh⟩
def rAdd : R2 := rI0 fun i j => .int (i + j)
def rAddS : R2 := fun x y H Q => ∃ i j, x = .str i ∧ y = .str j ∧ i.length + j.length ≤ sizeLine ∧ Q (.str (i ++ j)) H
def rMulAll : R2 := fun x y H Q => rI CMul (fun i j => .int (i * j)) x y H Q ∨ rI CMulW (fun i j => .int (i * j)) x y H Q
def rBin (K : PySem.W.Frag) : Operator → R2
  | .Add => fun x y H Q => ((rAdd x y H Q ∨ rAddS x y H Q) ∨ rCatL x y H Q) ∨ rCatA K x y H Q
  | .Sub => rI0 fun i j => .int (i - j)
  | .Mult => fun x y H Q => (rI CMul (fun i j => .int (i * j)) x y H Q ∨ rI CMulW (fun i j => .int (i * j)) x y H Q) ∨ rRepL x y H Q
  | .FloorDiv => rI CDivW fun i j => .int (i / j)
  | .Mod => rI (fun _ j => 0 < j) fun i j => .int (i % j)
  | .Pow => rI CPow fun i j => .int (i ^ j.toNat)
  | _ => fun _ _ _ _ => False
theorem op_bin : ∀ op : Operator, OpR X (binaryOp op) (rBin X.K op)
  | .Add => or2 (or2 (or2 op_add op_add_str) op_catL) op_catA
  | .Sub => op_sub
  | .Mult => or2 (or2 op_mul op_mulW) op_repL
  | .FloorDiv => op_fdivW
  | .Mod => op_mod
  | .Pow => op_pow
  | .MatMult => ofNever
  | .Div => ofNever
  | .LShift => ofNever
  | .RShift => ofNever
  | .BitOr => ofNever
  | .BitXor => ofNever
  | .BitAnd => ofNever
def rCmp (K : PySem.W.Frag) : CmpOp → R2
  | .Lt => rI0 fun i j => .bl (decide (i < j))
  | .LtE => rI0 fun i j => .bl (decide (i ≤ j))
  | .Gt => rI0 fun i j => .bl (decide (j < i))
  | .GtE => rI0 fun i j => .bl (decide (j ≤ i))
  | .Eq => rEqD K
  | .NotEq => rNeD K
  | .In => rIn K false
  | .NotIn => rIn K true
  | .Is => fun x y H Q => (y = .non ∧ Q (.bl (decide (x = .non))) H) ∨ rIsB x y H Q
  | .IsNot => fun x y H Q => (y = .non ∧ Q (.bl (!decide (x = .non))) H) ∨ rNotB x y H Q
theorem op_cmp (hu : X.A.units + 64 < cLine) : ∀ op : CmpOp, OpR X (compareOp op) (rCmp X.K op)
  | .Lt => op_lt
  | .LtE => op_le
  | .Gt => op_gt
  | .GtE => op_ge
  | .Eq => op_eqD hu
  | .NotEq => op_neD hu
  | .In => op_in_seq
  | .NotIn => op_notIn_seq
  | .Is => or2 op_isN op_isBl
  | .IsNot => or2 op_notN op_notBl

/-! ### sorted of a tuple -/
end
end Pf
namespace PyProof.Rows
open PySem
section
variable {prog : Program} {w : World} {A : Around} {E : Value → Shared → Prop} {s : Shared}
theorem pf_collect {l : Addr} {vs : List Value} {Q : List Value → Shared → Prop} (hl : s.heap.IsTuple l vs.toArray) (hz : vs.length ≤ sizeLine)
    (h : Q vs { s with heap := (s.heap.push (seqObj "list" #[] 0)).update s.heap.objs.size (Obj.mapSeq (· ++ vs.toArray)) }) :
    wpAny (model prog w) A (collect (.ref l)) Q E s := by
  obtain ⟨ot, gt, ct, nt, dt⟩ := id hl
  unfold collect
  refine wpAny_bind (wpAny_runValue (codeAny_builtin entry_proto_collect' ?_))
  show wpAny _ _ (do again (.builtin "list.__iadd__" ⟨[← newList [], .ref l], []⟩)) _ _ s
  refine wpAny_bind (wpAny_newList (wpAny_pure ⟨Code.quiet_builtin _ (by decide +kernel), codeAny_builtin entry_list_iadd' ?_⟩))
  show wpAny _ _ (Builtin.List.listExtendWith (.ref s.heap.objs.size) (.ref l) (.ref s.heap.objs.size)) _ _ { s with heap := s.heap.push (seqObj "list" #[] 0) }
  unfold Builtin.List.listExtendWith
  have g2 : (s.heap.push (seqObj "list" #[] 0)).get? l = some ot := Heap.get?_push_of_some _ gt
  refine wpAny_bind (wpAny_typeOf (T := "tuple") ⟨ot, g2, ct⟩ ?_)
  have tt : (Value.type "tuple" == Value.type "tuple") = true := by rfl
  rw [if_pos (by rw [tt, Bool.or_true])]
  refine wpAny_bind (listItems_at g2 dt ?_)
  refine wpAny_bind (listItems_at (xs := #[]) (n := 0) (Heap.get?_push_size _ rfl) rfl ?_)
  rw [if_neg (by simp)]
  have sz : ((#[] : Array Value) ++ vs.toArray).size ≤ sizeLine + 1 := by
    simp only [Array.size_append, List.size_toArray, List.length_nil]
    omega
  refine wpAny_bind (listUpdate_at (xs := #[]) (n := 0) (Heap.get?_push_size _ rfl) rfl ?_ (Nat.zero_le _) sz)
  refine wpAny_pure ?_
  show wpAny (model prog w) A (do
      let o ← load s.heap.objs.size
      match o.data with
      | .seq xs _ => pure xs.toList
      | _ => unsupported "internal:collect") Q E { s with heap := (s.heap.push (seqObj "list" #[] 0)).update s.heap.objs.size (Obj.mapSeq (· ++ vs.toArray)) }
  refine wpAny_bind (wpAny_load (get?_update_seq (Heap.get?_push_size _ rfl) _) ?_)
  have ee : ((#[] : Array Value) ++ vs.toArray).toList = vs := by simp
  show wpAny _ _ (pure ((#[] : Array Value) ++ vs.toArray).toList) Q E _
  rw [ee]
  exact wpAny_pure h
theorem pf_sorted {l : Addr} {vs : List Value} {ltv : Value → Value → Bool} {Q : Value → Shared → Prop} (O : SrtO.Swo ltv) (hl : s.heap.IsTuple l vs.toArray) (hz : vs.length ≤ sizeLine)
    (hS : 2 ≤ vs.length → ∀ (h' : Heap) (a : Addr), h'.get? a = some (seqObj "list" vs.toArray 0) → (∀ b o, s.heap.get? b = some o → b ≠ a ∧ h'.get? b = some o) → SrtO.SortableO prog w A.in1.in1 { s with heap := h' } a vs ltv)
    (h : ∀ out : List Value, SrtO.Srtd ltv out → SrtO.Stb ltv out vs → Q (.ref (s.heap.objs.size + 1)) { s with heap := sortedAll s.heap vs out.toArray }) :
    wpAny (model prog w) A (call (.builtin "sorted") [.ref l]) Q E s := by
  refine Calls.call_function_entry kind_sorted plain_sorted entry_sorted (args_sorted1 _) ?_
  unfold Builtin.«sorted»
  refine wpAny_bind (m := checkCount "sorted" 1 1 _) (wpAny_pure ?_)
  refine wpAny_bind (pf_collect hl hz ?_)
  refine wpAny_bind (wpAny_newList ?_ hz)
  have n1 : ((s.heap.push (seqObj "list" #[] 0)).update s.heap.objs.size (Obj.mapSeq (· ++ vs.toArray))).objs.size = s.heap.objs.size + 1 := by
    rw [Heap.size_update, size_push']
  have at1 : (((s.heap.push (seqObj "list" #[] 0)).update s.heap.objs.size (Obj.mapSeq (· ++ vs.toArray))).push (seqObj "list" vs.toArray 0)).get? (s.heap.objs.size + 1) = some (seqObj "list" vs.toArray 0) := by
    rw [← n1]
    exact Heap.get?_push_size _ rfl
  have old : ∀ b o, s.heap.get? b = some o → b ≠ s.heap.objs.size + 1 ∧ (((s.heap.push (seqObj "list" #[] 0)).update s.heap.objs.size (Obj.mapSeq (· ++ vs.toArray))).push (seqObj "list" vs.toArray 0)).get? b = some o := fun b o q => by
    have lt := Heap.lt_size q
    refine ⟨Nat.ne_of_lt (Nat.lt_succ_of_lt lt), Heap.get?_push_of_some _ ?_⟩
    rw [Heap.get?_update_ne _ _ _ _ (Nat.ne_of_lt lt)]
    exact Heap.get?_push_of_some _ q
  show wpAny _ _ _ _ _ { s with heap := ((s.heap.push (seqObj "list" #[] 0)).update s.heap.objs.size (Obj.mapSeq (· ++ vs.toArray))).push (seqObj "list" vs.toArray 0) }
  rw [n1]
  refine wpAny_bind (wpAny_holding (wpAny_call_entry slot_list_sort ⟨_, at1, rfl⟩ entry_list_sort (SrtO.list_sort_ord O at1 hz (fun h2 => hS h2 _ _ at1 old) fun out hs hb => ⟨_, rfl, ?_⟩) (args_list_sort _)))
  exact wpAny_pure ⟨_, rfl, h out hs hb⟩
end
end PyProof.Rows
namespace Pf
open PySem PySem.Spec PyProof.Rows L2
section
variable {X : Cx}
def rSrtT (K : PySem.W.Frag) : List V → Hp → VK → Prop := fun vs H Q => ∃ (a : Addr) (ns : List Int), vs = [V.ref a] ∧ SqT K H a (ns.map V.int) ∧
  ∀ (ns' : List Int) (p : Addr), ns'.Perm ns → ns'.Pairwise (· ≤ ·) → H p = none → Q (.ref p) (upd H p (.lst (ns'.map V.int)))
theorem cr_srtT : CallR X (.builtin "sorted") (rSrtT X.K) := by
  intro pins s σ H vs us Q I r h
  obtain ⟨a, ns, rfl, hs, q⟩ := h
  obtain ⟨its, rv, hl, hz⟩ := I.tuple hs
  rw [Vals.ref1 r]
  have hi := rv.ints
  refine pf_sorted SrtO.swo_int hl (by rw [← rv.length]; exact hz) (fun h2 h₁ a' _ _ => SrtO.ints_sortable hi h2) fun out h1 h2 => ?_
  obtain ⟨k1, k2, k3⟩ := SrtO.ints_out hi h1 h2
  obtain ⟨ep, he'⟩ := PyProof.Rows.sortedAll_at s.heap its out.toArray
  have hlen : ((out.map SrtO.iv).map V.int).length ≤ sizeLine := by
    have e := k2.length_eq
    simp only [List.length_map] at hz e ⊢
    omega
  exact ⟨.ref _, upd H (s.heap.objs.size + 1) (.lst ((out.map SrtO.iv).map V.int)), I.laid (t' := s.toks) (fun _ _ => PyProof.Rows.sortedAll_old) (Nat.le_succ _) ⟨hlen, out, ep, vals_of_ints k1, he'⟩, rfl, q _ _ k2 k3 (I.hok.fresh (Nat.le_succ _))⟩
theorem dpAll_len {K : PySem.W.Frag} {H : Hp} : ∀ {xs : List V} {ds : List PyData}, DpAll K H xs ds → xs.length = ds.length
  | _, _, .nil => rfl
  | _, _, .cons _ t => by rw [List.length_cons, List.length_cons, dpAll_len t]
theorem dpAll_e1 {K : PySem.W.Frag} {H : Hp} : ∀ {xs : List V} {its : List Value} {ds : List PyData}, Vals xs its → DpAll K H xs ds → PySem.W.EachIs (fun (v : Value) (b : V × PyData) => RelV b.1 v) its (xs.zip ds)
  | _, _, _, .nil, _ => .nil
  | _, _, _, .cons rx rv, .cons _ t => .cons rx (dpAll_e1 rv t)
theorem dpAll_e2 {pins : List (Addr × Obj)} {σ : L2.St} {H : Hp} {s : Shared} (I : Inv X pins σ H s) : ∀ {xs : List V} {its : List Value} {ds : List PyData}, Vals xs its → DpAll X.K H xs ds → PySem.W.EachIs (fun (v : Value) (b : V × PyData) => ∃ as, Reads s.heap v b.2 as) its (xs.zip ds)
  | _, _, _, .nil, _ => .nil
  | _, _, _, .cons rx rv, .cons h t => .cons (Dp.reads I _ _ _ h rx) (dpAll_e2 I rv t)
theorem each_fst : ∀ {os : List Value} {bs : List (V × PyData)}, PySem.W.EachIs (fun (v : Value) (b : V × PyData) => RelV b.1 v) os bs → Vals (bs.map Prod.fst) os
  | _, _, .nil => .nil
  | _, _, .cons h t => .cons h (each_fst t)
/-- sorted of tuples of one form: a new list of the same items in some order -/
def rSrtD (K : PySem.W.Frag) : List V → Hp → VK → Prop := fun vs H Q => ∃ (a : Addr) (xs : List V) (ds : List PyData), vs = [V.ref a] ∧ SqL K H a xs ∧ DpAll K H xs ds ∧ PySem.W.AllAlike ds ∧ PySem.W.Sortable ds ∧ (∀ d ∈ ds, d.depth ≤ 60) ∧
  ∀ ys p, ys.Perm xs → H p = none → Q (.ref p) (upd H p (.lst ys))
theorem cr_srtD (hu : X.A.units + 66 < cLine) : CallR X (.builtin "sorted") (rSrtD X.K) := by
  intro pins s σ H vs us Q I r h
  obtain ⟨a, xs, ds, rfl, hs, hd, hal, hk, hdp, q⟩ := h
  obtain ⟨its, rv, hl, hz⟩ := I.list hs
  rw [Vals.ref1 r]
  have hlen : xs.length = ds.length := dpAll_len hd
  have em : (xs.zip ds).map Prod.snd = ds := List.map_snd_zip (Nat.le_of_eq hlen.symm)
  have lz : (xs.zip ds).length = ds.length := by rw [List.length_zip, hlen, Nat.min_self]
  refine PySem.W.sorted_data (enc := Prod.snd) (R := fun (v : Value) (b : V × PyData) => RelV b.1 v) hl.isList (dpAll_e1 rv hd) (dpAll_e2 I rv hd) (by rw [em]; exact hal) (by rw [em]; exact hk) (by rw [lz, ← hlen]; exact hz) (fun b hb => ?_) fun out hlo eo => ?_
  · have := hdp b.2 (by rw [← em]; exact List.mem_map.mpr ⟨b, hb, rfl⟩)
    omega
  · obtain ⟨ep, he'⟩ := PyProof.Rows.sortedAll_at s.heap its out.toArray
    have pm : (((xs.zip ds).mergeSort (PySem.W.dataLe false Prod.snd)).map Prod.fst).Perm xs := by
      have := List.Perm.map Prod.fst (List.mergeSort_perm (xs.zip ds) (PySem.W.dataLe false Prod.snd))
      rwa [List.map_fst_zip (Nat.le_of_eq hlen)] at this
    exact ⟨.ref _, upd H (s.heap.objs.size + 1) (.lst (((xs.zip ds).mergeSort (PySem.W.dataLe false Prod.snd)).map Prod.fst)), I.laid (t' := s.toks) (fun _ _ => PyProof.Rows.sortedAll_old) (Nat.le_succ _) ⟨by rw [pm.length_eq]; exact hz, out, ep, each_fst eo, he'⟩, rfl, q _ _ pm (I.hok.fresh (Nat.le_succ _))⟩
/-- sum of a tuple -/
theorem sum_tupV {prog : Program} {w : World} {A : Around} {E : Value → Shared → Prop} {s : Shared} {l : Addr} {its : List Value} {ns : List Int} {Q : Value → Shared → Prop} (hh : A.handled = none) (hl : s.heap.IsTuple l its.toArray) (hi : IntsAre its ns)
    (h : ∀ h' tk t', (∀ b o, s.heap.get? b = some o → h'.get? b = some o) → Q (.int ns.sum t') { s with heap := h', toks := tk }) : wpAny (model prog w) A (call (.builtin "sum") [.ref l]) Q E s := by
  obtain ⟨xs, e⟩ := hi.allInts.items
  have hn : numsOf (intItems xs).toList = ns := by rw [← e]; exact hi.numsOf
  rw [nums_intItems] at hn
  rw [e] at hl
  have hlt : l < s.heap.objs.size := by obtain ⟨_, e, _⟩ := hl; exact Heap.lt_size e
  refine call_sum_walkG (wpAny_pyIter_tuple hl ⟨_, _, _, _, _, _, numAt xs, rfl, Walks.tuple (A := A.in1) hh _ l (Nat.ne_of_lt hlt) (intItems xs), ⟨⟨_, Heap.get?_push_size _ rfl, rfl, rfl⟩, hl.push _⟩, fun b hb => ?_, (fun _ _ => intItems_at), fun h' tk t' hk => ?_⟩)
  · show b < (s.heap.push _).objs.size
    rw [Heap.size_push]
    rcases List.mem_cons.mp hb with rfl | hb
    · exact Nat.lt_succ_self _
    · rcases List.mem_cons.mp hb with rfl | hb
      · exact Nat.lt_succ_of_lt hlt
      · cases hb
  · have := h h' tk t' fun b o q => hk b o (fun hb => by
      rw [List.mem_singleton] at hb
      exact Nat.ne_of_lt (Heap.lt_size q) hb) (Heap.get?_push_of_some _ q)
    rw [← hn] at this
    have e2 : PySem.preSum (numAt xs) (intItems xs).size = (xs.toList.map Prod.fst).sum := by
      rw [preSum_eq, List.take_of_length_le (by simp [intItems])]
    rw [e2]
    exact this
def rSumT (K : PySem.W.Frag) : List V → Hp → VK → Prop := fun vs H Q => ∃ (a : Addr) (ns : List Int), vs = [V.ref a] ∧ SqT K H a (ns.map V.int) ∧ Q (.int ns.sum) H
theorem cr_sumT (hc : X.calm = true) : CallR X (.builtin "sum") (rSumT X.K) := by
  intro pins s σ H vs us Q I r h
  obtain ⟨a, ns, rfl, hs, q⟩ := h
  obtain ⟨its, rv, hl, _⟩ := I.tuple hs
  rw [Vals.ref1 r]
  exact sum_tupV (I.ok.hd hc) hl rv.ints fun h' tk t' hk => ⟨.int _, H, I.kept hk, ⟨_, rfl⟩, q⟩
/-- min, max of a tuple -/
theorem readsI {h : Heap} : ∀ {its : List Value} {ns : List Int}, IntsAre its ns → ∃ as, ReadsAll h its (ns.map PySem.W.Datum.toD) as
  | _, _, .nil => ⟨_, .nil⟩
  | _, _, .cons n t r => by
    obtain ⟨as, q⟩ := readsI r
    exact ⟨_, .cons (.int n t) q⟩
theorem minOf_ok (x : Int) : ∀ (xs : List Int) , (PySem.W.minOf x xs = x ∨ PySem.W.minOf x xs ∈ xs) ∧ PySem.W.minOf x xs ≤ x ∧ ∀ y ∈ xs, PySem.W.minOf x xs ≤ y := fun xs => by
  induction xs generalizing x with
  | nil => exact ⟨.inl rfl, Int.le_refl _, fun y h => by cases h⟩
  | cons z xs ih =>
    have e : PySem.W.minOf x (z :: xs) = PySem.W.minOf (if PySem.W.DatumOrd.lt z x = true then z else x) xs := rfl
    rw [e]
    by_cases hz : z < x
    · rw [if_pos (show PySem.W.DatumOrd.lt z x = true from decide_eq_true hz)]
      obtain ⟨h1, h2, h3⟩ := ih z
      refine ⟨.inr ?_, by omega, fun y hy => ?_⟩
      · rcases h1 with h1 | h1
        · rw [h1]; exact List.mem_cons_self
        · exact List.mem_cons_of_mem _ h1
      · rcases List.mem_cons.mp hy with rfl | hy
        · exact h2
        · exact h3 y hy
    · rw [if_neg (show ¬ PySem.W.DatumOrd.lt z x = true from fun q => hz (of_decide_eq_true q))]
      obtain ⟨h1, h2, h3⟩ := ih x
      refine ⟨h1.imp id (List.mem_cons_of_mem _), h2, fun y hy => ?_⟩
      rcases List.mem_cons.mp hy with rfl | hy
      · omega
      · exact h3 y hy
theorem maxOf_ok (x : Int) : ∀ (xs : List Int) , (PySem.W.maxOf x xs = x ∨ PySem.W.maxOf x xs ∈ xs) ∧ x ≤ PySem.W.maxOf x xs ∧ ∀ y ∈ xs, y ≤ PySem.W.maxOf x xs := fun xs => by
  induction xs generalizing x with
  | nil => exact ⟨.inl rfl, Int.le_refl _, fun y h => by cases h⟩
  | cons z xs ih =>
    have e : PySem.W.maxOf x (z :: xs) = PySem.W.maxOf (if PySem.W.DatumOrd.lt x z = true then z else x) xs := rfl
    rw [e]
    by_cases hz : x < z
    · rw [if_pos (show PySem.W.DatumOrd.lt x z = true from decide_eq_true hz)]
      obtain ⟨h1, h2, h3⟩ := ih z
      refine ⟨.inr ?_, by omega, fun y hy => ?_⟩
      · rcases h1 with h1 | h1
        · rw [h1]; exact List.mem_cons_self
        · exact List.mem_cons_of_mem _ h1
      · rcases List.mem_cons.mp hy with rfl | hy
        · exact h2
        · exact h3 y hy
    · rw [if_neg (show ¬ PySem.W.DatumOrd.lt x z = true from fun q => hz (of_decide_eq_true q))]
      obtain ⟨h1, h2, h3⟩ := ih x
      refine ⟨h1.imp id (List.mem_cons_of_mem _), h2, fun y hy => ?_⟩
      rcases List.mem_cons.mp hy with rfl | hy
      · omega
      · exact h3 y hy
theorem ints_at : ∀ {its : List Value} {ns : List Int} {i : Nat} {v : Value}, IntsAre its ns → its[i]? = some v → ∃ n t, v = .int n t
  | _, _, 0, _, .cons n t r, h => by cases h; exact ⟨n, t, rfl⟩
  | _, _, i + 1, _, .cons n t r, h => ints_at r h
def rMinT (K : PySem.W.Frag) : List V → Hp → VK → Prop := fun vs H Q => ∃ (a : Addr) (ns : List Int), vs = [V.ref a] ∧ SqT K H a (ns.map V.int) ∧ 0 < ns.length ∧ ∀ m, m ∈ ns → (∀ y, y ∈ ns → m ≤ y) → Q (.int m) H
def rMaxT (K : PySem.W.Frag) : List V → Hp → VK → Prop := fun vs H Q => ∃ (a : Addr) (ns : List Int), vs = [V.ref a] ∧ SqT K H a (ns.map V.int) ∧ 0 < ns.length ∧ ∀ m, m ∈ ns → (∀ y, y ∈ ns → y ≤ m) → Q (.int m) H
theorem cr_minT (hc : X.calm = true) (hu : X.A.units + 66 < cLine) : CallR X (.builtin "min") (rMinT X.K) := by
  intro pins s σ H vs us Q I r h
  obtain ⟨a, ns, rfl, hs, hne, q⟩ := h
  obtain ⟨its, rv, hl, _⟩ := I.tuple hs
  rw [Vals.ref1 r]
  cases ns with
  | nil => cases hne
  | cons n ns =>
    obtain ⟨as, ra⟩ := readsI (h := s.heap) rv.ints
    obtain ⟨m1, m2, m3⟩ := minOf_ok n ns
    refine PySem.W.min_tuple_datum (α := Int) (x := n) (xs := ns) (I.ok.hd hc) hl ⟨as, by simpa using ra⟩ (by show X.A.units + 1 + 0 < cLine; omega) fun i v h' tk hi ⟨bs, hr⟩ hk => ?_
    obtain ⟨n', t, rfl⟩ := ints_at rv.ints (show its[i]? = some v by simpa using hi)
    have e : n' = PySem.W.minOf n ns := by cases hr; rfl
    subst e
    refine ⟨.int _, H, I.kept hk, ⟨t, rfl⟩, q _ (m1.elim (fun z => by rw [z]; exact List.mem_cons_self) fun z => List.mem_cons_of_mem _ z) fun y hy => ?_⟩
    rcases List.mem_cons.mp hy with rfl | hy
    · exact m2
    · exact m3 y hy
theorem cr_maxT (hc : X.calm = true) (hu : X.A.units + 66 < cLine) : CallR X (.builtin "max") (rMaxT X.K) := by
  intro pins s σ H vs us Q I r h
  obtain ⟨a, ns, rfl, hs, hne, q⟩ := h
  obtain ⟨its, rv, hl, _⟩ := I.tuple hs
  rw [Vals.ref1 r]
  cases ns with
  | nil => cases hne
  | cons n ns =>
    obtain ⟨as, ra⟩ := readsI (h := s.heap) rv.ints
    obtain ⟨m1, m2, m3⟩ := maxOf_ok n ns
    refine PySem.W.max_tuple_datum (α := Int) (x := n) (xs := ns) (I.ok.hd hc) hl ⟨as, by simpa using ra⟩ (by show X.A.units + 1 + 0 < cLine; omega) fun i v h' tk hi ⟨bs, hr⟩ hk => ?_
    obtain ⟨n', t, rfl⟩ := ints_at rv.ints (show its[i]? = some v by simpa using hi)
    have e : n' = PySem.W.maxOf n ns := by cases hr; rfl
    subst e
    refine ⟨.int _, H, I.kept hk, ⟨t, rfl⟩, q _ (m1.elim (fun z => by rw [z]; exact List.mem_cons_self) fun z => List.mem_cons_of_mem _ z) fun y hy => ?_⟩
    rcases List.mem_cons.mp hy with rfl | hy
    · exact m2
    · exact m3 y hy
/-- the built-ins -/
def rBlt (K : PySem.W.Frag) : Bf → List V → Hp → VK → Prop
  | .len => fun xs H Q => ∃ x n, xs = [x] ∧ LenV K x H n ∧ Q (.int n) H
  | .int1 => fun xs H Q => (∃ i, xs = [.int i] ∧ Q (.int i) H) ∨ ∃ k, xs = [.bl k] ∧ Q (.int (if k then 1 else 0)) H
  | .abs => fun xs H Q => ∃ i, xs = [.int i] ∧ Q (.int (if i < 0 then -i else i)) H
  | .min2 => fun xs H Q => ∃ i j, xs = [.int i, .int j] ∧ Q (.int (if j < i then j else i)) H
  | .max2 => fun xs H Q => ∃ i j, xs = [.int i, .int j] ∧ Q (.int (if j > i then j else i)) H
  | .dvm => fun xs H Q => ∃ i j, xs = [.int i, .int j] ∧ CDivP i j ∧ ∀ p, H p = none → Q (.ref p) (upd H p (.tup [.int (i / j), .int (i % j)]))
  | .sum => fun vs H Q => rSum K vs H Q ∨ rSumT K vs H Q
  | .maxL => fun vs H Q => rMax K vs H Q ∨ rMaxT K vs H Q
  | .minL => fun vs H Q => rMin K vs H Q ∨ rMinT K vs H Q
  | .sorted => fun xs H Q => rSortedI K xs H Q ∨ rSrtT K xs H Q
  | .sortD => rSrtD K
  | .list1 => fun xs H Q => ∃ p ys, xs = [.ref p] ∧ (SqL K H p ys ∨ SqT K H p ys) ∧ ∀ l, H l = none → Q (.ref l) (upd H l (.lst ys))
  | .tuple1 => fun xs H Q => ∃ p ys, xs = [.ref p] ∧ ((SqL K H p ys ∧ ∀ l, H l = none → Q (.ref l) (upd H l (.tup ys))) ∨ (SqT K H p ys ∧ Q (.ref p) H))
  | .all1 => rAll K
  | .any1 => rAny K
def bfV : Bf → Value
  | .len => .builtin "len"
  | .int1 => .type "int"
  | .abs => .builtin "abs"
  | .min2 => .builtin "min"
  | .max2 => .builtin "max"
  | .dvm => .builtin "divmod"
  | .sum => .builtin "sum"
  | .maxL => .builtin "max"
  | .minL => .builtin "min"
  | .sorted => .builtin "sorted"
  | .sortD => .builtin "sorted"
  | .list1 => .type "list"
  | .tuple1 => .type "tuple"
  | .all1 => .builtin "all"
  | .any1 => .builtin "any"
theorem cr_blt (hc : X.calm = true) (hu : X.A.units + 66 < cLine) : ∀ f : Bf, CallR X (bfV f) (rBlt X.K f)
  | .len => call_len
  | .int1 => call_int1
  | .abs => call_abs
  | .min2 => call_min2 hc
  | .max2 => call_max2 hc
  | .dvm => call_divmodW
  | .sum => orC (cr_sum hc) (cr_sumT hc)
  | .maxL => orC (cr_max hc) (cr_maxT hc hu)
  | .minL => orC (cr_min hc) (cr_minT hc hu)
  | .sorted => orC cr_sortedI cr_srtT
  | .sortD => cr_srtD hu
  | .list1 => call_list_of
  | .tuple1 => call_tuple_of
  | .all1 => cr_all hc
  | .any1 => cr_any hc
end
end Pf

/-! The state of a body, further: calls, lists changed. -/
namespace Pf
open PySem PySem.Spec PyProof.Rows L2
section
variable (K : PySem.W.Frag) (g : Str → Addr)
def ST (B : Bs) (en : En) (rs : List R) (σ : Sg) (vs : List V) (H : Hp) : Prop := SR K g B en (rs ++ B.ts.map R.v) σ (vs ++ B.tv) H ∧ rs.length = vs.length
end
section
variable {K : PySem.W.Frag} {g : Str → Addr} {B : Bs} {en : En} {rs : List R} {σ : Sg} {vs : List V} {H : Hp}
theorem ST.flat {d : D} {v : V} (h : ST K g B en rs σ vs H) (r : ∀ Z, Rep K g Z H d v AS.no) : ST K g B en (.v d :: rs) σ (v :: vs) H :=
  ⟨SR.flat h.1 r, by rw [List.length_cons, List.length_cons, h.2]⟩
theorem ST.drop {r : R} {v : V} (h : ST K g B en (r :: rs) σ (v :: vs) H) : ST K g B en rs σ vs H := ⟨SR.drop h.1, by simpa using h.2⟩
theorem ST.read {i : Nat} {d : D} (h : ST K g B en rs σ vs H) (hi : (en[i]?).join = some d) (hf : fz d = true) : ∃ v, σ[i]? = some (some v) ∧ ST K g B en (.v d :: rs) σ (v :: vs) H := by
  obtain ⟨v, e, q⟩ := SR.read h.1 (i := i) (d := d) (by
    cases z : en[i]? with
    | none => rw [z] at hi; cases hi
    | some o => rw [z] at hi; rw [show o = some d from hi]) hf
  exact ⟨v, e, q, by rw [List.length_cons, List.length_cons, h.2]⟩
theorem join_some {en : En} {i : Nat} {d : D} (hi : (en[i]?).join = some d) : en[i]? = some (some d) := by
  cases z : en[i]? with
  | none => rw [z] at hi; cases hi
  | some o => rw [z] at hi; rw [show o = some d from hi]
theorem ST.slot {i : Nat} {d : D} (h : ST K g B en rs σ vs H) (hi : (en[i]?).join = some d) : ∃ v, σ[i]? = some (some v) ∧ ST K g B en (.s i :: rs) σ (v :: vs) H := by
  obtain ⟨v, e, q⟩ := SR.slot h.1 (join_some hi)
  exact ⟨v, e, q, by rw [List.length_cons, List.length_cons, h.2]⟩
theorem ST.freeze {i : Nat} {d : D} (h : ST K g B en rs σ vs H) (hi : (en[i]?).join = some d) : ∃ v, σ[i]? = some (some v) ∧ ST K g B (en.set i (some (frz d))) (.v (frz d) :: rs) σ (v :: vs) H := by
  obtain ⟨v, e, q⟩ := SR.freeze h.1 (join_some hi)
  exact ⟨v, e, q, by rw [List.length_cons, List.length_cons, h.2]⟩
theorem ST.freezeT {d : D} {v : V} (h : ST K g B en (.v d :: rs) σ (v :: vs) H) : ST K g B en (.v (frz d) :: rs) σ (v :: vs) H := ⟨SR.freezeT h.1, by simpa using h.2⟩
theorem ST.rep {r : R} {d : D} {v : V} (h : ST K g B en (r :: rs) σ (v :: vs) H) (hr : rv en r = some d) : ∃ Z O, Rep K g Z H d v O ∧ (∀ a, Z a → H a ≠ none) ∧ ∀ a, O a → ∃ x, H a = some x ∧ stat x = false := SR.rep h.1 hr
theorem ST.swap {r1 r2 : R} {v1 v2 : V} (h : ST K g B en (r1 :: r2 :: rs) σ (v1 :: v2 :: vs) H) : ST K g B en (r2 :: r1 :: rs) σ (v2 :: v1 :: vs) H := ⟨SR.swap h.1, by simpa using h.2⟩
theorem ST.tup {ds : List D} {us : List V} (h : ST K g B en (ds.map R.v ++ rs) σ (us ++ vs) H) (hl : ds.length = us.length) {p : Addr} (hp : H p = none) : ST K g B en (.v (.tup ds) :: rs) σ (.ref p :: vs) (upd H p (.tup us)) := by
  obtain ⟨h, l⟩ := h
  rw [List.append_assoc, List.append_assoc] at h
  refine ⟨SR.tup h hl hp, ?_⟩
  simp only [List.length_append, List.length_map] at l
  simp only [List.length_cons]
  omega
theorem ST.lst {ds : List D} {us : List V} (h : ST K g B en (ds.map R.v ++ rs) σ (us ++ vs) H) (hl : ds.length = us.length) {p : Addr} (hp : H p = none) : ST K g B en (.v (.lst true ds) :: rs) σ (.ref p :: vs) (upd H p (.lst us)) := by
  obtain ⟨h, l⟩ := h
  rw [List.append_assoc, List.append_assoc] at h
  refine ⟨SR.lst h hl hp, ?_⟩
  simp only [List.length_append, List.length_map] at l
  simp only [List.length_cons]
  omega
theorem ST.asg {i : Nat} {d : D} {v : V} (h : ST K g B en [.v d] σ [v] H) (hi : i < σ.length) (hp : ∀ p ∈ B.pin, p.1 ≠ i) : ST K g B (en.set i (some d)) [] (σ.set i (some v)) [] H := ⟨SR.asg h.1 hi hp, rfl⟩
theorem ST.off (h : ST K g B en rs σ vs H) (i : Nat) : ST K g B (en.set i none) rs σ vs H := ⟨SR.off h.1 i, h.2⟩
/-- a new object whose parts own nothing: the parts stand for themselves -/
theorem ST.newF {d : D} {p : Addr} {o : HO} (h : ST K g B en rs σ vs H) (hp : H p = none) (hs : stat o = false) (r : ∀ Z, (∀ a, Z a → H a ≠ none) → (∀ b, B.Z b → Z b) → Rep K g Z (upd H p o) d (.ref p) (fun a => a = p)) : ST K g B en (.v d :: rs) σ (.ref p :: vs) (upd H p o) := by
  obtain ⟨⟨Z, O, O1, O2, e, t, s1, s2, q, pi⟩, hl⟩ := h
  have n := q.nonew hp
  refine ⟨⟨Z, fun a => O a ∨ a = p, O1, fun a => O2 a ∨ a = p, e.keep (fun _ z => z) (keep_new hp), .v (O1 := fun a => a = p) (O2 := O2) (fun b z => .inr z) (fun b z => ⟨.inl z, fun y => n.1 (y ▸ (s2 b z).1)⟩) (r Z q.trZ q.zz) (t.keep (fun _ z => z) (keep_new hp)), fun b z => .inl (s1 b z), fun b z => ?_, q.newO hp hs, pi⟩, by rw [List.length_cons, List.length_cons, hl]⟩
  rcases z with z | z
  · exact ⟨.inl (s2 b z).1, (s2 b z).2⟩
  · exact ⟨.inr z, fun y => n.1 (z ▸ s1 b y)⟩

/-- values in flight, taken for a call -/
theorem takeA_ok {Z : AS} {rest : List R} {ws : List V} : ∀ {xs : List R} {us : List V} {en en2 : En} {ds : List D} {O Oe Ot : AS}, RepE K g Z H en σ Oe → RepT K g Z H σ (xs ++ rest) (us ++ ws) Ot → xs.length = us.length → (∀ b, Oe b → Ot b → False) → takeA en xs = some (ds, en2) →
    ∃ Oa Oe' Or, RepL K g Z H ds us Oa ∧ RepE K g Z H en2 σ Oe' ∧ RepT K g Z H σ rest ws Or ∧ (∀ b, Oa b → Oe b ∨ Ot b) ∧ (∀ b, Oe' b → Oe b ∧ ¬ Oa b) ∧ (∀ b, Or b → Ot b ∧ ¬ Oa b)
  | [], [], en, en2, ds, O, Oe, Ot, e, t, _, dj, h => by
    cases h
    exact ⟨AS.no, Oe, Ot, .nil, e, t, fun _ z => z.elim, fun _ z => ⟨z, id⟩, fun _ z => ⟨z, id⟩⟩
  | [], _ :: _, _, _, _, _, _, _, _, _, h, _, _ => by cases h
  | _ :: _, [], _, _, _, _, _, _, _, _, h, _, _ => by cases h
  | .v d :: xs, u :: us, en, en2, ds, O, Oe, Ot, e, t, hl, dj, h => by
    have h' : (takeA en xs).map (fun p => (d :: p.1, p.2)) = some (ds, en2) := h
    obtain ⟨⟨ds', en3⟩, h1, h2⟩ := Option.map_eq_some_iff.mp h'
    cases h2
    cases t with
    | @v _ A C _ _ _ _ a1 a2 r t =>
      obtain ⟨Oa, Oe', Or, k1, k2, k3, s1, s2, s3⟩ := takeA_ok (O := O) e t (by simpa using hl) (fun b x y => dj b x (a2 b y).1) h1
      refine ⟨fun b => A b ∨ Oa b, Oe', Or, .cons (O1 := A) (O2 := Oa) (fun b z => .inl z) (fun b z => ⟨.inr z, fun y => ?_⟩) r k1, k2, k3, fun b z => ?_, fun b z => ⟨(s2 b z).1, fun y => ?_⟩, fun b z => ⟨(a2 b (s3 b z).1).1, fun y => ?_⟩⟩
      · rcases s1 b z with x | x
        · exact dj b x (a1 b y)
        · exact (a2 b x).2 y
      · rcases z with z | z
        · exact .inr (a1 b z)
        · exact (s1 b z).imp id fun x => (a2 b x).1
      · rcases y with y | y
        · exact dj b (s2 b z).1 (a1 b y)
        · exact (s2 b z).2 y
      · rcases y with y | y
        · exact (a2 b (s3 b z).1).2 y
        · exact (s3 b z).2 y
  | .s i :: xs, u :: us, en, en2, ds, O, Oe, Ot, e, t, hl, dj, h => by
    have h' : (match (en[i]?).join with
      | some d => (takeA (en.set i none) xs).map fun p => (d :: p.1, p.2)
      | none => none) = some (ds, en2) := h
    cases hd : (en[i]?).join with
    | none => rw [hd] at h'; cases h'
    | some d =>
      rw [hd] at h'
      obtain ⟨⟨ds', en3⟩, h1, h2⟩ := Option.map_eq_some_iff.mp h'
      cases h2
      cases t with
      | s ev t =>
        obtain ⟨v, A, C, ev', r, e', a1, a2⟩ := e.split (join_some hd)
        rw [ev] at ev'
        cases ev'
        obtain ⟨Oa, Oe', Or, k1, k2, k3, s1, s2, s3⟩ := takeA_ok (O := O) e' t (by simpa using hl) (fun b x y => dj b (a2 b x).1 y) h1
        refine ⟨fun b => A b ∨ Oa b, Oe', Or, .cons (O1 := A) (O2 := Oa) (fun b z => .inl z) (fun b z => ⟨.inr z, fun y => ?_⟩) r k1, k2, k3, fun b z => ?_, fun b z => ⟨(a2 b (s2 b z).1).1, fun y => ?_⟩, fun b z => ⟨(s3 b z).1, fun y => ?_⟩⟩
        · rcases s1 b z with x | x
          · exact (a2 b x).2 y
          · exact dj b (a1 b y) x
        · rcases z with z | z
          · exact .inl (a1 b z)
          · exact (s1 b z).imp (fun x => (a2 b x).1) id
        · rcases y with y | y
          · exact (a2 b (s2 b z).1).2 y
          · exact (s2 b z).2 y
        · rcases y with y | y
          · exact dj b (a1 b y) (s3 b z).1
          · exact (s3 b z).2 y
/-- the names' own lists among the arguments -/
inductive Sl (σ : Sg) : List R → List V → Prop
  | nil : Sl σ [] []
  | v {d : D} {v : V} {rs : List R} {vs : List V} (t : Sl σ rs vs) : Sl σ (.v d :: rs) (v :: vs)
  | s {i : Nat} {v : V} {rs : List R} {vs : List V} (e : σ[i]? = some (some v)) (t : Sl σ rs vs) : Sl σ (.s i :: rs) (v :: vs)
theorem RepT.sl {Z : AS} {rest : List R} {ws : List V} : ∀ {xs : List R} {us : List V} {O : AS}, RepT K g Z H σ (xs ++ rest) (us ++ ws) O → xs.length = us.length → Sl σ xs us
  | [], [], _, _, _ => .nil
  | [], _ :: _, _, _, h => by cases h
  | _ :: _, [], _, _, h => by cases h
  | .v d :: xs, u :: us, _, t, h => by
    cases t with
    | v a1 a2 r t => exact .v (RepT.sl t (by simpa using h))
  | .s i :: xs, u :: us, _, t, h => by
    cases t with
    | s e t => exact .s e (RepT.sl t (by simpa using h))
theorem putA_ok {Z : AS} : ∀ {xs : List R} {us : List V} {up : List (Option D)} {en : En} {O O1 O2 : AS}, Sl σ xs us → RepE K g Z H en σ O1 → RepE K g Z H up (us.map some) O2 → (∀ b, O1 b → O b) → (∀ b, O2 b → O b ∧ ¬ O1 b) → RepE K g Z H (putA en xs up) σ O
  | [], _, up, en, O, O1, O2, _, e, _, s1, _ => by
    have : putA en [] up = en := by unfold putA; rfl
    rw [this]
    exact e.up s1
  | .v d :: xs, _, up, en, O, O1, O2, .v t, e, u, s1, s2 => by
    cases u with
    | un u =>
      have z := putA_ok t e u s1 s2
      exact z
    | has a1 a2 r u =>
      have z := putA_ok t e u s1 fun b z => s2 b (a2 b z).1
      exact z
  | .s i :: xs, _, up, en, O, O1, O2, .s ev t, e, u, s1, s2 => by
    cases u with
    | un u =>
      have z := putA_ok t (e.off i) u s1 s2
      exact z
    | @has _ A C d v _ _ a1 a2 r u =>
      have z := putA_ok (O := O) (O1 := fun b => O1 b ∨ A b) t (RepE.put (O1 := A) (O2 := O1) e ev r (fun b z => .inr z) fun b z => ⟨.inl z, fun y => (s2 b (a1 b y)).2 z⟩) u (fun b z => z.elim (s1 b) fun z => (s2 b (a1 b z)).1) fun b z => ⟨(s2 b (a2 b z).1).1, fun y => y.elim (s2 b (a2 b z).1).2 (a2 b z).2⟩
      exact z
/-- what a callee may have done -/
theorem Good.callee {Z O Oa O' Z' : AS} {H' : Hp} {Ok : AS} (q : Good B Z O H) (sa : ∀ a, Oa a → O a) (sk : ∀ a, Ok a → O a ∧ ¬ Oa a) (c : Good ⟨H, Z, Oa, [], [], []⟩ Z' O' H') :
    Good B Z' (fun a => O' a ∨ Ok a) H' ∧ (∀ a, O' a → Ok a → False) ∧ Keep Z Ok H H' := by
  have hO : ∀ a, Ok a → H a ≠ none := fun a h => by
    obtain ⟨x, e, _⟩ := q.trO a (sk a h).1
    rw [e]
    intro z
    cases z
  have hd : ∀ a, O' a → Ok a → False := fun a h k => by
    rcases c.on a h with z | z
    · exact (sk a k).2 z
    · exact hO a k z
  have fr' : ∀ a x, H a = some x → ¬ Oa a → H' a = some x := c.fr
  refine ⟨⟨fun a h z => ?_, fun a h => ?_, c.trZ, fun a x h n => ?_, fun a h => c.dom a (q.dom a h), fun a h => c.zz a (q.zz a h), fun a h => ?_, fun a h => ?_⟩, hd, fun a x h k => ?_⟩
  · rcases h with h | h
    · exact c.dj a h z
    · rcases c.zn a z with y | y | y
      · exact q.dj a (sk a h).1 y
      · exact (sk a h).2 y
      · exact hO a h y
  · rcases h with h | h
    · exact c.trO a h
    · obtain ⟨x, e, s⟩ := q.trO a (sk a h).1
      exact ⟨x, fr' a x e (sk a h).2, s⟩
  · refine fr' a x (q.fr a x h n) fun z => ?_
    rcases q.on a (sa a z) with y | y
    · exact n y
    · rw [h] at y
      cases y
  · rcases c.zn a h with y | y | y
    · exact q.zn a y
    · exact .inr (q.on a (sa a y))
    · refine .inr (.inr ?_)
      cases e : B.H a with
      | none => rfl
      | some x => exact absurd y (q.dom a (by rw [e]; intro z; cases z))
  · rcases h with h | h
    · rcases c.on a h with y | y
      · exact q.on a (sa a y)
      · refine .inr ?_
        cases e : B.H a with
        | none => rfl
        | some x => exact absurd y (q.dom a (by rw [e]; intro z; cases z))
    · exact q.on a (sk a h).1
  · refine fr' a x h fun z => ?_
    rcases k with k | k | k
    · exact q.dj a (sa a z) k
    · exact (sk a k).2 z
    · obtain ⟨y, e, s⟩ := q.trO a (sa a z)
      rw [h] at e
      cases e
      rw [k] at s
      cases s
theorem Good.refl {Z O : AS} (dj : ∀ a, O a → Z a → False) (tO : ∀ a, O a → ∃ x, H a = some x ∧ stat x = false) (tZ : ∀ a, Z a → H a ≠ none) : Good ⟨H, Z, O, [], [], []⟩ Z O H :=
  ⟨dj, tO, tZ, fun _ _ h _ => h, fun _ h => h, fun _ h => h, fun _ h => .inl h, fun _ h => .inl h⟩
theorem RepL.toE {Z : AS} : ∀ {ds : List D} {vs : List V} {O : AS}, RepL K g Z H ds vs O → RepE K g Z H (ds.map some) (vs.map some) O
  | _, _, _, .nil => .nil
  | _, _, _, .cons s1 s2 r t => .has s1 s2 r (RepL.toE t)
/-- the callee's state at its entry, and the caller's behind it -/
theorem call_ok {xs rest : List R} {us ws : List V} {ds : List D} {en2 : En} (h : SR K g B en (xs ++ rest) σ (us ++ ws) H) (hl : xs.length = us.length) (ht : takeA en xs = some (ds, en2)) :
    ∃ Z O, SR K g ⟨H, Z, O, [], [], []⟩ (ds.map some) [] (us.map some) [] H ∧
      ∀ (up : List (Option D)) (rr : List D) (vv : List V) (H' : Hp), rr.length = vv.length → SR K g ⟨H, Z, O, [], [], []⟩ up (rr.map R.v) (us.map some) vv H' → SR K g B (putA en2 xs up) (rr.map R.v ++ rest) σ (vv ++ ws) H' := by
  obtain ⟨Z, O, O1, O2, e, t, s1, s2, q, p⟩ := h
  have sl := t.sl hl
  obtain ⟨Oa, Oe, Or, k1, k2, k3, b1, b2, b3⟩ := takeA_ok (O := O) e t hl (fun b x y => (s2 b y).2 x) ht
  have sa : ∀ a, Oa a → O a := fun a h => (b1 a h).elim (s1 a) fun z => (s2 a z).1
  refine ⟨Z, Oa, ⟨Z, Oa, Oa, AS.no, k1.toE, .nil, fun _ z => z, fun _ z => z.elim, (q.sub sa).dj |> fun dj => Good.refl dj (q.sub sa).trO q.trZ, fun _ z => absurd z (by simp)⟩, fun up rr vv H' hlr h' => ?_⟩
  obtain ⟨Z', O', A1, A2, e', t', c1, c2, q', _⟩ := h'
  obtain ⟨G1, G2, G3⟩ := Good.callee (Ok := fun a => Oe a ∨ Or a) q sa (fun a z => z.elim (fun z => ⟨s1 a (b2 a z).1, (b2 a z).2⟩) fun z => ⟨(s2 a (b3 a z).1).1, (b3 a z).2⟩) q'
  have zz : ∀ a, Z a → Z' a := q'.zz
  have t2 : RepT K g Z' H' (us.map some) (rr.map R.v ++ []) (vv ++ []) A2 := by
    rw [List.append_nil, List.append_nil]
    exact t'
  obtain ⟨C1, C2, r1, _, d1, d2⟩ := t2.vals hlr
  have e2 := putA_ok (O := fun a => Oe a ∨ A1 a) sl (k2.keep zz fun a x y z => G3 a x y (z.imp id fun z => z.imp (fun z => .inl z) id)) e' (fun b z => .inl z) fun b z => ⟨.inr z, fun y => G2 b (c1 b z) (.inl y)⟩
  have t3 := k3.keep zz fun a x y z => G3 a x y (z.imp id fun z => z.imp (fun z => .inr z) id)
  have t4 : RepT K g Z' H' σ (rr.map R.v ++ rest) (vv ++ ws) (fun a => C1 a ∨ Or a) := by
    have gen : ∀ {rr : List D} {vv : List V} {C O : AS}, RepL K g Z' H' rr vv C → (∀ b, C b → O b) → (∀ b, Or b → O b ∧ ¬ C b) → RepT K g Z' H' σ (rr.map R.v ++ rest) (vv ++ ws) O := by
      intro rr
      induction rr with
      | nil =>
        intro vv C O r i1 i2
        cases r
        exact t3.up fun b z => (i2 b z).1
      | cons x xs ih =>
        intro vv C O r i1 i2
        cases r with
        | @cons _ E1 E2 _ _ _ _ f1 f2 r r' =>
          refine .v (O1 := E1) (O2 := fun b => E2 b ∨ Or b) (fun b z => i1 b (f1 b z)) (fun b z => ?_) r (ih r' (fun b z => .inl z) fun b z => ⟨.inr z, fun y => (i2 b z).2 (f2 b y).1⟩)
          rcases z with z | z
          · exact ⟨i1 b (f2 b z).1, (f2 b z).2⟩
          · exact ⟨(i2 b z).1, fun y => (i2 b z).2 (f1 b y)⟩
    exact gen r1 (fun b z => .inl z) fun b z => ⟨.inr z, fun y => G2 b (c2 b (d1 b y)).1 (.inr z)⟩
  refine ⟨Z', _, fun a => Oe a ∨ A1 a, fun a => C1 a ∨ Or a, e2, t4, fun b z => ?_, fun b z => ?_, G1, p⟩
  · rcases z with z | z
    · exact .inr (.inl z)
    · exact .inl (c1 b z)
  · rcases z with z | z
    · refine ⟨.inl (c2 b (d1 b z)).1, fun y => ?_⟩
      rcases y with y | y
      · exact G2 b (c2 b (d1 b z)).1 (.inl y)
      · exact (c2 b (d1 b z)).2 y
    · refine ⟨.inr (.inr z), fun y => ?_⟩
      rcases y with y | y
      · exact (s2 b (b3 b z).1).2 (b2 b y).1
      · exact G2 b (c1 b y) (.inr z)
/-- a name's own list is changed; what is in flight above goes into it -/
theorem SR.mutL {i : Nat} {xs ds ys : List D} {us : List V} (h : SR K g B en (ds.map R.v ++ rs) σ (us ++ vs) H) (hl : ds.length = us.length) (hi : (en[i]?).join = some (.lst true xs)) :
    ∃ a ws, σ[i]? = some (some (.ref a)) ∧ H a = some (.lst ws) ∧ xs.length = ws.length ∧ (∃ Z O, RepL K g Z H xs ws O) ∧
      ∀ (zs : List V), (∀ Z O1 O2, RepL K g Z H xs ws O1 → RepL K g Z H ds us O2 → ∀ O, (∀ b, O1 b → O b) → (∀ b, O2 b → O b ∧ ¬ O1 b) → RepL K g Z H ys zs O) → SR K g B (en.set i (some (.lst true ys))) rs σ vs (upd H a (.lst zs)) := by
  obtain ⟨Z, O, O1, O2, e, t, s1, s2, q, p⟩ := h
  obtain ⟨v, A, C, ev, r, e', a1, a2⟩ := e.split (join_some hi)
  obtain ⟨T1, T2, k1, k2, b1, b2⟩ := t.vals hl
  cases r with
  | @lstO _ A' a _ ws ea oa sa ra =>
    refine ⟨a, ws, ev, ea, ra.length, ⟨Z, A', ra⟩, fun zs hz => ?_⟩
    have oA : O a := s1 a (a1 a oa)
    have nT1 : ¬ T1 a := fun z => (s2 a (b1 a z)).2 (a1 a oa)
    have nT2 : ¬ T2 a := fun z => (s2 a (b2 a z).1).2 (a1 a oa)
    have nC : ¬ C a := fun z => (a2 a z).2 oa
    have r2 : RepL K g Z H ys zs (fun b => A' b ∨ T1 b) := hz Z A' T1 ra k1 _ (fun b z => .inl z) fun b z => ⟨.inr z, fun y => (s2 b (b1 b z)).2 (a1 b (sa b y).1)⟩
    have r3 := r2.keep (fun _ z => z) (q.keep (x := .lst zs) oA fun z => z.elim (fun z => (sa a z).2 rfl) nT1)
    have rn : Rep K g Z (upd H a (.lst zs)) (.lst true ys) (.ref a) (fun b => A b ∨ T1 b) :=
      .lstO (O' := fun b => A' b ∨ T1 b) upd_same (.inl oa) (fun b z => z.elim (fun z => ⟨.inl (sa b z).1, (sa b z).2⟩) fun z => ⟨.inr z, fun y => nT1 (y ▸ z)⟩) r3
    have e2 := RepE.put (O := fun b => O1 b ∨ T1 b) (O1 := fun b => A b ∨ T1 b) (O2 := C) (e'.keep (fun _ z => z) (q.keep (x := .lst zs) oA nC)) ev rn (fun b z => z.imp (a1 b) id) fun b z => ⟨.inl (a2 b z).1, fun y => y.elim (a2 b z).2 fun y => (s2 b (b1 b y)).2 (a2 b z).1⟩
    rw [List.set_set] at e2
    refine ⟨Z, O, fun b => O1 b ∨ T1 b, T2, e2, k2.keep (fun _ z => z) (q.keep (x := .lst zs) oA nT2), fun b z => z.elim (s1 b) fun z => (s2 b (b1 b z)).1, fun b z => ⟨(s2 b (b2 b z).1).1, fun y => y.elim (s2 b (b2 b z).1).2 (b2 b z).2⟩, q.mut oA rfl, p⟩
end
end Pf

/-! Which text a term of the small language stands for; expressions. -/
namespace Pf
open PySem PySem.Spec PyProof.Rows L2

/-! ### the context -/
section
variable (K : PySem.W.Frag) (g : Str → Addr) (G : Gb)
/-- an error that leaves, at the state en -/
def EXS (B : Bs) (c : String) (fs : List D) (en : En) (σ : Sg) (H : Hp) (cls : Value) (d : Option Addr) : Prop :=
  ∃ vs ns fV, SR K g B en (fs.map R.v ++ B.ts.map R.v) σ (vs ++ B.tv) H ∧ fs.length = vs.length ∧ fzs fs = true ∧ cls = .ref (g (Str.ofString c)) ∧ G.excs c = some ns ∧ ns.length = fs.length ∧ (d = none → ns = []) ∧
    (∀ dx, d = some dx → H dx = some (.xd fV)) ∧ ∀ (i : Nat) (n : Str) (v : V), ns[i]? = some n → vs[i]? = some v → fV.lookup n = some v
def XL (B : Bs) (W : WX) (X : Xp) : Prop := ∀ c fs en σ H cls d, X c fs en → EXS K g G B c fs en σ H cls d → W cls d σ H
/-- a def's promise -/
def spOf (F : FSp) : Sp := fun vs H Q E => ∃ Z O ds q x, SR K g ⟨H, Z, O, [], [], []⟩ (ds.map some) [] (vs.map some) [] H ∧ F ds q x ∧
  (∀ r us v H', q r us → SR K g ⟨H, Z, O, [], [], []⟩ us [.v r] (vs.map some) [v] H' → Q v H') ∧
  ∀ c fs us cls d H', x c fs us → EXS K g G ⟨H, Z, O, [], [], []⟩ c fs us (vs.map some) H' cls d → E cls d H'
end
def bnames : List String := ["len", "int", "abs", "min", "max", "sum", "sorted", "list", "tuple", "all", "any", "range", "isinstance", "reversed", "bool", "str", "dict", "set", "divmod"]
/-- what an own __init__ promises: the error's dict bears the arguments by their names -/
def iniSp (C : Addr) (ns : List Str) : Sp := fun vs H Q _ => ∃ a us, vs = .ref a :: us ∧ us.length = ns.length ∧ H a = some (exo a C none) ∧
  ∀ (d : Addr) (H' : Hp) (fV : List (Str × V)), H d = none → d ≠ a → H' a = some (exo a C (some d)) → H' d = some (exd d fV) → (∀ (i : Nat) (n : Str) (v : V), ns[i]? = some n → us[i]? = some v → fV.lookup n = some v) → (∀ b, b ≠ a → b ≠ d → H' b = H b) → Q .non H'
/-- an own error class -/
structure ExF (g : Str → Addr) (k : Nat) (P : Program) (w : World) (K : PySem.W.Frag) (mg : Str → Option Value) (base : Heap) (c : Str) (ns : List Str) : Prop where
  gm : mg c = some (.ref (g c))
  kp : PySem.W.keepIn K (.ref (g c)) = true
  db : (c == ("__debug__" : Str)) = false
  sub : PySem.W.subIn K (.ref (g c)) (.type "BaseException") = some true
  ty : PySem.W.typeIn K (.ref (g c)) = some (.type "type")
  nd : ns.Nodup
  nul : ns = [] → PySem.W.excIn K (g c) [.type "ValueError", .type "Exception", .type "BaseException", .type "object"] "ValueError.__new__" = true
  own : ns ≠ [] → OexC K (g c) ∧ XfC K (g c) ∧ (∀ n ∈ ns, PySem.W.findIn K (.ref (g c)) n = some none) ∧ ∃ fI fd ps j, PySem.W.findIn K (.ref (g c)) "__init__" = some (some (.ref fI)) ∧ PySem.W.typeIn K (.ref fI) = some (.type "function") ∧ j + 1 ≤ k ∧
    FnOk P w K mg base (CX P w) j fI fd ps (iniSp (g c) ns) ∧ Binds K fd ps []
/-- what isinstance asks of an own class -/
structure IsI (K : PySem.W.Frag) (C : Addr) : Prop where
  cl : Cls K C
  ha : PySem.W.findIn K (.ref C) "__class__" = some (some (.builtin "object.__class__"))
  hn : PySem.W.specialIn K (.builtin "object.__class__") "__get__" = some (some (.builtin "getset_descriptor.__get__"))
  htk : PySem.W.takesIn K (.builtin "object.__class__") = some true
  hm : PySem.W.mroIn K C (.type "object") = some true
structure GOk (G : Gb) (g : Str → Addr) (k : Nat) (P : Program) (w : World) (K : PySem.W.Frag) (mg : Str → Option Value) (base : Heap) : Prop where
  fn : ∀ (x : String) (F : FSp), G.fns x = some F → ∃ f fd ps, mg (Str.ofString x) = some (.ref f) ∧ PySem.W.keepIn K (.ref f) = true ∧ Binds K fd ps [] ∧ FnOk P w K mg base (CX P w) k f fd ps (spOf K g G F) ∧ (Str.ofString x == ("__debug__" : Str)) = false
  fre : ∀ x ∈ bnames, mg (Str.ofString x) = none
  exc : ∀ (c : String) (ns : List Str), G.excs c = some ns → ExF g k P w K mg base (Str.ofString c) ns
  exm : ∀ (c c' : String) (b : Bool), G.exm c c' = some b → PySem.W.exmOne K (.ref (g (Str.ofString c))) (.ref (g (Str.ofString c'))) = some b
  mth : ∀ (c m : String) (F : FSp), G.mth c m = some F → Cls K (g (Str.ofString c)) ∧ ∃ f fd ps, Meth K (g (Str.ofString c)) (Str.ofString m) f ∧ Binds K fd ps [] ∧ FnOk P w K mg base (CX P w) k f fd ps (spOf K g G F)
  mkc : ∀ (c : String), (G.mth c "__init__").isSome = true → mg (Str.ofString c) = some (.ref (g (Str.ofString c))) ∧ PySem.W.makesIn K (g (Str.ofString c)) = true ∧ PySem.W.keepIn K (.ref (g (Str.ofString c))) = true ∧ (Str.ofString c == ("__debug__" : Str)) = false ∧
    ∀ F, G.mth c "__init__" = some F → ∃ f fd ps j, j + 1 ≤ k ∧ Meth K (g (Str.ofString c)) (Str.ofString "__init__") f ∧ Binds K fd ps [] ∧ FnOk P w K mg base (CX P w) j f fd ps (spOf K g G F)
  fok : ∀ (c f : Str), G.fok c f = true → Cls K (g c) ∧ NoAttr K (g c) f
  cmt : ∀ (c m : String) (F : FSp), G.cmt c m = some F → mg (Str.ofString c) = some (.ref (g (Str.ofString c))) ∧ (Str.ofString c == ("__debug__" : Str)) = false ∧
    ∃ mc p f fd ps, ClX.CRead K (g (Str.ofString c)) mc ∧ ClX.CMet K (g (Str.ofString c)) mc (Str.ofString m) p f ∧ Binds K fd ps [] ∧ FnOk P w K mg base (CX P w) k f fd ps (spOf K g G F)
  isc : ∀ c : Str, G.isc c = true → (mg c = some (.ref (g c)) ∧ (c == ("__debug__" : Str)) = false) ∧ IsI K (g c) ∧ (∀ t ∈ ["NoneType", "bool", "int", "str", "tuple", "list"], PySem.W.kitOne K (.type t) (.ref (g c)) = some false) ∧
    ∀ c' : Str, G.isc c' = true → PySem.W.kitOne K (.ref (g c')) (.ref (g c)) = some (c' == c)
  cint : ∀ (x : String) (n : Int), G.cints x = some n → (∃ t, mg (Str.ofString x) = some (.int n t)) ∧ (Str.ofString x == ("__debug__" : Str)) = false
structure Ct (G : Gb) (g : Str → Addr) (k : Nat) (sc : Scope) (N : List Str) (W : WX) (X : Cx) : Prop where
  hN : X.N = N
  nd : N.Nodup
  sc : X.env.scope = sc
  room : X.calm = true → Room k X.A
  hu : X.A.units + 66 < cLine
  tk : Takes X W
  ok : GOk G g k X.prog X.w X.K X.mg X.base

/-! ### which text -/
def nst : Expr → Bool
  | .Starred _ _ => false
  | _ => true
def nsl : Expr → Bool
  | .Slice _ _ _ _ => false
  | _ => true
/-- no call of super -/
def nab : Expr → Bool
  | .Call _ _ _ _ => false
  | _ => true
def nset : Expr → Bool
  | .Set _ _ _ => false
  | _ => true
theorem star_of {e : Expr} {es : List Expr} {env : Env} (h : nst e = true) : starEach (e :: es) env = (false, eval e env) :: starEach es env := by
  cases e <;> first | rfl | cases h
theorem plainIx_of {e : Expr} (h : nsl e = true) : PlainIx e := by
  intro o i
  cases e <;> first | rfl | cases h
theorem folded_of {e : Expr} {env : Env} (h : nset e = true) (x : Value) : foldedSetIterable e env x = pure x := by
  cases e <;> first | rfl | cases h
theorem mark_of {op : CmpOp} {e : Expr} (h : nset e = true) : behindInMarks op e = false := by
  cases e <;> first | rfl | cases h
theorem stars_of {pos : Pos} {env : Env} : ∀ {es : List Expr}, es.all nst = true → (backTo pos (starEach es env)).any (·.1) = false
  | [], _ => rfl
  | e :: es, h => by
    rw [List.all_cons, Bool.and_eq_true] at h
    rw [star_of h.1]
    show ((false : Bool) || (backTo pos (starEach es env)).any (·.1)) = false
    rw [Bool.false_or]
    exact stars_of h.2
def gl (sc : Scope) (x : Str) : Bool := decide (sc.names.lookup x = some .globalImplicit)
def vis (sc : Scope) (x : Str) : Bool := decide (sc.names.lookup x = some .local) || (decide (sc.names.lookup x = some .cell) || decide (sc.names.lookup x = some .free))
def loc (sc : Scope) (x : Str) : Bool := decide (sc.names.lookup x = some .local) || decide (sc.names.lookup x = some .cell)
def bfN : Bf → String
  | .len => "len"
  | .int1 => "int"
  | .abs => "abs"
  | .min2 => "min"
  | .max2 => "max"
  | .dvm => "divmod"
  | .sum => "sum"
  | .maxL => "max"
  | .minL => "min"
  | .sorted => "sorted"
  | .sortD => "sorted"
  | .list1 => "list"
  | .tuple1 => "tuple"
  | .all1 => "all"
  | .any1 => "any"
def mmN : Mm → String
  | .append => "append"
  | .pop0 => "pop"
  | .pop1 => "pop"
  | .reverse => "reverse"
  | .extend => "extend"
  | .insert => "insert"
  | .remove => "remove"
def isBop : E → Bool
  | .bop _ _ => true
  | _ => false
/-- the classes of isinstance -/
def chkTs (sc : Scope) : List String → Expr → Bool
  | [t], .Name x _ => decide (x = Str.ofString t) && (gl sc x && ["int", "bool", "str", "list", "tuple"].contains t)
  | _, _ => false
def chkTl (sc : Scope) : List String → List Expr → Bool
  | [], [] => true
  | t :: ts, .Name x _ :: es => (decide (x = Str.ofString t) && (gl sc x && ["int", "bool", "str", "list", "tuple"].contains t)) && chkTl sc ts es
  | _, _ => false
def slotIs (N : List Str) (i : Nat) (x : Str) : Bool := decide (N[i]? = some x)
def chkTg (N : List Str) (names : List (Str × NameKind)) : List Nat → List Expr → Bool
  | [], [] => true
  | i :: is, .Name x _ :: es => (slotIs N i x && (decide (names.lookup x = some .local) || decide (names.lookup x = some .cell))) && chkTg N names is es
  | _, _ => false
def chkTgt (N : List Str) (names : List (Str × NameKind)) : List Nat → Expr → Bool
  | [i], .Name x _ => slotIs N i x && (decide (names.lookup x = some .local) || decide (names.lookup x = some .cell))
  | i :: j :: is, .Tuple es _ _ => chkTg N names (i :: j :: is) es
  | _, _ => false
def ownOf (N : List Str) (tg : List Nat) : List (Str × Nat) := tg.map fun i => ((N[i]?).getD Str.empty, i)
section
variable (N : List Str) (calm : Bool) (fl : List String)
mutual
def chkE : E → Scope → Expr → Bool
  | .var i, sc, .Name x _ => slotIs N i x && (vis sc x && (!(x == ("__debug__" : Str)) && !(x == ("__classdict__" : Str))))
  | .fv i, sc, .Name x _ => slotIs N i x && (vis sc x && (!(x == ("__debug__" : Str)) && !(x == ("__classdict__" : Str))))
  | .int n, _, .Constant (.int z) _ _ => decide (n = z)
  | .bl b, _, .Constant (.bool z) _ _ => b == z
  | .non, _, .Constant .none _ _ => true
  | .str x, _, .Constant (.str z) _ _ => decide (z = Str.ofString x)
  | .gint x _, sc, .Name y _ => decide (y = Str.ofString x) && gl sc y
  | .bin op a b, sc, .BinOp l o r _ => decide (op = o) && (chkE a sc l && chkE b sc r)
  | .neg a, sc, .UnaryOp .USub x _ => chkE a sc x
  | .cmp op a b, sc, .Compare l [o] [r] _ => decide (op = o) && (nset r && (chkE a sc l && chkE b sc r))
  | .oeq _ a b, sc, .Compare l [o] [r] _ => calm && (decide (o = .Eq) && (chkE a sc l && chkE b sc r))
  | .bop c es, sc, .BoolOp op vs _ => (match op with
    | .And => c
    | .Or => !c) && chkEs es sc vs
  | .nt a, sc, .UnaryOp .Not x _ => chkE a sc x
  | .chn o1 o2 a b d, sc, .Compare l [p1, p2] [r1, r2] _ => decide (o1 = p1) && (decide (o2 = p2) && (nset r2 && (chkE a sc l && (chkE b sc r1 && chkE d sc r2))))
  | .din n a b, sc, .Compare l [o] [r] _ => decide (o = bif n then .NotIn else .In) && (nset r && (chkE a sc l && chkE b sc r))
  | .ice a, sc, x => chkE a sc x
  | .ite c a b, sc, .IfExp t x y _ => chkE c sc t && (chkE a sc x && chkE b sc y)
  | .tup es, sc, .Tuple xs _ _ => decide (esLen es ≤ 1000) && chkEs es sc xs
  | .lst es, sc, .List xs _ => decide (esLen es ≤ 1000) && chkEs es sc xs
  | .idx a b, sc, .Subscript x y _ => nsl y && (chkE a sc x && chkE b sc y)
  | .slc a lo hi, sc, .Subscript x (.Slice l h none _) _ => chkE a sc x && (chkO lo sc l && chkO hi sc h)
  | .call f es, sc, .Call (.Name x _) args [] _ => calm && (fl.contains f && (decide (x = Str.ofString f) && (gl sc x && chkEs es sc args)))
  | .blt f es, sc, .Call (.Name x _) (a :: args) [] _ => (calm || decide (f = .len)) && (decide (x = Str.ofString (bfN f)) && (gl sc x && chkEs es sc (a :: args)))
  | .isi a ts, sc, .Call (.Name x _) [e, t] [] _ => decide (x = Str.ofString "isinstance") && (gl sc x && (nst e && (nst t && (chkE a sc e && (match t with
    | .Tuple es _ _ => decide (es.length ≤ 1000) && chkTl sc ts es
    | t => chkTs sc ts t)))))
  | .lrg es, sc, .Call (.Name x _) [.Call (.Name y _) args [] _] [] _ => calm && (decide (x = Str.ofString "list") && (decide (y = Str.ofString "range") && (gl sc x && (gl sc y && ((args.length == 1 || args.length == 2) && chkEs es sc args)))))
  | .lset a, sc, .Call (.Name x _) [.Call (.Name y _) [e] [] _] [] _ => calm && (decide (x = Str.ofString "len") && (decide (y = Str.ofString "set") && (gl sc x && (gl sc y && (nst e && chkE a sc e)))))
  | .fld a f, sc, .Attribute e fn _ => nab e && (decide (fn = Str.ofString f) && chkE a sc e)
  | .meth c m a es, sc, .Call (.Attribute e mn ap) args [] cp => calm && (nab e && (decide (mn = Str.ofString m) && ((ap.endLine == cp.line) && (chkE a sc e && (decide (args.length < 9) && chkEs es sc args)))))
  | .new c es, sc, .Call (.Name x _) (a :: args) [] _ => calm && (decide (x = Str.ofString c) && (gl sc x && chkEs es sc (a :: args)))
  | .cm c m es, sc, .Call (.Attribute (.Name x _) mn ap) (a :: args) [] cp => calm && (decide (x = Str.ofString c) && (gl sc x && (decide (mn = Str.ofString m) && ((ap.endLine == cp.line) && (decide ((a :: args).length < 9) && chkEs es sc (a :: args))))))
  | .newv i _ es, sc, .Call (.Name x _) (a :: args) [] _ => calm && ((slotIs N i x && (vis sc x && (!(x == ("__debug__" : Str)) && !(x == ("__classdict__" : Str))))) && chkEs es sc (a :: args))
  | .isc a c, sc, .Call (.Name x _) [e, .Name y _] [] _ => decide (x = Str.ofString "isinstance") && (gl sc x && (nst e && (decide (y = Str.ofString c) && (gl sc y && chkE a sc e))))
  | .cnt a b, sc, .Call (.Attribute e fn ap) [x] [] cp => nab e && (decide (fn = Str.ofString "count") && ((ap.endLine == cp.line) && (nst x && (chkE a sc e && chkE b sc x))))
  | .lc2 tg src cs tg1 src1 cs1 elt, sc, .ListComp el [⟨t, it, ifs, a⟩, ⟨t1, it1, ifs1, a1⟩] scope _ => calm && ((decide (a = 0) && decide (a1 = 0)) && (blkC N sc scope (ownOf N (tg ++ tg1)) && ((chkTgt N scope.names tg t && chkTgt N scope.names tg1 t1) && ((nset it && nset it1) && ((chkS src sc it && chkS src1 (relS scope sc) it1) && ((chkEs cs (relS scope sc) ifs && chkEs cs1 (relS scope sc) ifs1) && ((decide (ifs.length ≤ 1) && decide (ifs1.length ≤ 1)) && chkE elt (relS scope sc) el)))))))
  | .mut m i es, sc, .Call (.Attribute (.Name x _) f ap) args [] cp => slotIs N i x && (vis sc x && (!(x == ("__debug__" : Str)) && (!(x == ("__classdict__" : Str)) && (decide (f = Str.ofString (mmN m)) && ((ap.endLine == cp.line) && (chkEs es sc args && decide (args.length < 9)))))))
  | .lc tg src cs elt, sc, .ListComp el [⟨t, it, ifs, a⟩] scope _ => calm && (decide (a = 0) && (blkC N sc scope (ownOf N tg) && (chkTgt N scope.names tg t && (nset it && (chkS src sc it && (chkEs cs (relS scope sc) ifs && (decide (ifs.length ≤ 1) && chkE elt (relS scope sc) el)))))))
  | _, _, _ => false
def chkEs : Es → Scope → List Expr → Bool
  | .nil, _, [] => true
  | .cons e es, sc, x :: xs => (nst x && chkE e sc x) && chkEs es sc xs
  | _, _, _ => false
def chkO : Ox → Scope → Option Expr → Bool
  | .no, _, none => true
  | .so e, sc, some x => chkE e sc x
  | _, _, _ => false
def chkS : Src → Scope → Expr → Bool
  | .it e, sc, x => chkE e sc x
  | .rng es, sc, .Call (.Name x _) args [] _ => decide (x = Str.ofString "range") && (gl sc x && ((args.length == 1 || args.length == 2) && chkEs es sc args))
  | .rdn es, sc, .Call (.Name x _) args [] _ => decide (x = Str.ofString "range") && (gl sc x && (args.length == 3 && chkEs es sc args))
  | .rev e, sc, .Call (.Name x _) [a] [] _ => decide (x = Str.ofString "reversed") && (gl sc x && (nst a && chkE e sc a))
  | _, _, _ => false
end
end

/-! ### what a term asks -/
section
variable (K : PySem.W.Frag) (g : Str → Addr) (G : Gb) (W : WX)
def tE (m : E) : TE := fun σ H Q => ∃ B en rs vs X Q0, ST K g B en rs σ vs H ∧ XL K g G B W X ∧ ev G m en Q0 X ∧ ∀ d en' v H', Q0 d en' → ST K g B en' (.v d :: rs) σ (v :: vs) H' → Q v H'
def tR (m : E) : TE := fun σ H Q => ∃ B en rs vs X Q0, ST K g B en rs σ vs H ∧ XL K g G B W X ∧ asR m (ev G m) en Q0 X ∧ ∀ r en' v H', Q0 r en' → ST K g B en' (r :: rs) σ (v :: vs) H' → Q v H'
def tT (m : E) : TT := fun σ H Q => ∃ B en rs vs X, ∃ Q0 : Bool → En → Prop, ST K g B en rs σ vs H ∧ XL K g G B W X ∧ ev G m en (fun d e => ∃ b, d = .bl b ∧ Q0 b e) X ∧ ∀ b en' H', Q0 b en' → ST K g B en' rs σ vs H' → Q b H'
def tA (ms : Es) : TA := fun σ H Q => ∃ B en rs vs X Q0, ST K g B en rs σ vs H ∧ XL K g G B W X ∧ evr G ms en Q0 X ∧ ∀ xs en' us H', Q0 xs en' → xs.length = us.length → ST K g B en' (xs ++ rs) σ (us ++ vs) H' → Q us H'
def tV (ms : Es) : TA := fun σ H Q => ∃ B en rs vs X Q0, ST K g B en rs σ vs H ∧ XL K g G B W X ∧ evs G ms en Q0 X ∧ ∀ ds en' us H', Q0 ds en' → ds.length = us.length → ds.length = esLen ms → ST K g B en' (ds.map R.v ++ rs) σ (us ++ vs) H' → Q us H'
def tO (m : Ox) : L2.TO := fun σ H Q => ∃ B en rs vs X Q0, ST K g B en rs σ vs H ∧ XL K g G B W X ∧ evO G m en Q0 X ∧ ∀ o en' H', Q0 o en' → ST K g B en' rs σ vs H' → Q o H'
end
theorem _root_.L2.PE.im {X : Cx} {e : Expr} {t t' : TE} (h : PE X e t) (i : ∀ σ H Q, t' σ H Q → t σ H Q) : PE X e t' := ⟨fun pins s σ H Q I q => h.run pins s σ H Q I (i _ _ _ q)⟩
theorem _root_.L2.PT.im {X : Cx} {e : Expr} {t t' : TT} (h : PT X e t) (i : ∀ σ H Q, t' σ H Q → t σ H Q) : PT X e t' := ⟨fun pins s σ H Q I q => h.run pins s σ H Q I (i _ _ _ q)⟩
theorem _root_.L2.PA.im {X : Cx} {e : List Expr} {t t' : TA} (h : PA X e t) (i : ∀ σ H Q, t' σ H Q → t σ H Q) : PA X e t' := ⟨fun pos pins s σ H Q I q => h.run pos pins s σ H Q I (i _ _ _ q)⟩
theorem _root_.L2.PW.im {X : Cx} {e : Expr} {t t' : TT} (h : PW X e t) (i : ∀ σ H Q, t' σ H Q → t σ H Q) : PW X e t' := ⟨fun wh pins s σ H Q I q => h.run wh pins s σ H Q I (i _ _ _ q)⟩
theorem _root_.L2.PO.im {X : Cx} {e : Option Expr} {t t' : TO} (h : PO X e t) (i : ∀ σ H Q, t' σ H Q → t σ H Q) : PO X e t' := ⟨fun pins s σ H Q I q => h.run pins s σ H Q I (i _ _ _ q)⟩

/-! ### operators keep their word -/
section
variable {K : PySem.W.Frag} {g : Str → Addr} {B : Bs} {en : En} {rs : List R} {σ : Sg} {vs : List V} {H : Hp} {Q : VK}
theorem RepT.hd {Z : AS} {r : R} {d : D} {v : V} {O1 O2 : AS} (e : RepE K g Z H en σ O1) (t : RepT K g Z H σ (r :: rs) (v :: vs) O2) (hr : rv en r = some d) : ∃ O', Rep K g Z H d v O' := by
  cases t with
  | v a1 a2 r t => cases hr; exact ⟨_, r⟩
  | s ev t =>
    obtain ⟨v', A, C, ev', r, _⟩ := e.split (join_some (show (en[_]?).join = some d from hr))
    rw [ev] at ev'
    cases ev'
    exact ⟨_, r⟩
theorem RepT.tl {Z : AS} {r : R} {v : V} {O : AS} (t : RepT K g Z H σ (r :: rs) (v :: vs) O) : RepT K g Z H σ rs vs O := by
  cases t with
  | v a1 a2 r t => exact t.up fun b z => (a2 b z).1
  | s ev t => exact t
theorem RepT.addF {Z : AS} {O : AS} {xs : List D} {us : List V} (r : RepL K g Z H xs us AS.no) (t : RepT K g Z H σ rs vs O) : RepT K g Z H σ (xs.map R.v ++ rs) (us ++ vs) O := by
  induction xs generalizing us with
  | nil =>
    cases r
    exact t
  | cons x xs ih =>
    cases r with
    | cons b1 b2 r r' => exact .v (O1 := AS.no) (fun _ z => z.elim) (fun _ z => ⟨z, id⟩) (r.up b1) (ih (r'.up fun b z => (b2 b z).1))
/-- where the parts of a list or tuple stand -/
def Seq (K : PySem.W.Frag) (H : Hp) (d : D) (a : Addr) (us : List V) : Prop := (isLst d = true ∧ Rd H a (.lst us)) ∨ (isLst d = false ∧ SqT K H a us)
theorem Rep.seq {Z O : AS} {d : D} {v : V} {xs : List D} (r : Rep K g Z H d v O) (hx : itms d = some xs) : ∃ a us O', v = .ref a ∧ xs.length = us.length ∧ Seq K H d a us ∧ RepL K g Z H xs us O' := by
  cases r with
  | tup e r => cases hx; exact ⟨_, _, _, rfl, r.length, .inr ⟨rfl, e⟩, r⟩
  | lstO e oa s r => cases hx; exact ⟨_, _, _, rfl, r.length, .inl ⟨rfl, .inl e⟩, r⟩
  | lstF z e r => cases hx; exact ⟨_, _, _, rfl, r.length, .inl ⟨rfl, e⟩, r⟩
  | _ => cases hx
/-- the parts of what is in flight -/
theorem ST.seq {r : R} {d : D} {v : V} {xs : List D} (h : ST K g B en (r :: rs) σ (v :: vs) H) (hr : rv en r = some d) (hx : itms d = some xs) :
    ∃ a us, v = .ref a ∧ xs.length = us.length ∧ Seq K H d a us ∧ ∃ Z O, RepL K g Z H xs us O := by
  obtain ⟨Z, O, r, _, _⟩ := h.rep hr
  obtain ⟨a, us, O', e1, e2, e3, r'⟩ := r.seq hx
  exact ⟨a, us, e1, e2, e3, Z, O', r'⟩
/-- .. which may stand elsewhere where nothing is owned -/
theorem ST.seqF {r : R} {d : D} {v : V} {xs : List D} (h : ST K g B en (r :: rs) σ (v :: vs) H) (hr : rv en r = some d) (hx : itms d = some xs) (hf : fzs xs = true) :
    ∃ a us, v = .ref a ∧ xs.length = us.length ∧ Seq K H d a us ∧ ST K g B en (xs.map R.v ++ rs) σ (us ++ vs) H ∧ ∀ n : Nat, ST K g B en ((List.replicate n xs).flatten.map R.v ++ rs) σ ((List.replicate n us).flatten ++ vs) H := by
  obtain ⟨⟨Z, O, O1, O2, e, t, s1, s2, q, p⟩, hl⟩ := h
  obtain ⟨O', r⟩ := t.hd e hr
  obtain ⟨a, us, O'', e1, e2, e3, r'⟩ := r.seq hx
  have r0 := r'.none hf
  have many : ∀ n : Nat, RepL K g Z H (List.replicate n xs).flatten (List.replicate n us).flatten AS.no := by
    intro n
    induction n with
    | zero => exact .nil
    | succ n ih =>
      rw [List.replicate_succ, List.replicate_succ, List.flatten_cons, List.flatten_cons]
      exact r0.app ih (fun _ z => z) fun _ z => z.elim
  have hl' : rs.length = vs.length := by simpa using hl
  refine ⟨a, us, e1, e2, e3, ⟨⟨Z, O, O1, O2, e, ?_, s1, s2, q, p⟩, ?_⟩, fun n => ⟨⟨Z, O, O1, O2, e, ?_, s1, s2, q, p⟩, ?_⟩⟩
  · rw [List.append_assoc, List.append_assoc]
    exact RepT.addF r0 t.tl
  · rw [List.length_append, List.length_append, List.length_map, e2, hl']
  · rw [List.append_assoc, List.append_assoc]
    exact RepT.addF (many n) t.tl
  · rw [List.length_append, List.length_append, List.length_map, (many n).length, hl']
/-- .. in any order -/
theorem RepL.perm {K : PySem.W.Frag} {g : Str → Addr} {Z : AS} {H : Hp} {us zs : List V} (p : zs.Perm us) : ∀ {ds : List D}, RepL K g Z H ds us AS.no → ∃ ds', ds'.Perm ds ∧ RepL K g Z H ds' zs AS.no := by
  induction p with
  | nil => exact fun r => ⟨_, List.Perm.refl _, r⟩
  | cons x _ ih =>
    intro ds r
    cases r with
    | cons s1 s2 r t =>
      obtain ⟨ds', p', r'⟩ := ih (t.up fun b z => (s2 b z).1)
      exact ⟨_, p'.cons _, .cons s1 (fun _ z => z.elim) r r'⟩
  | swap x y l =>
    intro ds r
    cases r with
    | cons s1 s2 r t =>
      cases t with
      | cons s3 s4 r2 t =>
        have n1 := r.up (O' := AS.no) (fun b z => (s1 b z))
        have n2 := r2.up (O' := AS.no) (fun b z => (s2 b (s3 b z)).1)
        exact ⟨_, List.Perm.swap _ _ _, .cons (fun _ z => z) (fun _ z => z.elim) n2 (.cons (fun _ z => z) (fun _ z => z.elim) n1 (t.up fun b z => (s2 b (s4 b z).1).1))⟩
  | trans _ _ ih1 ih2 =>
    intro ds r
    obtain ⟨d1, p1, r1⟩ := ih2 r
    obtain ⟨d2, p2, r2⟩ := ih1 r1
    exact ⟨d2, p2.trans p1, r2⟩
theorem ST.seqP {r : R} {d : D} {v : V} {xs : List D} (h : ST K g B en (r :: rs) σ (v :: vs) H) (hr : rv en r = some d) (hx : itms d = some xs) (hf : fzs xs = true) :
    ∃ a us, v = .ref a ∧ xs.length = us.length ∧ Seq K H d a us ∧ (∃ Z, RepL K g Z H xs us AS.no) ∧ ∀ zs : List V, zs.Perm us → ∃ ys : List D, ys.Perm xs ∧ ST K g B en (ys.map R.v ++ rs) σ (zs ++ vs) H := by
  obtain ⟨⟨Z, O, O1, O2, e, t, s1, s2, q, p⟩, hl⟩ := h
  obtain ⟨O', r⟩ := t.hd e hr
  obtain ⟨a, us, O'', e1, e2, e3, r'⟩ := r.seq hx
  have r0 := r'.none hf
  have hl' : rs.length = vs.length := by simpa using hl
  refine ⟨a, us, e1, e2, e3, ⟨Z, r0⟩, fun zs pm => ?_⟩
  obtain ⟨ys, py, ry⟩ := r0.perm pm
  refine ⟨ys, py, ⟨Z, O, O1, O2, e, ?_, s1, s2, q, p⟩, ?_⟩
  · rw [List.append_assoc, List.append_assoc]
    exact RepT.addF ry t.tl
  · rw [List.length_append, List.length_append, List.length_map, ry.length, hl']
theorem ST.seq2 {r1 r2 : R} {d1 d2 : D} {v1 v2 : V} {xs ys : List D} (h : ST K g B en (r2 :: r1 :: rs) σ (v2 :: v1 :: vs) H) (h1 : rv en r1 = some d1) (h2 : rv en r2 = some d2) (x1 : itms d1 = some xs) (x2 : itms d2 = some ys) (f1 : fzs xs = true) (f2 : fzs ys = true) :
    ∃ a us b ws, v1 = .ref a ∧ v2 = .ref b ∧ xs.length = us.length ∧ ys.length = ws.length ∧ Seq K H d1 a us ∧ Seq K H d2 b ws ∧ ST K g B en ((xs ++ ys).map R.v ++ rs) σ ((us ++ ws) ++ vs) H := by
  obtain ⟨⟨Z, O, O1, O2, e, t, s1, s2, q, p⟩, hl⟩ := h
  obtain ⟨O', r⟩ := t.hd e h2
  obtain ⟨b, ws, O'', e1, e2, e3, r'⟩ := r.seq x2
  obtain ⟨U', w⟩ := t.tl.hd e h1
  obtain ⟨a, us, U'', i1, i2, i3, w'⟩ := w.seq x1
  refine ⟨a, us, b, ws, i1, e1, i2, e2, i3, e3, ⟨Z, O, O1, O2, e, ?_, s1, s2, q, p⟩, ?_⟩
  · rw [List.append_assoc, List.append_assoc]
    exact RepT.addF ((w'.none f1).app (r'.none f2) (fun _ z => z) fun _ z => z.elim) t.tl.tl
  · simp only [List.length_append, List.length_map, List.length_cons] at hl ⊢
    omega
/-- what is in flight as the name's stands for itself -/
theorem ST.self {r : R} {d : D} {v : V} (h : ST K g B en (r :: rs) σ (v :: vs) H) (hr : rv en r = some d) (hf : fz d = true) : ST K g B en (.v d :: rs) σ (v :: vs) H := by
  obtain ⟨⟨Z, O, O1, O2, e, t, s1, s2, q, p⟩, hl⟩ := h
  obtain ⟨O', r⟩ := t.hd e hr
  exact ⟨⟨Z, O, O1, O2, e, .v (O1 := AS.no) (fun _ z => z.elim) (fun _ z => ⟨z, id⟩) (r.none hf) t.tl, s1, s2, q, p⟩, hl⟩
theorem sizeL {n : Nat} (h : n ≤ 16777216) : n ≤ sizeLine := by rw [sizeLine_eq]; exact h
theorem ST.rep2 {r1 r2 : R} {d1 d2 : D} {v1 v2 : V} (h : ST K g B en (r2 :: r1 :: rs) σ (v2 :: v1 :: vs) H) (h1 : rv en r1 = some d1) (h2 : rv en r2 = some d2) : ∃ Z O Z' O', Rep K g Z H d1 v1 O ∧ Rep K g Z' H d2 v2 O' := by
  obtain ⟨Z', O', q2, _⟩ := h.rep h2
  obtain ⟨Z, O, q1, _⟩ := h.drop.rep h1
  exact ⟨Z, O, Z', O', q1, q2⟩
theorem bin_sat {op : Operator} {r1 r2 : R} {d1 d2 : D} {v1 v2 : V} {k : D → Prop} (h : ST K g B en (r2 :: r1 :: rs) σ (v2 :: v1 :: vs) H) (h1 : rv en r1 = some d1) (h2 : rv en r2 = some d2) (hw : bopW op d1 d2 k)
    (hq : ∀ d v H', k d → ST K g B en (.v d :: rs) σ (v :: vs) H' → Q v H') : rBin K op v1 v2 H Q := by
  obtain ⟨Z, O, Z', O', q1, q2⟩ := h.rep2 h1 h2
  have flat : ∀ {d : D} {v : V}, k d → (∀ Z, Rep K g Z H d v AS.no) → Q v H := fun hk hr => hq _ _ _ hk (h.drop.drop.flat hr)
  cases op with
  | Add =>
    have hw' : addW d1 d2 k := hw
    unfold addW at hw'
    split at hw'
    · cases q1
      cases q2
      exact .inl (.inl (.inl ⟨_, _, rfl, rfl, flat hw' fun _ => .int _⟩))
    · cases q1
      cases q2
      exact .inl (.inl (.inr ⟨_, _, rfl, rfl, sizeL hw'.1, flat hw'.2 fun _ => .str _⟩))
    · obtain ⟨⟨f1, f2, hz⟩, hk⟩ := hw'
      obtain ⟨a, us, b, ws, rfl, rfl, l1, l2, e1, e2, s⟩ := h.seq2 h1 h2 rfl rfl f1 f2
      refine .inl (.inr ⟨a, b, us, ws, rfl, rfl, e1.elim (fun z => z.2) (fun z => nomatch z.1), e2.elim (fun z => z.2) (fun z => nomatch z.1), sizeL (by omega), fun p hp => hq _ _ _ hk (s.lst (by simp only [List.length_append]; omega) hp)⟩)
    · obtain ⟨⟨f1, f2, hz⟩, hk⟩ := hw'
      obtain ⟨a, us, b, ws, rfl, rfl, l1, l2, e1, e2, s⟩ := h.seq2 h1 h2 rfl rfl f1 f2
      refine .inr ⟨a, b, us, ws, rfl, rfl, e1.elim (fun z => nomatch z.1) fun z => z.2, e2.elim (fun z => nomatch z.1) fun z => z.2, sizeL (by omega), fun z => ?_, fun z z' => ?_, fun z z' p hp => hq _ _ _ hk (s.tup (by simp only [List.length_append]; omega) hp)⟩
      · subst z
        cases List.eq_nil_of_length_eq_zero l1
        exact hq _ _ _ hk (h.swap.drop.self h2 f2)
      · subst z'
        cases List.eq_nil_of_length_eq_zero l2
        rw [List.append_nil] at hk
        exact hq _ _ _ hk (h.drop.self h1 f1)
    · exact hw'.elim
  | Sub =>
    have hw' : subW d1 d2 k := hw
    unfold subW at hw'
    split at hw'
    · cases q1
      cases q2
      exact ⟨_, _, rfl, rfl, flat hw' fun _ => .int _⟩
    · exact hw'.elim
  | Mult =>
    have hw' : mulW d1 d2 k := hw
    unfold mulW at hw'
    split at hw'
    · cases q1
      cases q2
      obtain ⟨c, hk⟩ := hw'
      rcases c with c | c | c
      · exact .inl (.inl ⟨_, _, rfl, rfl, .inl c, flat hk fun _ => .int _⟩)
      · exact .inl (.inl ⟨_, _, rfl, rfl, .inr c, flat hk fun _ => .int _⟩)
      · exact .inl (.inr ⟨_, _, rfl, rfl, c, flat hk fun _ => .int _⟩)
    · obtain ⟨⟨f1, c1, c2, c3⟩, hk⟩ := hw'
      cases q2
      obtain ⟨a, us, rfl, l1, e1, s, sn⟩ := h.drop.seqF h1 rfl f1
      have e1' := e1.elim (fun z => z.2) (fun z => nomatch z.1)
      refine .inr ⟨a, _, us, rfl, rfl, e1', c1, c2, sizeL (by rw [← l1]; exact c3), fun p hp => hq _ _ _ hk ((sn _).lst ?_ hp)⟩
      simp only [List.length_flatten, List.map_replicate, List.sum_replicate_nat, l1]
    · exact hw'.elim
  | FloorDiv =>
    have hw' : fdivW d1 d2 k := hw
    unfold fdivW at hw'
    split at hw'
    · cases q1
      cases q2
      exact ⟨_, _, rfl, rfl, hw'.1, flat hw'.2 fun _ => .int _⟩
    · exact hw'.elim
  | Mod =>
    have hw' : modW d1 d2 k := hw
    unfold modW at hw'
    split at hw'
    · cases q1
      cases q2
      exact ⟨_, _, rfl, rfl, hw'.1, flat hw'.2 fun _ => .int _⟩
    · exact hw'.elim
  | Pow =>
    have hw' : powW d1 d2 k := hw
    unfold powW at hw'
    split at hw'
    · cases q1
      cases q2
      exact ⟨_, _, rfl, rfl, hw'.1, flat hw'.2 fun _ => .int _⟩
    · exact hw'.elim
  | _ => exact (show False from hw).elim
end
end Pf

/-! Comparisons, built-ins. -/
namespace Pf
open PySem PySem.Spec PyProof.Rows L2
section
variable {K : PySem.W.Frag} {g : Str → Addr} {Z : AS} {H : Hp}
mutual
theorem Rep.dp : ∀ {d : D} {v : V} {O : AS} {n : Nat}, Rep K g Z H d v O → dat n d = true → Dp K H v (toP d)
  | _, _, _, _, .non, _ => .non
  | _, _, _, _, .bl b, _ => .bl b
  | _, _, _, _, .int i, _ => .int i
  | _, _, _, _, .str x, _ => .str x
  | _, _, _, 0, .tup e r, h => by simp [dat] at h
  | _, _, _, 0, .lstO e oa s r, h => by simp [dat] at h
  | _, _, _, 0, .lstF z e r, h => by simp [dat] at h
  | _, _, _, n + 1, .tup e r, h => .tup e (RepL.dp (n := n) r (by simpa [dat] using h))
  | _, _, _, n + 1, .lstO e oa s r, h => .lst (.inl (.inl e)) (RepL.dp (n := n) r (by simpa [dat] using h))
  | _, _, _, n + 1, .lstF z e r, h => .lst (.inl e) (RepL.dp (n := n) r (by simpa [dat] using h))
  | _, _, _, n, .insO e hl oa s r, h => by cases n <;> simp [dat] at h
  | _, _, _, n, .insF z e hl r, h => by cases n <;> simp [dat] at h
  | _, _, _, n, .cls c, h => by cases n <;> simp [dat] at h
theorem RepL.dp : ∀ {ds : List D} {vs : List V} {O : AS} {n : Nat}, RepL K g Z H ds vs O → dats n ds = true → DpAll K H vs (toPs ds)
  | _, _, _, _, .nil, _ => .nil
  | _, _, _, n, .cons s1 s2 r t, h => by
    rw [dats, Bool.and_eq_true] at h
    exact .cons (Rep.dp r h.1) (RepL.dp t h.2)
end
end
mutual
theorem shp_of : ∀ (d : D) (n : Nat), dat n d = true → (toP d).canLay0 = true ∧ (toP d).depth ≤ n
  | .non, _, _ => ⟨by rw [toP, PyData.canLay0], by rw [toP, PyData.depth]; exact Nat.zero_le _⟩
  | .bl _, _, _ => ⟨by rw [toP, PyData.canLay0], by rw [toP, PyData.depth]; exact Nat.zero_le _⟩
  | .int _, _, _ => ⟨by rw [toP, PyData.canLay0], by rw [toP, PyData.depth]; exact Nat.zero_le _⟩
  | .str x, n, h => ⟨by rw [toP, PyData.canLay0]; cases n <;> simpa [dat] using h, by rw [toP, PyData.depth]; exact Nat.zero_le _⟩
  | .tup xs, 0, h => by simp [dat] at h
  | .lst _ xs, 0, h => by simp [dat] at h
  | .tup xs, n + 1, h => by
    have z := shps_of xs n (by simpa [dat] using h)
    rw [toP, PyData.canLay0, PyData.depth]
    exact ⟨z.1, by omega⟩
  | .lst _ xs, n + 1, h => by
    have z := shps_of xs n (by simpa [dat] using h)
    rw [toP, PyData.canLay0, PyData.depth]
    exact ⟨z.1, by omega⟩
  | .ins _ _ _ _, n, h => by cases n <;> simp [dat] at h
  | .cls _, n, h => by cases n <;> simp [dat] at h
theorem shps_of : ∀ (ds : List D) (n : Nat), dats n ds = true → PyData.canLayAll0 (toPs ds) = true ∧ PyData.depthAll (toPs ds) ≤ n
  | [], _, _ => ⟨by rw [toPs, PyData.canLayAll0], by rw [toPs, PyData.depthAll]; exact Nat.zero_le _⟩
  | d :: ds, n, h => by
    rw [dats, Bool.and_eq_true] at h
    have z := shp_of d n h.1
    have z' := shps_of ds n h.2
    rw [toPs, PyData.canLayAll0, PyData.depthAll, z.1, z'.1]
    exact ⟨rfl, by omega⟩
end
mutual
theorem eqv_of : ∀ (d e : D) (n m : Nat), dat n d = true → dat m e = true → PyData.eqv (toP d) (toP e) = deq d e
  | d, e, n, m, h, h' => by
    cases d with
    | tup xs =>
      cases e with
      | tup ys =>
        cases n with
        | zero => simp [dat] at h
        | succ n =>
          cases m with
          | zero => simp [dat] at h'
          | succ m =>
            rw [toP, toP, PyData.eqv, deq]
            exact eqvs_of xs ys n m (by simpa [dat] using h) (by simpa [dat] using h')
      | ins _ _ _ _ => cases m <;> simp [dat] at h'
      | _ => simp [toP, PyData.eqv, deq]
    | lst o xs =>
      cases e with
      | lst o' ys =>
        cases n with
        | zero => simp [dat] at h
        | succ n =>
          cases m with
          | zero => simp [dat] at h'
          | succ m =>
            rw [toP, toP, PyData.eqv, deq]
            exact eqvs_of xs ys n m (by simpa [dat] using h) (by simpa [dat] using h')
      | ins _ _ _ _ => cases m <;> simp [dat] at h'
      | _ => simp [toP, PyData.eqv, deq]
    | ins _ _ _ _ => cases n <;> simp [dat] at h
    | cls _ => cases n <;> simp [dat] at h
    | _ =>
      cases e with
      | ins _ _ _ _ => cases m <;> simp [dat] at h'
      | cls _ => cases m <;> simp [dat] at h'
      | _ => simp [toP, PyData.eqv, deq]
theorem eqvs_of : ∀ (ds es : List D) (n m : Nat), dats n ds = true → dats m es = true → PyData.eqvAll (toPs ds) (toPs es) = deqs ds es
  | [], [], _, _, _, _ => by simp [toPs, PyData.eqvAll, deqs]
  | [], _ :: _, _, _, _, _ => by simp [toPs, PyData.eqvAll, deqs]
  | _ :: _, [], _, _, _, _ => by simp [toPs, PyData.eqvAll, deqs]
  | d :: ds, e :: es, n, m, h, h' => by
    rw [dats, Bool.and_eq_true] at h h'
    rw [toPs, toPs, PyData.eqvAll, deqs, eqv_of d e n m h.1 h'.1, eqvs_of ds es n m h.2 h'.2]
end
section
variable {K : PySem.W.Frag} {g : Str → Addr} {B : Bs} {en : En} {rs : List R} {σ : Sg} {vs : List V} {H : Hp} {Q : VK} {Z O : AS}
theorem ST.dropL {xs : List R} {us : List V} (h : ST K g B en (xs ++ rs) σ (us ++ vs) H) (hl : xs.length = us.length) : ST K g B en rs σ vs H := by
  induction xs generalizing us with
  | nil =>
    cases us with
    | nil => exact h
    | cons _ _ => cases hl
  | cons x xs ih =>
    cases us with
    | nil => cases hl
    | cons u us => exact ih (ST.drop h) (by simpa using hl)
theorem Rep.flat {d : D} {v : V} (r : Rep K g Z H d v O) (h : flat d = true) : flatV v = true := by
  cases r <;> first | rfl | cases h
theorem Rep.eqV {d e : D} {v u : V} {Z' O' : AS} (r : Rep K g Z H d v O) (r' : Rep K g Z' H e u O') (h : Pf.flat d = true) (h' : Pf.flat e = true) : eqV v u = deq d e := by
  cases r <;> first | (cases h; done) | (cases r' <;> first | (cases h'; done) | simp [L2.eqV, deq])
theorem RepL.any {ds : List D} {us : List V} {e : D} {u : V} {Z' O' : AS} (r : RepL K g Z H ds us O) (r' : Rep K g Z' H e u O') (h : ds.all Pf.flat = true) (h' : Pf.flat e = true) : us.all flatV = true ∧ (us.any fun y => L2.eqV y u) = ds.any fun y => deq y e := by
  induction ds generalizing us O with
  | nil => cases r; exact ⟨rfl, rfl⟩
  | cons d ds ih =>
    rw [List.all_cons, Bool.and_eq_true] at h
    cases r with
    | cons s1 s2 r t =>
      obtain ⟨i1, i2⟩ := ih t h.2
      refine ⟨?_, ?_⟩
      · rw [List.all_cons, i1, Rep.flat r h.1]; rfl
      · rw [List.any_cons, List.any_cons, i2, Rep.eqV r r' h.1 h']
theorem cmp_sat {op : CmpOp} {r1 r2 : R} {d1 d2 : D} {v1 v2 : V} {k : D → Prop} (h : ST K g B en (r2 :: r1 :: rs) σ (v2 :: v1 :: vs) H) (h1 : rv en r1 = some d1) (h2 : rv en r2 = some d2) (hw : cmpW op d1 d2 k)
    (hq : ∀ b : Bool, k (.bl b) → Q (.bl b) H) : rCmp K op v1 v2 H Q := by
  obtain ⟨Z, O, Z', O', q1, q2⟩ := h.rep2 h1 h2
  have hint : ∀ {p : Int → Int → Bool}, intW p d1 d2 k → (rI0 fun i j => .bl (p i j)) v1 v2 H Q := fun {p} hw => by
    unfold intW at hw
    split at hw
    · cases q1
      cases q2
      exact ⟨_, _, rfl, rfl, hq _ hw⟩
    · exact hw.elim
  have heq : ∀ {n : Bool}, eqW n d1 d2 k → ∃ d e, Dp K H v1 d ∧ Dp K H v2 e ∧ SeqAt.shaped d = true ∧ SeqAt.shaped e = true ∧ Q (.bl (n ^^ PyData.eqv d e)) H := fun {n} hw => by
    obtain ⟨⟨a, b⟩, hk⟩ := hw
    have sh : ∀ {d : D}, dat 60 d = true → SeqAt.shaped (toP d) = true := fun {d} h => by
      obtain ⟨x, y⟩ := shp_of d 60 h
      unfold SeqAt.shaped
      rw [x, Bool.true_and]
      exact decide_eq_true (by omega)
    refine ⟨_, _, q1.dp a, q2.dp b, sh a, sh b, ?_⟩
    rw [eqv_of d1 d2 60 60 a b]
    exact hq _ hk
  have hin : ∀ {n : Bool}, inW n d1 d2 k → rIn K n v1 v2 H Q := fun {n} hw => by
    unfold inW at hw
    split at hw
    · rename_i xs hx
      obtain ⟨⟨f1, f2⟩, hk⟩ := hw
      obtain ⟨a, us, O'', rfl, l1, e1, r'⟩ := q2.seq hx
      obtain ⟨i1, i2⟩ := r'.any q1 f2 f1
      refine ⟨a, us, rfl, ?_, q1.flat f1, i1, ?_⟩
      · exact e1.elim (fun z => .inl (.inl z.2)) fun z => .inr z.2
      · have e : (if n = true then !inV v1 us else inV v1 us) = (n ^^ xs.any fun y => deq y d1) := by
          unfold inV
          rw [i2]
          cases n <;> simp
        rw [e]
        exact hq _ hk
    · exact hw.elim
  cases op with
  | Lt => exact hint hw
  | LtE => exact hint hw
  | Gt => exact hint hw
  | GtE => exact hint hw
  | Eq =>
    obtain ⟨d, e, a1, a2, a3, a4, q⟩ := heq (n := false) hw
    rw [Bool.false_xor] at q
    exact ⟨d, e, a1, a2, a3, a4, q⟩
  | NotEq =>
    obtain ⟨d, e, a1, a2, a3, a4, q⟩ := heq (n := true) hw
    rw [Bool.true_xor] at q
    exact ⟨d, e, a1, a2, a3, a4, q⟩
  | In => exact hin hw
  | NotIn => exact hin hw
  | Is =>
    have hw' : isW false d1 d2 k := hw
    unfold isW at hw'
    split at hw'
    · cases q2
      refine .inl ⟨rfl, ?_⟩
      have e : decide (v1 = .non) = isNon d1 := by cases q1 <;> simp [isNon]
      rw [e]
      rw [Bool.false_xor] at hw'
      exact hq _ hw'
    · cases q1
      cases q2
      rw [Bool.false_xor] at hw'
      exact .inr ⟨_, _, rfl, rfl, hq _ hw'⟩
    · exact hw'.elim
  | IsNot =>
    have hw' : isW true d1 d2 k := hw
    unfold isW at hw'
    split at hw'
    · cases q2
      refine .inl ⟨rfl, ?_⟩
      have e : decide (v1 = .non) = isNon d1 := by cases q1 <;> simp [isNon]
      rw [e]
      rw [Bool.true_xor] at hw'
      exact hq _ hw'
    · cases q1
      cases q2
      rw [Bool.true_xor] at hw'
      exact .inr ⟨_, _, rfl, rfl, hq _ hw'⟩
    · exact hw'.elim
theorem sortI_of {ns ns' : List Int} (p : ns'.Perm ns) (s : ns'.Pairwise (· ≤ ·)) : ns' = sortI ns := by
  refine (p.trans (List.mergeSort_perm ns _).symm).eq_of_pairwise (le := fun a b => decide (a ≤ b)) (fun a b _ _ x y => ?_) (s.imp fun h => decide_eq_true h) (List.pairwise_mergeSort (fun a b c x y => ?_) (fun a b => ?_) ns)
  · exact Int.le_antisymm (of_decide_eq_true x) (of_decide_eq_true y)
  · exact decide_eq_true (Int.le_trans (of_decide_eq_true x) (of_decide_eq_true y))
  · rw [Bool.or_eq_true, decide_eq_true_eq, decide_eq_true_eq]
    exact Int.le_total a b
theorem rvs1 {r : R} {ds : List D} (h : rvs en [r] = some ds) : ∃ d, ds = [d] ∧ rv en r = some d := by
  unfold rvs at h
  split at h
  · rename_i d ds' e1 e2
    cases e2
    cases h
    exact ⟨d, rfl, e1⟩
  · cases h
theorem rvs_cons {r : R} {rs' : List R} {ds : List D} (h : rvs en (r :: rs') = some ds) : ∃ d ds', ds = d :: ds' ∧ rv en r = some d ∧ rvs en rs' = some ds' := by
  rw [rvs] at h
  split at h
  · rename_i d ds' e1 e2
    cases h
    exact ⟨d, ds', rfl, e1, e2⟩
  · cases h
theorem rvs_len : ∀ {rs' : List R} {ds : List D}, rvs en rs' = some ds → rs'.length = ds.length
  | [], _, h => by cases h; rfl
  | r :: rs', ds, h => by
    obtain ⟨d, ds', rfl, _, e⟩ := rvs_cons h
    rw [List.length_cons, List.length_cons, rvs_len e]
/-- what one argument asks -/
theorem one_of {xs : List R} {us : List V} {d : D} (h : ST K g B en (xs ++ rs) σ (us ++ vs) H) (hl : xs.length = us.length) (hr : rvs en xs = some [d]) : ∃ r v, xs = [r] ∧ us = [v] ∧ rv en r = some d ∧ ST K g B en (r :: rs) σ (v :: vs) H := by
  have e := rvs_len hr
  match xs, us, e, hl with
  | [r], [v], _, _ =>
    obtain ⟨d', e1, e2⟩ := rvs1 hr
    cases e1
    exact ⟨r, v, rfl, rfl, e2, h⟩
theorem two_of {xs : List R} {us : List V} {d1 d2 : D} (h : ST K g B en (xs ++ rs) σ (us ++ vs) H) (hl : xs.length = us.length) (hr : rvs en xs = some [d1, d2]) : ∃ r1 v1 r2 v2, xs = [r1, r2] ∧ us = [v1, v2] ∧ rv en r1 = some d1 ∧ rv en r2 = some d2 ∧ ST K g B en (r1 :: r2 :: rs) σ (v1 :: v2 :: vs) H := by
  have e := rvs_len hr
  match xs, us, e, hl with
  | [r1, r2], [v1, v2], _, _ =>
    obtain ⟨d, ds, e1, e2, e3⟩ := rvs_cons hr
    obtain ⟨d', e4, e5⟩ := rvs1 e3
    cases e1
    cases e4
    exact ⟨r1, v1, r2, v2, rfl, rfl, e2, e5, h⟩
theorem toPs_map : ∀ ds : List D, toPs ds = ds.map toP
  | [] => rfl
  | d :: ds => by rw [toPs, List.map_cons, toPs_map ds]
theorem dats_mem {n : Nat} : ∀ {ds : List D}, dats n ds = true → ∀ d ∈ ds, dat n d = true
  | d :: ds, h, x, hx => by
    rw [dats, Bool.and_eq_true] at h
    rcases List.mem_cons.mp hx with rfl | hx
    · exact h.1
    · exact dats_mem h.2 x hx
theorem dvm_ok {i j : Int} (h : 0 < j ∧ j.natAbs.log2 < 9000) : CDivP i j := by
  refine ⟨h.1, ?_⟩
  show (decide ((if j == 0 then 0 else j.natAbs.log2 / 30 + 1) > 300) && decide ((if i == 0 then 0 else i.natAbs.log2 / 30 + 1) > (if j == 0 then 0 else j.natAbs.log2 / 30 + 1) + 150)) = false
  rw [if_neg (show ¬ (j == 0) = true by simpa using (show j ≠ 0 by omega))]
  have : decide (j.natAbs.log2 / 30 + 1 > 300) = false := decide_eq_false (by omega)
  rw [this]
  rfl
theorem blt_sat {f : Bf} {xs : List R} {us : List V} {ds : List D} {k : D → Prop} (h : ST K g B en (xs ++ rs) σ (us ++ vs) H) (hl : xs.length = us.length) (hr : rvs en xs = some ds) (hw : bltW f ds k)
    (hq : ∀ d v H', k d → ST K g B en (.v d :: rs) σ (v :: vs) H' → Q v H') : rBlt K f us H Q := by
  have flat : ∀ {d : D} {v : V}, k d → (∀ Z, Rep K g Z H d v AS.no) → Q v H := fun hk hr => hq _ _ _ hk ((h.dropL hl).flat hr)
  have hints : ∀ {a : D} {f : List Int → Prop}, rvs en xs = some [a] → intsW a f → ∃ (p : Addr) (ns : List Int), us = [V.ref p] ∧ Seq K H a p (ns.map V.int) ∧ f ns := fun {a f} hr hw => by
    obtain ⟨ns, hx, hf⟩ := hw
    obtain ⟨r, v, rfl, rfl, e, s⟩ := one_of h hl hr
    obtain ⟨p, ws, rfl, l, e1, Z, O, r'⟩ := s.seq e hx
    rw [r'.intsV] at e1
    exact ⟨p, ns, rfl, e1, hf⟩
  have bls : ∀ {a : D} {bs : List Bool}, rvs en xs = some [a] → itms a = some (bs.map .bl) → ∃ (p : Addr), us = [V.ref p] ∧ Seq K H a p (bs.map V.bl) := fun {a bs} hr hx => by
    obtain ⟨r, v, rfl, rfl, e, s⟩ := one_of h hl hr
    obtain ⟨p, ws, rfl, l, e1, Z, O, r'⟩ := s.seq e hx
    rw [r'.blsV] at e1
    exact ⟨p, rfl, e1⟩
  have lstOf : ∀ {a : D} {p : Addr} {ws : List V}, isLst a = true → Seq K H a p ws → SqL K H p ws := fun ha e => e.elim (fun z => .inl z.2) fun z => by rw [ha] at z; cases z.1
  unfold bltW at hw
  split at hw
  · -- len
    rename_i a k
    obtain ⟨r, v, rfl, rfl, e, s⟩ := one_of h hl hr
    obtain ⟨Z, O, q, _⟩ := s.rep e
    unfold lenW at hw
    split at hw
    · obtain ⟨p, ws, rfl, l, e1, _⟩ := s.seq e rfl
      refine ⟨_, ws.length, rfl, .inl ⟨ws, lstOf rfl e1, rfl⟩, ?_⟩
      rw [← l]
      exact flat hw fun _ => .int _
    · obtain ⟨p, ws, rfl, l, e1, _⟩ := s.seq e rfl
      refine ⟨_, ws.length, rfl, .inr ⟨ws, e1.elim (fun z => nomatch z.1) fun z => z.2, rfl⟩, ?_⟩
      rw [← l]
      exact flat hw fun _ => .int _
    · cases q
      exact ⟨_, _, rfl, ⟨sizeL hw.1, rfl⟩, flat hw.2 fun _ => .int _⟩
    · exact hw.elim
  · obtain ⟨r, v, rfl, rfl, e, s⟩ := one_of h hl hr
    obtain ⟨Z, O, q, _⟩ := s.rep e
    cases q
    exact .inl ⟨_, rfl, flat hw fun _ => .int _⟩
  · obtain ⟨r, v, rfl, rfl, e, s⟩ := one_of h hl hr
    obtain ⟨Z, O, q, _⟩ := s.rep e
    cases q
    exact .inr ⟨_, rfl, flat hw fun _ => .int _⟩
  · obtain ⟨r, v, rfl, rfl, e, s⟩ := one_of h hl hr
    obtain ⟨Z, O, q, _⟩ := s.rep e
    cases q
    exact ⟨_, rfl, flat hw fun _ => .int _⟩
  · obtain ⟨r1, v1, r2, v2, rfl, rfl, e1, e2, s⟩ := two_of h hl hr
    obtain ⟨Z, O, Z', O', q2, q1⟩ := s.rep2 e2 e1
    cases q1
    cases q2
    exact ⟨_, _, rfl, flat hw fun _ => .int _⟩
  · obtain ⟨r1, v1, r2, v2, rfl, rfl, e1, e2, s⟩ := two_of h hl hr
    obtain ⟨Z, O, Z', O', q2, q1⟩ := s.rep2 e2 e1
    cases q1
    cases q2
    exact ⟨_, _, rfl, flat hw fun _ => .int _⟩
  · obtain ⟨r1, v1, r2, v2, rfl, rfl, e1, e2, s⟩ := two_of h hl hr
    obtain ⟨Z, O, Z', O', q2, q1⟩ := s.rep2 e2 e1
    cases q1
    cases q2
    refine ⟨_, _, rfl, dvm_ok hw.1, fun p hp => hq _ _ _ hw.2 ?_⟩
    exact (((h.dropL hl).flat fun Z => .int _).flat fun Z => .int _).tup (ds := [.int _, .int _]) (us := [.int _, .int _]) rfl hp
  · obtain ⟨p, ns, rfl, e1, hf⟩ := hints hr hw
    rcases e1 with ⟨h1, e1⟩ | ⟨_, e1⟩
    · exact .inl ⟨p, ns, rfl, .inl e1, flat hf fun _ => .int _⟩
    · exact .inr ⟨p, ns, rfl, e1, flat hf fun _ => .int _⟩
  · obtain ⟨p, ns, rfl, e1, m, ⟨hm, hy⟩, hf⟩ := hints hr hw
    have fin : ∀ m', m' ∈ ns → (∀ y, y ∈ ns → y ≤ m') → Q (.int m') H := fun m' h1 h2 => by
      rw [Int.le_antisymm (hy m' h1) (h2 m hm)]
      exact flat hf fun _ => .int _
    rcases e1 with ⟨_, e1⟩ | ⟨_, e1⟩
    · exact .inl ⟨p, ns, rfl, .inl e1, List.length_pos_of_mem hm, fin⟩
    · exact .inr ⟨p, ns, rfl, e1, List.length_pos_of_mem hm, fin⟩
  · obtain ⟨p, ns, rfl, e1, m, ⟨hm, hy⟩, hf⟩ := hints hr hw
    have fin : ∀ m', m' ∈ ns → (∀ y, y ∈ ns → m' ≤ y) → Q (.int m') H := fun m' h1 h2 => by
      rw [Int.le_antisymm (h2 m hm) (hy m' h1)]
      exact flat hf fun _ => .int _
    rcases e1 with ⟨_, e1⟩ | ⟨_, e1⟩
    · exact .inl ⟨p, ns, rfl, .inl e1, List.length_pos_of_mem hm, fin⟩
    · exact .inr ⟨p, ns, rfl, e1, List.length_pos_of_mem hm, fin⟩
  · rename_i a k
    obtain ⟨p, ns, rfl, e1, hf⟩ := hints hr hw
    have fin : ∀ (ns' : List Int) (q : Addr), ns'.Perm ns → ns'.Pairwise (· ≤ ·) → H q = none → Q (.ref q) (upd H q (.lst (ns'.map V.int))) := fun ns' q a b hp => by
      rw [sortI_of a b]
      refine hq _ _ _ hf ?_
      have s0 := h.dropL hl
      exact s0.newF hp rfl fun Z hz _ => .lstO upd_same rfl (O' := AS.no) (fun _ z => z.elim) RepL.ints
    rcases e1 with ⟨_, e1⟩ | ⟨_, e1⟩
    · exact .inl ⟨p, ns, rfl, .inl e1, fin⟩
    · exact .inr ⟨p, ns, rfl, e1, fin⟩
  · obtain ⟨hL, ys, hx, ⟨⟨hf, hdt⟩, hal, htp⟩, hk⟩ := hw
    obtain ⟨r, v, rfl, rfl, e, s⟩ := one_of h hl hr
    obtain ⟨p, ws, rfl, l, e1, ⟨Z, rl⟩, pm⟩ := s.seqP e hx hf
    have hm : ∀ {d}, d ∈ toPs ys → ∃ x ∈ ys, toP x = d := fun {d} hd => by
      have := toPs_map ys ▸ hd
      exact List.mem_map.mp this
    refine ⟨p, ws, toPs ys, rfl, lstOf hL e1, RepL.dp rl hdt, fun d hd d' hd' => ?_, .inl fun d hd => ?_, fun d hd => ?_, fun zs q pz hp => ?_⟩
    · obtain ⟨x, mx, rfl⟩ := hm hd
      obtain ⟨y, my, rfl⟩ := hm hd'
      exact hal x mx y my
    · obtain ⟨x, mx, rfl⟩ := hm hd
      obtain ⟨d0, ds0, rfl⟩ := htp x mx
      exact ⟨toP d0, toPs ds0, by rw [toP, toPs]⟩
    · obtain ⟨x, mx, rfl⟩ := hm hd
      exact (shp_of x 60 (dats_mem hdt x mx)).2
    · obtain ⟨ys', py, s2⟩ := pm zs pz
      exact hq _ _ _ (hk ys' py) (s2.lst (by rw [py.length_eq, pz.length_eq, l]) hp)
  · obtain ⟨ys, hx, hf, hk⟩ := hw
    obtain ⟨r, v, rfl, rfl, e, s⟩ := one_of h hl hr
    obtain ⟨p, ws, rfl, l, e1, s2, _⟩ := s.seqF e hx hf
    refine ⟨p, ws, rfl, ?_, fun q hp => hq _ _ _ hk (s2.lst l hp)⟩
    exact e1.elim (fun z => .inl (.inl z.2)) fun z => .inr z.2
  · obtain ⟨ys, hx, hf, hk⟩ := hw
    obtain ⟨r, v, rfl, rfl, e, s⟩ := one_of h hl hr
    obtain ⟨p, ws, rfl, l, e1, s2, _⟩ := s.seqF e hx hf
    refine ⟨p, ws, rfl, ?_⟩
    rcases e1 with ⟨_, e1⟩ | ⟨k1, e1⟩
    · exact .inl ⟨.inl e1, fun q hp => hq _ _ _ hk (s2.tup l hp)⟩
    · rename_i a k
      cases a <;> first | (cases hx; done) | (cases k1; done) | skip
      cases hx
      exact .inr ⟨e1, hq _ _ _ hk (s.self e hf)⟩
  · obtain ⟨hL, bs, hx, hk⟩ := hw
    obtain ⟨p, rfl, e1⟩ := bls hr hx
    exact ⟨p, bs, rfl, lstOf hL e1, flat hk fun _ => .bl _⟩
  · obtain ⟨hL, bs, hx, hk⟩ := hw
    obtain ⟨p, rfl, e1⟩ := bls hr hx
    exact ⟨p, bs, rfl, lstOf hL e1, flat hk fun _ => .bl _⟩
  · exact hw.elim
end
end Pf

/-! Expressions keep what is asked. -/
namespace Pf
open PySem PySem.Spec PyProof.Rows L2
section
variable {G : Gb} {g : Str → Addr} {k : Nat} {sc : Scope} {N : List Str} {W : WX} {X : Cx}
theorem Ct.vis (c : Ct G g k sc N W X) {x : Str} (h : vis sc x = true) : Vis X.env.scope x := by
  rw [c.sc]
  unfold Pf.vis at h
  rw [Bool.or_eq_true, Bool.or_eq_true] at h
  exact h.imp of_decide_eq_true fun h => h.imp of_decide_eq_true of_decide_eq_true
theorem Ct.gl (c : Ct G g k sc N W X) {x : Str} (h : gl sc x = true) : Gl X x := by
  show X.env.scope.names.lookup x = some .globalImplicit
  rw [c.sc]
  exact of_decide_eq_true h
theorem and2 {a b : Bool} (h : (a && b) = true) : a = true ∧ b = true := by rwa [Bool.and_eq_true] at h
theorem not1 {a : Bool} (h : (!a) = true) : a = false := by cases a <;> first | rfl | cases h

theorem pe_name (c : Ct G g k sc N W X) {i : Nat} {x : Str} {p : Pos} (h : (slotIs N i x && (vis sc x && (!(x == ("__debug__" : Str)) && !(x == ("__classdict__" : Str))))) = true) : PE X (.Name x p) (tVar i) := by
  obtain ⟨h1, h⟩ := and2 h
  obtain ⟨h2, h⟩ := and2 h
  obtain ⟨h3, h4⟩ := and2 h
  exact pe_var (by rw [c.hN]; exact of_decide_eq_true h1) (c.vis h2) (not1 h3) (not1 h4)
theorem s_var (c : Ct G g k sc N W X) {i : Nat} {x : Str} {p : Pos} (h : (slotIs N i x && (vis sc x && (!(x == ("__debug__" : Str)) && !(x == ("__classdict__" : Str))))) = true) : PE X (.Name x p) (tE X.K g G W (.var i)) := by
  refine (pe_name c h).im fun σ H Q ⟨B, en, rs, vs, Xp, Q0, hs, hx, he, hq⟩ => ?_
  unfold ev at he
  split at he
  · rename_i d hd
    by_cases hf : fz d = true
    · rw [if_pos hf] at he
      obtain ⟨v, ev, s⟩ := hs.read hd hf
      exact ⟨v, ev, hq _ _ _ _ he s⟩
    · rw [if_neg hf] at he
      obtain ⟨v, ev, s⟩ := hs.freeze hd
      exact ⟨v, ev, hq _ _ _ _ he s⟩
  · exact he.elim
theorem s_varR (c : Ct G g k sc N W X) {i : Nat} {x : Str} {p : Pos} (h : (slotIs N i x && (vis sc x && (!(x == ("__debug__" : Str)) && !(x == ("__classdict__" : Str))))) = true) : PE X (.Name x p) (tR X.K g G W (.var i)) := by
  refine (pe_name c h).im fun σ H Q ⟨B, en, rs, vs, Xp, Q0, hs, hx, he, hq⟩ => ?_
  unfold asR at he
  dsimp only at he
  split at he
  · rename_i d hd
    by_cases hf : fz d = true
    · rw [if_pos hf] at he
      obtain ⟨v, ev, s⟩ := hs.read hd hf
      exact ⟨v, ev, hq _ _ _ _ he s⟩
    · rw [if_neg hf] at he
      obtain ⟨v, ev, s⟩ := hs.slot hd
      exact ⟨v, ev, hq _ _ _ _ he s⟩
  · exact he.elim
theorem asR_of {m : E} (h : ∀ i, m ≠ .var i) (f : En → (D → En → Prop) → Xp → Prop) (en : En) (Q : R → En → Prop) (Xp : Xp) : asR m f en Q Xp = f en (fun d e => Q (.v d) e) Xp := by
  cases m <;> first | rfl | exact absurd rfl (h _)
theorem s_R {m : E} {e : Expr} (h : ∀ i, m ≠ .var i) (p : PE X e (tE X.K g G W m)) : PE X e (tR X.K g G W m) :=
  p.im fun σ H Q ⟨B, en, rs, vs, Xp, Q0, hs, hx, he, hq⟩ => ⟨B, en, rs, vs, Xp, _, hs, hx, by rw [asR_of h] at he; exact he, fun d e v H' h1 h2 => hq _ _ _ _ h1 h2⟩
/-- a value without parts -/
theorem s_flat {m : E} {e : Expr} {d : D} {v : V} (p : PE X e (tC v)) (h : ∀ en Q Xp, ev G m en Q Xp → Q d en) (r : ∀ Z H, Rep X.K g Z H d v AS.no) : PE X e (tE X.K g G W m) :=
  p.im fun σ H Q ⟨B, en, rs, vs, Xp, Q0, hs, hx, he, hq⟩ => hq _ _ _ _ (h _ _ _ he) (hs.flat fun Z => r Z H)
theorem s_bin {a b : Expr} {op : Operator} {p : Pos} {ma mb : E} (ha : PE X a (tR X.K g G W ma)) (hb : PE X b (tR X.K g G W mb)) : PE X (.BinOp a op b p) (tE X.K g G W (.bin op ma mb)) := by
  refine (pe_op (op_bin op) ha hb).im fun σ H Q ⟨B, en, rs, vs, Xp, Q0, hs, hx, he, hq⟩ => ?_
  unfold ev at he
  refine ⟨B, en, rs, vs, Xp, _, hs, hx, he, fun r1 e1 v1 H1 h1 s1 => ⟨B, e1, r1 :: rs, v1 :: vs, Xp, _, s1, hx, h1, fun r2 e2 v2 H2 h2 s2 => ?_⟩⟩
  split at h2
  · rename_i x y hx' hy'
    exact bin_sat s2 hx' hy' h2 fun d v H' h3 s3 => hq _ _ _ _ h3 s3
  · exact h2.elim
theorem cmp_rd {σ : L2.St} {H : Hp} {Q : VK} {op : CmpOp} {ma mb : E} (h : tE X.K g G W (.cmp op ma mb) σ H Q) : tOp (rCmp X.K op) (tR X.K g G W ma) (tR X.K g G W mb) σ H Q := by
  obtain ⟨B, en, rs, vs, Xp, Q0, hs, hx, he, hq⟩ := h
  unfold ev at he
  refine ⟨B, en, rs, vs, Xp, _, hs, hx, he, fun r1 e1 v1 H1 h1 s1 => ⟨B, e1, r1 :: rs, v1 :: vs, Xp, _, s1, hx, h1, fun r2 e2 v2 H2 h2 s2 => ?_⟩⟩
  split at h2
  · rename_i x y hx' hy'
    exact cmp_sat s2 hx' hy' h2 fun b h3 => hq _ _ _ _ h3 (s2.drop.drop.flat fun Z => .bl b)
  · exact h2.elim
theorem s_cmp (c : Ct G g k sc N W X) {a b : Expr} {op : CmpOp} {p : Pos} {ma mb : E} (hm : nset b = true) (ha : PE X a (tR X.K g G W ma)) (hb : PE X b (tR X.K g G W mb)) : PE X (.Compare a [op] [b] p) (tE X.K g G W (.cmp op ma mb)) :=
  (pe_cmpR (op_cmp (by have := c.hu; omega) op) ha hb (mark_of hm)).im fun σ H Q h => cmp_rd h
/-- from the answer of a test -/
theorem tT_of {m : E} {σ : L2.St} {H : Hp} {Q : Bool → Hp → Prop} (h : tT X.K g G W m σ H Q) : tE X.K g G W m σ H (fun v H' => ∃ b, v = .bl b ∧ Q b H') := by
  obtain ⟨B, en, rs, vs, Xp, Q0, hs, hx, he, hq⟩ := h
  refine ⟨B, en, rs, vs, Xp, _, hs, hx, he, fun d e v H' ⟨b, e1, h1⟩ s => ?_⟩
  subst e1
  obtain ⟨Z, O, r, _⟩ := s.rep rfl
  cases r
  exact ⟨b, rfl, hq _ _ _ h1 s.drop⟩
theorem t_cmp (c : Ct G g k sc N W X) {a b : Expr} {op : CmpOp} {p : Pos} {ma mb : E} (hm : nset b = true) (ha : PE X a (tR X.K g G W ma)) (hb : PE X b (tR X.K g G W mb)) : PT X (.Compare a [op] [b] p) (tT X.K g G W (.cmp op ma mb)) :=
  (pt_cmpR (op_cmp (by have := c.hu; omega) op) ha hb (mark_of hm)).im fun σ H Q h => cmp_rd (tT_of h)
theorem any_eqv {x : D} (hx : dat 60 x = true) : ∀ {n : Nat} {ys : List D}, dats n ys = true → ((toPs ys).any fun z => PyData.eqv z (toP x)) = ys.any fun y => deq y x
  | _, [], _ => rfl
  | n, y :: ys, h => by
    have h' : (dat n y && dats n ys) = true := by
      cases n <;> exact h
    obtain ⟨h1, h2⟩ := and2 h'
    show (PyData.eqv (toP y) (toP x) || (toPs ys).any fun z => PyData.eqv z (toP x)) = _
    rw [any_eqv hx h2, eqv_of y x n 60 h1 hx]
    rfl
theorem sh_of {d : D} (h : dat 60 d = true) : SeqAt.shaped (toP d) = true := by
  obtain ⟨x, y⟩ := shp_of d 60 h
  unfold SeqAt.shaped
  rw [x, Bool.true_and]
  exact decide_eq_true (by omega)
def rDin (K : PySem.W.Frag) : Bool → R2
  | false => rInD K
  | true => rNotInD K
theorem op_din (hu : X.A.units + 65 < cLine) : ∀ n : Bool, OpR X (compareOp (bif n then .NotIn else .In)) (rDin X.K n)
  | false => op_inD hu
  | true => op_notInD hu
theorem din_rd {σ : L2.St} {H : Hp} {Q : VK} {n : Bool} {ma mb : E} (h : tE X.K g G W (.din n ma mb) σ H Q) : tOp (rDin X.K n) (tR X.K g G W ma) (tR X.K g G W mb) σ H Q := by
  obtain ⟨B, en, rs, vs, Xp, Q0, hs, hx, he, hq⟩ := h
  unfold ev at he
  refine ⟨B, en, rs, vs, Xp, _, hs, hx, he, fun r1 e1 v1 H1 h1 s1 => ⟨B, e1, r1 :: rs, v1 :: vs, Xp, _, s1, hx, h1, fun r2 e2 v2 H2 h2 s2 => ?_⟩⟩
  split at h2
  · rename_i x o ys hx' hy'
    obtain ⟨⟨a, b⟩, hk⟩ := h2
    obtain ⟨Z, O, Z', O', q1, q2⟩ := s2.rep2 hx' hy'
    have b' : dats 59 ys = true := b
    have fin := hq _ _ (.bl (n ^^ ys.any fun y => deq y x)) H2 hk (s2.drop.drop.flat fun Z => .bl _)
    rw [← any_eqv a b'] at fin
    cases n with
    | false =>
      rw [Bool.false_xor] at fin
      exact ⟨toP x, toPs ys, q1.dp a, q2.dp b, sh_of a, sh_of b, fin⟩
    | true =>
      rw [Bool.true_xor] at fin
      exact ⟨toP x, toPs ys, q1.dp a, q2.dp b, sh_of a, sh_of b, fin⟩
  · exact h2.elim
theorem s_din (c : Ct G g k sc N W X) {a b : Expr} {n : Bool} {p : Pos} {ma mb : E} (hm : nset b = true) (ha : PE X a (tR X.K g G W ma)) (hb : PE X b (tR X.K g G W mb)) : PE X (.Compare a [bif n then .NotIn else .In] [b] p) (tE X.K g G W (.din n ma mb)) :=
  (pe_cmpR (op_din (by have := c.hu; omega) n) ha hb (mark_of hm)).im fun σ H Q h => din_rd h
theorem t_din (c : Ct G g k sc N W X) {a b : Expr} {n : Bool} {p : Pos} {ma mb : E} (hm : nset b = true) (ha : PE X a (tR X.K g G W ma)) (hb : PE X b (tR X.K g G W mb)) : PT X (.Compare a [bif n then .NotIn else .In] [b] p) (tT X.K g G W (.din n ma mb)) :=
  (pt_cmpR (op_din (by have := c.hu; omega) n) ha hb (mark_of hm)).im fun σ H Q h => din_rd (tT_of h)
theorem last_of {o1 o2 : CmpOp} {b d : Expr} (h : nset d = true) : lastMarks [o1, o2] [b, d] = false := mark_of h
theorem chn_rd {σ : L2.St} {H : Hp} {Q : VK} {o1 o2 : CmpOp} {ma mb mc : E} (h : tE X.K g G W (.chn o1 o2 ma mb mc) σ H Q) : tChain (rCmp X.K o1) (rCmp X.K o2) (tE X.K g G W ma) (tE X.K g G W mb) (tE X.K g G W mc) σ H Q := by
  obtain ⟨B, en, rs, vs, Xp, Q0, hs, hx, he, hq⟩ := h
  unfold ev at he
  refine ⟨B, en, rs, vs, Xp, _, hs, hx, he, fun d1 e1 v1 H1 h1 s1 => ⟨B, e1, .v d1 :: rs, v1 :: vs, Xp, _, s1, hx, h1, fun d2 e2 v2 H2 h2 s2 => ?_⟩⟩
  obtain ⟨i, j, rfl, rfl, h2⟩ := h2
  refine cmp_sat s2 rfl rfl h2 fun t h3 => ?_
  obtain ⟨t', e, h3⟩ := h3
  cases e
  refine ⟨t, rfl, ?_⟩
  cases t with
  | false =>
    rw [if_neg Bool.false_ne_true] at h3 ⊢
    exact hq _ _ _ _ h3 (s2.drop.drop.flat fun Z => .bl _)
  | true =>
    rw [if_pos rfl] at h3 ⊢
    refine ⟨B, e2, .v (.int j) :: .v (.int i) :: rs, v2 :: v1 :: vs, Xp, _, s2, hx, h3, fun d3 e3 v3 H3 h4 s3 => ?_⟩
    obtain ⟨l, rfl, h4⟩ := h4
    exact cmp_sat s3 rfl rfl h4 fun b h5 => hq _ _ _ _ h5 (s3.drop.drop.drop.flat fun Z => .bl b)
theorem s_chn (c : Ct G g k sc N W X) {a b d : Expr} {o1 o2 : CmpOp} {p : Pos} {ma mb mc : E} (hm : nset d = true) (ha : PE X a (tE X.K g G W ma)) (hb : PE X b (tE X.K g G W mb)) (hd : PE X d (tE X.K g G W mc)) : PE X (.Compare a [o1, o2] [b, d] p) (tE X.K g G W (.chn o1 o2 ma mb mc)) :=
  (pe_chain (op_cmp (by have := c.hu; omega) o1) (op_cmp (by have := c.hu; omega) o2) ha hb hd (last_of hm)).im fun σ H Q h => chn_rd h
theorem t_chn (c : Ct G g k sc N W X) {a b d : Expr} {o1 o2 : CmpOp} {p : Pos} {ma mb mc : E} (hm : nset d = true) (ha : PE X a (tE X.K g G W ma)) (hb : PE X b (tE X.K g G W mb)) (hd : PE X d (tE X.K g G W mc)) : PT X (.Compare a [o1, o2] [b, d] p) (tT X.K g G W (.chn o1 o2 ma mb mc)) :=
  (pt_chain (op_cmp (by have := c.hu; omega) o1) (op_cmp (by have := c.hu; omega) o2) ha hb hd (last_of hm)).im fun σ H Q h => chn_rd (tT_of h)
theorem t_val {m : E} {e : Expr} (p : PE X e (tE X.K g G W m)) (he : ∀ whole, isTrue e X.env whole = (do let v ← whole; standAt e.pos; holding [v] (truthy v))) : PT X e (tT X.K g G W m) :=
  (pt_val p he).im fun σ H Q h => tT_of h
theorem s_neg {a : Expr} {p : Pos} {ma : E} (ha : PE X a (tE X.K g G W ma)) : PE X (.UnaryOp .USub a p) (tE X.K g G W (.neg ma)) := by
  refine (pe_un un_neg ha).im fun σ H Q ⟨B, en, rs, vs, Xp, Q0, hs, hx, he, hq⟩ => ?_
  unfold ev at he
  refine ⟨B, en, rs, vs, Xp, _, hs, hx, he, fun d e v H' h1 s1 => ?_⟩
  unfold negW at h1
  split at h1
  · obtain ⟨Z, O, r, _⟩ := s1.rep rfl
    cases r
    exact ⟨_, rfl, hq _ _ _ _ h1 (s1.drop.flat fun Z => .int _)⟩
  · exact h1.elim
theorem s_nt {a : Expr} {p : Pos} {ma : E} (ha : PE X a (tE X.K g G W ma)) : PE X (.UnaryOp .Not a p) (tE X.K g G W (.nt ma)) := by
  refine (pe_not ha).im fun σ H Q ⟨B, en, rs, vs, Xp, Q0, hs, hx, he, hq⟩ => ?_
  unfold ev at he
  refine ⟨B, en, rs, vs, Xp, _, hs, hx, he, fun d e v H' ⟨b, e1, h1⟩ s1 => ?_⟩
  subst e1
  obtain ⟨Z, O, r, _⟩ := s1.rep rfl
  cases r
  exact ⟨b, rfl, hq _ _ _ _ h1 (s1.drop.flat fun Z => .bl _)⟩
theorem t_nt {a : Expr} {p : Pos} {ma : E} (ha : PT X a (tT X.K g G W ma)) : PT X (.UnaryOp .Not a p) (tT X.K g G W (.nt ma)) := by
  refine (pt_not ha).im fun σ H Q ⟨B, en, rs, vs, Xp, Q0, hs, hx, he, hq⟩ => ?_
  unfold ev at he
  have he' : ev G ma en (fun x e1 => ∃ b, x = .bl b ∧ Q0 (!b) e1) Xp := by
    have z : (fun (x : D) (e1 : En) => ∃ b, x = .bl b ∧ ∃ b', D.bl (!b) = .bl b' ∧ Q0 b' e1) = (fun (x : D) (e1 : En) => ∃ b, x = .bl b ∧ Q0 (!b) e1) := by
      funext x e1
      refine propext ⟨fun ⟨b, h1, b', h2, h3⟩ => ?_, fun ⟨b, h1, h2⟩ => ⟨b, h1, _, rfl, h2⟩⟩
      cases h2
      exact ⟨b, h1, h3⟩
    rw [← z]
    exact he
  exact ⟨B, en, rs, vs, Xp, _, hs, hx, he', fun b e H' h1 s1 => hq _ _ _ h1 s1⟩
theorem s_ite {c a b : Expr} {p : Pos} {mc ma mb : E} (hc : PT X c (tT X.K g G W mc)) (ha : PE X a (tE X.K g G W ma)) (hb : PE X b (tE X.K g G W mb)) : PE X (.IfExp c a b p) (tE X.K g G W (.ite mc ma mb)) := by
  refine (pe_ifExp hc ha hb).im fun σ H Q ⟨B, en, rs, vs, Xp, Q0, hs, hx, he, hq⟩ => ?_
  unfold ev at he
  refine ⟨B, en, rs, vs, Xp, _, hs, hx, he, fun t e H' h1 s1 => ?_⟩
  cases t with
  | true => exact ⟨B, e, rs, vs, Xp, _, s1, hx, h1, hq⟩
  | false => exact ⟨B, e, rs, vs, Xp, _, s1, hx, h1, hq⟩
theorem ST.move {K : PySem.W.Frag} {B : Bs} {en : En} {rs : List R} {σ : Sg} {vs : List V} {H : Hp} {r : R} {v : V} {xs : List R} {us : List V} (h : ST K g B en (xs ++ r :: rs) σ (us ++ v :: vs) H) (hl : xs.length = us.length) : ST K g B en ((r :: xs) ++ rs) σ ((v :: us) ++ vs) H := by
  refine ⟨?_, ?_⟩
  · have z := SR.move (xs := xs) (us := us) (r := r) (v := v) (rs := rs ++ B.ts.map R.v) (vs := vs ++ B.tv) (by simpa only [List.append_assoc, List.cons_append] using h.1) hl
    simpa only [List.append_assoc, List.cons_append] using z
  · have := h.2
    simp only [List.length_append, List.length_cons] at this ⊢
    omega
theorem a_nil : PA X [] (tA X.K g G W .nil) := by
  refine pa_nil.im fun σ H Q ⟨B, en, rs, vs, Xp, Q0, hs, hx, he, hq⟩ => ?_
  unfold evr at he
  exact hq [] en [] H he rfl hs
theorem a_cons {e : Expr} {es : List Expr} {m : E} {ms : Es} (hn : nst e = true) (h : PE X e (tR X.K g G W m)) (t : PA X es (tA X.K g G W ms)) : PA X (e :: es) (tA X.K g G W (.cons m ms)) := by
  refine (pa_cons h t (star_of hn)).im fun σ H Q ⟨B, en, rs, vs, Xp, Q0, hs, hx, he, hq⟩ => ?_
  unfold evr at he
  refine ⟨B, en, rs, vs, Xp, _, hs, hx, he, fun r1 e1 v1 H1 h1 s1 => ⟨B, e1, r1 :: rs, v1 :: vs, Xp, _, s1, hx, h1, fun xs e2 us H2 h2 hl s2 => ?_⟩⟩
  refine hq (r1 :: xs) e2 (v1 :: us) H2 h2 (by simp [hl]) (s2.move hl)
theorem v_nil : PA X [] (tV X.K g G W .nil) := by
  refine pa_nil.im fun σ H Q ⟨B, en, rs, vs, Xp, Q0, hs, hx, he, hq⟩ => ?_
  unfold evs at he
  exact hq [] en [] H he rfl rfl hs
theorem v_cons {e : Expr} {es : List Expr} {m : E} {ms : Es} (hn : nst e = true) (h : PE X e (tE X.K g G W m)) (t : PA X es (tV X.K g G W ms)) : PA X (e :: es) (tV X.K g G W (.cons m ms)) := by
  refine (pa_cons h t (star_of hn)).im fun σ H Q ⟨B, en, rs, vs, Xp, Q0, hs, hx, he, hq⟩ => ?_
  unfold evs at he
  refine ⟨B, en, rs, vs, Xp, _, hs, hx, he, fun d1 e1 v1 H1 h1 s1 => ⟨B, e1, .v d1 :: rs, v1 :: vs, Xp, _, s1, hx, h1, fun xs e2 us H2 h2 hl hl2 s2 => ?_⟩⟩
  refine hq (d1 :: xs) e2 (v1 :: us) H2 h2 (by simp [hl]) (by rw [List.length_cons, hl2]; rfl) (s2.move (by rw [List.length_map]; exact hl))
theorem s_tup {es : List Expr} {x1 : Nat} {p : Pos} {ms : Es} (h : PA X es (tV X.K g G W ms)) (hl : esLen ms ≤ 1000) : PE X (.Tuple es x1 p) (tE X.K g G W (.tup ms)) := by
  refine (pe_tup h).im fun σ H Q ⟨B, en, rs, vs, Xp, Q0, hs, hx, he, hq⟩ => ?_
  unfold ev at he
  exact ⟨B, en, rs, vs, Xp, _, hs, hx, he, fun ds e1 us H1 h1 l1 l2 s1 => ⟨sizeL (by omega), fun q hq' => hq _ _ _ _ h1 (s1.tup l1 hq')⟩⟩
theorem s_lst {es : List Expr} {p : Pos} {ms : Es} (h : PA X es (tV X.K g G W ms)) (hl : esLen ms ≤ 1000) : PE X (.List es p) (tE X.K g G W (.lst ms)) := by
  refine (pe_lst h).im fun σ H Q ⟨B, en, rs, vs, Xp, Q0, hs, hx, he, hq⟩ => ?_
  unfold ev at he
  exact ⟨B, en, rs, vs, Xp, _, hs, hx, he, fun ds e1 us H1 h1 l1 l2 s1 => ⟨sizeL (by omega), fun q hq' => hq _ _ _ _ h1 (s1.lst l1 hq')⟩⟩
/-- one part is taken out of what is in flight -/
theorem ST.pick {B : Bs} {en : En} {rs : List R} {σ : Sg} {vs : List V} {H : Hp} {r : R} {x d : D} {v : V} {xs : List D} {j : Nat} (h : ST X.K g B en (r :: rs) σ (v :: vs) H) (hr : rv en r = some x) (hx : itms x = some xs) (hj : xs[j]? = some d) (hf : isS r = true → fz d = true) :
    ∃ a us u, v = .ref a ∧ Seq X.K H x a us ∧ xs.length = us.length ∧ us[j]? = some u ∧ ST X.K g B en (.v d :: rs) σ (u :: vs) H := by
  obtain ⟨⟨Z, O, O1, O2, e, t, s1, s2, q, p⟩, hl⟩ := h
  cases t with
  | @v _ A C _ _ _ _ a1 a2 rr t =>
    cases hr
    cases rr with
    | tup ee r' =>
      cases hx
      obtain ⟨u, hu, ru⟩ := r'.get hj
      exact ⟨_, _, u, rfl, .inr ⟨rfl, ee⟩, r'.length, hu, ⟨Z, O, O1, O2, e, .v a1 a2 ru t, s1, s2, q, p⟩, hl⟩
    | lstO ee oa s r' =>
      cases hx
      obtain ⟨u, hu, ru⟩ := r'.get hj
      exact ⟨_, _, u, rfl, .inl ⟨rfl, .inl ee⟩, r'.length, hu, ⟨Z, O, O1, O2, e, .v a1 a2 (ru.up fun b z => (s b z).1) t, s1, s2, q, p⟩, hl⟩
    | lstF z ee r' =>
      cases hx
      obtain ⟨u, hu, ru⟩ := r'.get hj
      exact ⟨_, _, u, rfl, .inl ⟨rfl, ee⟩, r'.length, hu, ⟨Z, O, O1, O2, e, .v a1 a2 (ru.up fun b z => z.elim) t, s1, s2, q, p⟩, hl⟩
    | _ => cases hx
  | s ev t =>
    obtain ⟨v', A, C, ev', rr, _⟩ := e.split (join_some (show (en[_]?).join = some x from hr))
    rw [ev] at ev'
    cases ev'
    obtain ⟨a, us, O'', e1, e2, e3, r'⟩ := rr.seq hx
    obtain ⟨u, hu, ru⟩ := r'.get hj
    exact ⟨a, us, u, e1, e3, e2, hu, ⟨Z, O, O1, O2, e, .v (O1 := AS.no) (fun _ z => z.elim) (fun _ z => ⟨z, id⟩) (ru.none (hf rfl)) t, s1, s2, q, p⟩, hl⟩
theorem atI_of {xs : List D} {i : Int} {d : D} (h : atI xs i = some d) : ∃ j, ixN xs.length i = some j ∧ xs[j]? = some d := by
  unfold atI at h
  cases e : ixN xs.length i with
  | none => rw [e] at h; cases h
  | some j =>
    rw [e] at h
    exact ⟨j, rfl, h⟩
theorem s_idx (c : Ct G g k sc N W X) {a b : Expr} {p : Pos} {ma mb : E} (hm : nsl b = true) (ha : PE X a (tR X.K g G W ma)) (hb : PE X b (tE X.K g G W mb)) : PE X (.Subscript a b p) (tE X.K g G W (.idx ma mb)) := by
  refine (pe_ix (ix_list.or ix_tup) ha hb (plainIx_of hm)).im fun σ H Q ⟨B, en, rs, vs, Xp, Q0, hs, hx, he, hq⟩ => ?_
  unfold ev at he
  refine ⟨B, en, rs, vs, Xp, _, hs, hx, he, fun r1 e1 v1 H1 h1 s1 => ⟨B, e1, r1 :: rs, v1 :: vs, Xp, _, s1, hx, h1, fun y e2 v2 H2 h2 s2 => ?_⟩⟩
  split at h2
  · rename_i x hx'
    unfold ixW at h2
    split at h2
    · rename_i xs i hxs
      obtain ⟨d, hd, hf, hk⟩ := h2
      obtain ⟨Z, O, q2, _⟩ := s2.rep rfl
      cases q2
      obtain ⟨j, ej, hj⟩ := atI_of hd
      obtain ⟨a, us', u, rfl, sq, l2, hu2, s3⟩ := s2.drop.pick hx' hxs hj hf
      have ej : atI us' i = some u := by
        unfold atI
        rw [← l2, ej]
        exact hu2
      rcases sq with ⟨_, sq⟩ | ⟨_, sq⟩
      · exact .inl ⟨a, us', i, u, rfl, rfl, .inl sq, ej, hq _ _ _ _ hk s3⟩
      · exact .inr ⟨a, us', i, u, rfl, rfl, sq, ej, hq _ _ _ _ hk s3⟩
    · exact h2.elim
  · exact h2.elim
end
end Pf

/-! Expressions keep what is asked: cuts, calls, chains of tests. -/
namespace Pf
open PySem PySem.Spec PyProof.Rows L2
section
variable {G : Gb} {g : Str → Addr} {k : Nat} {sc : Scope} {N : List Str} {W : WX} {X : Cx}
/-! ### cuts -/
theorem o_no : PO X none (tO X.K g G W .no) := by
  refine po_none.im fun σ H Q ⟨B, en, rs, vs, Xp, Q0, hs, hx, he, hq⟩ => ?_
  unfold evO at he
  exact hq _ _ _ he hs
theorem o_so {e : Expr} {m : E} (h : PE X e (tE X.K g G W m)) : PO X (some e) (tO X.K g G W (.so m)) := by
  refine (po_some h).im fun σ H Q ⟨B, en, rs, vs, Xp, Q0, hs, hx, he, hq⟩ => ?_
  unfold evO at he
  refine ⟨B, en, rs, vs, Xp, _, hs, hx, he, fun d e1 v H1 ⟨i, hd, h1⟩ s1 => ?_⟩
  subst hd
  obtain ⟨Z, O, r, _⟩ := s1.rep rfl
  cases r
  exact ⟨i, rfl, hq _ _ _ h1 s1.drop⟩
theorem RepL.dropN {Z : AS} {H : Hp} : ∀ {xs : List D} {us : List V} (n : Nat), RepL X.K g Z H xs us AS.no → RepL X.K g Z H (xs.drop n) (us.drop n) AS.no
  | _, _, 0, r => r
  | _, _, _ + 1, .nil => .nil
  | _, _, n + 1, .cons s1 s2 r t => RepL.dropN n (t.up fun b z => (s2 b z).1)
theorem RepL.takeN {Z : AS} {H : Hp} : ∀ {xs : List D} {us : List V} (n : Nat), RepL X.K g Z H xs us AS.no → RepL X.K g Z H (xs.take n) (us.take n) AS.no
  | _, _, 0, _ => .nil
  | _, _, _ + 1, .nil => .nil
  | _, _, n + 1, .cons s1 s2 r t => .cons (O1 := AS.no) (O2 := AS.no) (fun _ z => z) (fun _ z => z.elim) (r.up s1) (RepL.takeN n (t.up fun b z => (s2 b z).1))
theorem ST.cut {B : Bs} {en : En} {rs : List R} {σ : Sg} {vs : List V} {H : Hp} {r : R} {d : D} {v : V} {xs : List D} (h : ST X.K g B en (r :: rs) σ (v :: vs) H) (hr : rv en r = some d) (hx : itms d = some xs) (hf : fzs xs = true) (lo hi : Option Int) :
    ∃ a us, v = .ref a ∧ xs.length = us.length ∧ Seq X.K H d a us ∧ (cutD xs lo hi).length = (cutV us lo hi).length ∧ ST X.K g B en ((cutD xs lo hi).map R.v ++ rs) σ (cutV us lo hi ++ vs) H := by
  obtain ⟨⟨Z, O, O1, O2, e, t, s1, s2, q, p⟩, hl⟩ := h
  obtain ⟨O', r⟩ := t.hd e hr
  obtain ⟨a, us, O'', e1, e2, e3, r'⟩ := r.seq hx
  have r0 : RepL X.K g Z H (cutD xs lo hi) (cutV us lo hi) AS.no := by
    unfold cutD cutV
    rw [e2]
    exact RepL.takeN _ (RepL.dropN _ (r'.none hf))
  have hl' : rs.length = vs.length := by simpa using hl
  refine ⟨a, us, e1, e2, e3, r0.length, ⟨Z, O, O1, O2, e, ?_, s1, s2, q, p⟩, ?_⟩
  · rw [List.append_assoc, List.append_assoc]
    exact RepT.addF r0 t.tl
  · rw [List.length_append, List.length_append, List.length_map, r0.length, hl']
theorem cut_all {xs : List D} {lo hi : Option Int} (h1 : HT.sIx xs.length 0 lo = 0) (h2 : HT.sIx xs.length xs.length hi = xs.length) : cutD xs lo hi = xs := by
  unfold cutD
  rw [h1, h2, List.drop_zero, Nat.sub_zero, List.take_length]
theorem s_slc {a : Expr} {lo hi : Option Expr} {p p2 : Pos} {ma : E} {ml mh : Ox} (ha : PE X a (tR X.K g G W ma)) (hl : PO X lo (tO X.K g G W ml)) (hh : PO X hi (tO X.K g G W mh)) : PE X (.Subscript a (.Slice lo hi none p2) p) (tE X.K g G W (.slc ma ml mh)) := by
  refine (pe_slice (sl_list.or sl_tupA) ha hl hh).im fun σ H Q ⟨B, en, rs, vs, Xp, Q0, hs, hx, he, hq⟩ => ?_
  unfold ev at he
  refine ⟨B, en, rs, vs, Xp, _, hs, hx, he, fun r1 e1 v1 H1 h1 s1 => ⟨B, e1, r1 :: rs, v1 :: vs, Xp, _, s1, hx, h1, fun l e2 H2 h2 s2 => ⟨B, e2, r1 :: rs, v1 :: vs, Xp, _, s2, hx, h2, fun u e3 H3 h3 s3 => ?_⟩⟩⟩
  split at h3
  · rename_i x hx'
    unfold slW at h3
    split at h3
    · obtain ⟨a, us, rfl, l1, sq, l2, s4⟩ := s3.cut hx' rfl h3.1 l u
      exact .inl ⟨a, us, rfl, sq.elim (fun z => .inl z.2) (fun z => nomatch z.1), fun q hp => hq _ _ _ _ h3.2 (s4.lst l2 hp)⟩
    · obtain ⟨a, us, rfl, l1, sq, l2, s4⟩ := s3.cut hx' rfl h3.1 l u
      refine .inr ⟨a, us, rfl, sq.elim (fun z => nomatch z.1) fun z => z.2, fun z => ?_, fun _ q hp => hq _ _ _ _ h3.2 (s4.tup l2 hp)⟩
      rw [← l1] at z
      have hk := h3.2
      rw [cut_all z.1 z.2] at hk
      exact hq _ _ _ _ hk (s3.self hx' h3.1)
    · exact h3.elim
  · exact h3.elim

/-! ### calls -/
theorem RepT.mid {K : PySem.W.Frag} {Z : AS} {H : Hp} {σ : Sg} {ys zs : List R} {us ws : List V} : ∀ {xs : List R} {vs : List V} {O : AS}, RepT K g Z H σ (xs ++ (ys ++ zs)) (vs ++ (us ++ ws)) O → xs.length = vs.length → ys.length = us.length → RepT K g Z H σ (xs ++ zs) (vs ++ ws) O
  | [], [], O, t, _, h => by
    induction ys generalizing us with
    | nil =>
      cases us with
      | nil => exact t
      | cons _ _ => cases h
    | cons y ys ih =>
      cases us with
      | nil => cases h
      | cons u us => exact ih (RepT.tl t) (by simpa using h)
  | [], _ :: _, _, _, h, _ => by cases h
  | _ :: _, [], _, _, h, _ => by cases h
  | x :: xs, u0 :: vs, O, t, h, h' => by
    cases t with
    | v a1 a2 r t => exact .v a1 a2 r (RepT.mid t (by simpa using h) h')
    | s e t => exact .s e (RepT.mid t (by simpa using h) h')
theorem callW_ok {σ : L2.St} {H : Hp} {Q : VK} {B : Bs} {en : En} {rs xs : List R} {vs us : List V} {Xp : Xp} {Q0 : D → En → Prop} {F : FSp} (h : callW (some F) xs en Q0 Xp) (hl : xs.length = us.length) (hx : XL X.K g G B W Xp) (s : ST X.K g B en (xs ++ rs) σ (us ++ vs) H)
    (hq : ∀ d en' v H', Q0 d en' → ST X.K g B en' (.v d :: rs) σ (v :: vs) H' → Q v H') : spOf X.K g G F us H Q (WE W σ) := by
  unfold callW at h
  split at h
  · rename_i F' ds en2 hF ht
    cases hF
    have s1 := s.1
    rw [List.append_assoc, List.append_assoc] at s1
    obtain ⟨Z, O, hin, hout⟩ := call_ok s1 hl ht
    have len : rs.length = vs.length := by
      have := s.2
      simp only [List.length_append] at this
      omega
    refine ⟨Z, O, ds, _, _, hin, h, fun r up v H' h1 s2 => ?_, fun c fs up cls d H' h1 e => ?_⟩
    · exact hq _ _ _ _ h1 ⟨hout up [r] [v] H' rfl s2, by rw [List.length_cons, List.length_cons, len]⟩
    · obtain ⟨ws, ns, fV, a1, a2, a3, a4, a5, a6, a7, a8, a9⟩ := e
      have a1' : SR X.K g ⟨H, Z, O, [], [], []⟩ up (fs.map R.v) (us.map some) ws H' := by
        have z : SR X.K g ⟨H, Z, O, [], [], []⟩ up (fs.map R.v ++ []) (us.map some) (ws ++ []) H' := a1
        rw [List.append_nil, List.append_nil] at z
        exact z
      obtain ⟨Z2, P, P1, P2, b1, b2, b3⟩ := hout up fs ws H' a2 a1'
      exact hx c fs _ σ H' cls d h1 ⟨ws, ns, fV, ⟨Z2, P, P1, P2, b1, RepT.mid b2 (by rw [List.length_map]; exact a2) len, b3⟩, a2, a3, a4, a5, a6, a7, a8, a9⟩
  · exact h.elim
theorem s_call (c : Ct G g k sc N W X) {x : Str} {f : String} {p pos : Pos} {args : List Expr} {ms : Es} (hc : X.calm = true) (hf : (G.fns f).isSome = true) (hx : x = Str.ofString f) (hg : gl sc x = true) (hn : args.all nst = true) (hnil : args = [] → ms = .nil) (ha : PA X args (tA X.K g G W ms)) : PE X (.Call (.Name x p) args [] pos) (tE X.K g G W (.call f ms)) := by
  obtain ⟨F, hF⟩ := Option.isSome_iff_exists.mp hf
  obtain ⟨fa, fd, ps, h1, h2, h3, h4, h5⟩ := c.ok.fn f F hF
  subst hx
  cases args with
  | nil =>
    cases hnil rfl
    refine ⟨fun pins s σ H Q I ⟨B, en, rs, vs, Xp, Q0, hs, hxl, he, hq⟩ => ?_⟩
    refine wpAny_Call_Name_kw (ld_glob I (c.gl hg) h1 ?_ h5)
    refine PySem.W.callWith_K0 I.kIn h2 (run_fnS (us := []) (vs := []) (E := WE W) h4 (c.room hc) h3 (passAt c.tk σ) I .nil ?_)
    unfold ev evr at he
    rw [hF] at he
    exact callW_ok (xs := []) (us := []) he rfl hxl hs hq
  | cons e es =>
    rw [List.all_cons, Bool.and_eq_true] at hn
    refine (pe_callS h4 (c.room hc) (c.gl hg) h1 h2 h3 (E := WE W) (fun σ => passAt c.tk σ) ha h5 (star_of hn.1) (stars_of hn.2)).im fun σ H Q ⟨B, en, rs, vs, Xp, Q0, hs, hxl, he, hq⟩ => ?_
    unfold ev at he
    rw [hF] at he
    exact ⟨B, en, rs, vs, Xp, _, hs, hxl, he, fun xs e1 us H1 h1 hl s1 => callW_ok h1 hl hxl s1 hq⟩
/-! ### and, or -/
def tBo (K : PySem.W.Frag) (g : Str → Addr) (G : Gb) (W : WX) (c : Bool) (ms : Es) : TE := fun σ H Q => ∃ B en rs vs X Q0, ST K g B en rs σ vs H ∧ XL K g G B W X ∧ evB G c ms en Q0 X ∧ ∀ d en' v H', Q0 d en' → ST K g B en' (.v d :: rs) σ (v :: vs) H' → Q v H'
def tBt (K : PySem.W.Frag) (g : Str → Addr) (G : Gb) (W : WX) (c : Bool) (ms : Es) : TT := fun σ H Q => ∃ B en rs vs X, ∃ Q0 : Bool → En → Prop, ST K g B en rs σ vs H ∧ XL K g G B W X ∧ evB G c ms en (fun d e => ∃ b, d = .bl b ∧ Q0 b e) X ∧ ∀ b en' H', Q0 b en' → ST K g B en' rs σ vs H' → Q b H'
def opOf (c : Bool) : BoolOp := if c = true then .And else .Or
theorem evB_one (c : Bool) (m : E) (en : En) (Q : D → En → Prop) (Xp : Xp) : evB G c (.cons m .nil) en Q Xp = ev G m en Q Xp := by rw [evB]
theorem evB_cons (c : Bool) (m m2 : E) (ms : Es) (en : En) (Q : D → En → Prop) (Xp : Xp) : evB G c (.cons m (.cons m2 ms)) en Q Xp = ev G m en (fun x e1 => ∃ b, x = .bl b ∧ if b = c then evB G c (.cons m2 ms) e1 Q Xp else Q (.bl (!c)) e1) Xp := by
  rw [evB]
  intro h
  cases h
theorem b_one {c : Bool} {a : Expr} {p : Pos} {m : E} (ha : PE X a (tE X.K g G W m)) : PE X (.BoolOp (opOf c) [a] p) (tBo X.K g G W c (.cons m .nil)) := by
  refine (pe_one ha).im fun σ H Q ⟨B, en, rs, vs, Xp, Q0, hs, hx, he, hq⟩ => ?_
  rw [evB_one] at he
  exact ⟨B, en, rs, vs, Xp, Q0, hs, hx, he, hq⟩
theorem b_cons {c : Bool} {a b : Expr} {r : List Expr} {p : Pos} {m m2 : E} {ms : Es} (ha : PE X a (tE X.K g G W m)) (hb : PE X (.BoolOp (opOf c) (b :: r) p) (tBo X.K g G W c (.cons m2 ms))) : PE X (.BoolOp (opOf c) (a :: b :: r) p) (tBo X.K g G W c (.cons m (.cons m2 ms))) := by
  cases c with
  | true =>
    refine (pe_and ha hb).im fun σ H Q ⟨B, en, rs, vs, Xp, Q0, hs, hx, he, hq⟩ => ?_
    rw [evB_cons] at he
    refine ⟨B, en, rs, vs, Xp, _, hs, hx, he, fun d e1 v H1 ⟨b, hb, h1⟩ s1 => ?_⟩
    subst hb
    obtain ⟨Z, O, rr, _⟩ := s1.rep rfl
    cases rr
    refine ⟨b, rfl, ?_⟩
    cases b with
    | true => exact ⟨B, e1, rs, vs, Xp, Q0, s1.drop, hx, h1, hq⟩
    | false => exact hq _ _ _ _ h1 (s1.drop.flat fun Z => .bl _)
  | false =>
    refine (pe_or ha hb).im fun σ H Q ⟨B, en, rs, vs, Xp, Q0, hs, hx, he, hq⟩ => ?_
    rw [evB_cons] at he
    refine ⟨B, en, rs, vs, Xp, _, hs, hx, he, fun d e1 v H1 ⟨b, hb, h1⟩ s1 => ?_⟩
    subst hb
    obtain ⟨Z, O, rr, _⟩ := s1.rep rfl
    cases rr
    refine ⟨b, rfl, ?_⟩
    cases b with
    | false => exact ⟨B, e1, rs, vs, Xp, Q0, s1.drop, hx, h1, hq⟩
    | true => exact hq _ _ _ _ h1 (s1.drop.flat fun Z => .bl _)
theorem w_one {c : Bool} {a : Expr} {p : Pos} {m : E} (ha : PT X a (tT X.K g G W m)) : PW X (.BoolOp (opOf c) [a] p) (tBt X.K g G W c (.cons m .nil)) := by
  have h : PW X (.BoolOp (opOf c) [a] p) (tT X.K g G W m) := by
    cases c with
    | true => exact pw_and1 ha
    | false => exact pw_or1 ha
  refine h.im fun σ H Q ⟨B, en, rs, vs, Xp, Q0, hs, hx, he, hq⟩ => ?_
  rw [evB_one] at he
  exact ⟨B, en, rs, vs, Xp, Q0, hs, hx, he, hq⟩
theorem w_cons {c : Bool} {a b : Expr} {r : List Expr} {p : Pos} {m m2 : E} {ms : Es} (ha : PT X a (tT X.K g G W m)) (hb : PW X (.BoolOp (opOf c) (b :: r) p) (tBt X.K g G W c (.cons m2 ms))) : PW X (.BoolOp (opOf c) (a :: b :: r) p) (tBt X.K g G W c (.cons m (.cons m2 ms))) := by
  cases c with
  | true =>
    refine (pw_and ha hb).im fun σ H Q ⟨B, en, rs, vs, Xp, Q0, hs, hx, he, hq⟩ => ?_
    rw [evB_cons] at he
    refine ⟨B, en, rs, vs, Xp, _, hs, hx, he, fun b e1 H1 h1 s1 => ?_⟩
    cases b with
    | true => exact ⟨B, e1, rs, vs, Xp, Q0, s1, hx, h1, hq⟩
    | false =>
      obtain ⟨b', e2, h2⟩ := h1
      cases e2
      exact hq _ _ _ h2 s1
  | false =>
    refine (pw_or ha hb).im fun σ H Q ⟨B, en, rs, vs, Xp, Q0, hs, hx, he, hq⟩ => ?_
    rw [evB_cons] at he
    refine ⟨B, en, rs, vs, Xp, _, hs, hx, he, fun b e1 H1 h1 s1 => ?_⟩
    cases b with
    | false => exact ⟨B, e1, rs, vs, Xp, Q0, s1, hx, h1, hq⟩
    | true =>
      obtain ⟨b', e2, h2⟩ := h1
      cases e2
      exact hq _ _ _ h2 s1
end
end Pf

/-! What is walked over; comprehensions. -/
namespace Pf
open PySem PySem.Spec PyProof.Rows L2
def Bs.add (B : Bs) (ts : List D) (tv : List V) : Bs := { B with ts := ts ++ B.ts, tv := tv ++ B.tv }
def vD : List R → List D
  | [] => []
  | .v d :: rs => d :: vD rs
  | .s _ :: rs => vD rs
def vV : List R → List V → List V
  | .v _ :: rs, v :: vs => v :: vV rs vs
  | .s _ :: rs, _ :: vs => vV rs vs
  | _, _ => []
def Bs.blk (B : Bs) (rs : List R) (vs : List V) : Bs := ⟨B.H, B.Z, B.O, [], vD rs ++ B.ts, vV rs vs ++ B.tv⟩
section
variable {K : PySem.W.Frag} {g : Str → Addr} {B : Bs} {en : En} {rs : List R} {σ σ' : Sg} {vs : List V} {H : Hp} {Z : AS} {O : AS}
theorem Good.re {B B' : Bs} (q : Good B Z O H) (h1 : B'.H = B.H) (h2 : B'.Z = B.Z) (h3 : B'.O = B.O) : Good B' Z O H := by
  obtain ⟨a, b, c, d, e, f⟩ := B
  obtain ⟨a', b', c', d', e', f'⟩ := B'
  cases h1
  cases h2
  cases h3
  exact ⟨q.dj, q.trO, q.trZ, q.fr, q.dom, q.zz, q.zn, q.on⟩
theorem RepT.sink {r : R} {v : V} : ∀ {xs : List R} {us : List V} {O : AS}, xs.length = us.length → RepT K g Z H σ (r :: (xs ++ rs)) (v :: (us ++ vs)) O → RepT K g Z H σ (xs ++ r :: rs) (us ++ v :: vs) O
  | [], [], _, _, t => t
  | [], _ :: _, _, h, _ => by cases h
  | _ :: _, [], _, h, _ => by cases h
  | x :: xs, u :: us, O, h, t => by
    have hl : xs.length = us.length := by simpa using h
    have t2 := t.swap
    cases t2 with
    | v a1 a2 q t => exact .v a1 a2 q (RepT.sink hl t)
    | s e t => exact .s e (RepT.sink hl t)
theorem RepE.cong {en : En} {σ σ' : Sg} {O : AS} (r : RepE K g Z H en σ O) (hl : σ'.length = σ.length) (h : ∀ (i : Nat) (d : D), en[i]? = some (some d) → σ'[i]? = σ[i]?) : RepE K g Z H en σ' O := by
  induction r generalizing σ' with
  | nil =>
    cases σ' with
    | nil => exact .nil
    | cons _ _ => cases hl
  | un t ih =>
    cases σ' with
    | nil => cases hl
    | cons y ys => exact .un (ih (by simpa using hl) fun i d e => by simpa using h (i + 1) d e)
  | has s1 s2 r t ih =>
    cases σ' with
    | nil => cases hl
    | cons y ys =>
      have e := h 0 _ rfl
      simp only [List.getElem?_cons_zero] at e
      cases e
      exact .has s1 s2 r (ih (by simpa using hl) fun i d e => by simpa using h (i + 1) d e)
theorem RepT.ofL {xs : List D} {us : List V} {O O1 O2 : AS} (r : RepL K g Z H xs us O1) (t : RepT K g Z H σ rs vs O2) (s1 : ∀ b, O1 b → O b) (s2 : ∀ b, O2 b → O b ∧ ¬ O1 b) : RepT K g Z H σ (xs.map R.v ++ rs) (us ++ vs) O := by
  induction xs generalizing us O O1 with
  | nil =>
    cases r
    exact t.up fun b z => (s2 b z).1
  | cons x xs ih =>
    cases r with
    | @cons _ E1 E2 _ _ _ _ f1 f2 r r' =>
      refine .v (O1 := E1) (O2 := fun b => E2 b ∨ O2 b) (fun b z => s1 b (f1 b z)) (fun b z => ?_) r (ih r' (fun b z => .inl z) fun b z => ⟨.inr z, fun y => (s2 b z).2 (f2 b y).1⟩)
      rcases z with z | z
      · exact ⟨s1 b (f2 b z).1, (f2 b z).2⟩
      · exact ⟨(s2 b z).1, fun y => (s2 b z).2 (f1 b y)⟩
/-- what is in flight stays with the frame -/
theorem ST.push {d : D} {v : V} (h : ST K g B en (.v d :: rs) σ (v :: vs) H) : ST K g (B.add [d] [v]) en rs σ vs H := by
  obtain ⟨⟨Z, O, O1, O2, e, t, s1, s2, q, p⟩, hl⟩ := h
  have hl' : rs.length = vs.length := by simpa using hl
  exact ⟨⟨Z, O, O1, O2, e, RepT.sink (xs := rs) (us := vs) hl' t, s1, s2, q.re rfl rfl rfl, p⟩, hl'⟩
theorem ST.add0 (h : ST K g B en rs σ vs H) : ST K g (B.add [] []) en rs σ vs H := by
  obtain ⟨⟨Z, O, O1, O2, e, t, s1, s2, q, p⟩, hl⟩ := h
  exact ⟨⟨Z, O, O1, O2, e, t, s1, s2, q.re rfl rfl rfl, p⟩, hl⟩
theorem ST.pop {tc : List D} {vc : List V} (h : ST K g (B.add tc vc) en rs σ vs H) (hc : tc.length = vc.length) : ST K g B en rs σ vs H := by
  obtain ⟨⟨Z, O, O1, O2, e, t, s1, s2, q, p⟩, hl⟩ := h
  have t' : RepT K g Z H σ (rs ++ (tc.map R.v ++ B.ts.map R.v)) (vs ++ (vc ++ B.tv)) O2 := by
    have z := t
    unfold Bs.add at z
    rw [List.map_append] at z
    exact z
  exact ⟨⟨Z, O, O1, O2, e, t'.mid hl (by rw [List.length_map]; exact hc), s1, s2, q.re rfl rfl rfl, p⟩, hl⟩
theorem XL.add {G : Gb} {W : WX} {Xp : Xp} {tc : List D} {vc : List V} (h : XL K g G B W Xp) (hc : tc.length = vc.length) : XL K g G (B.add tc vc) W Xp := by
  intro c fs en σ H cls d x e
  obtain ⟨vs, ns, fV, ⟨Z, O, O1, O2, a1, a2, a3, a4, a5, a6⟩, b⟩ := e
  have hl := b.1
  have t' : RepT K g Z H σ (fs.map R.v ++ (tc.map R.v ++ B.ts.map R.v)) (vs ++ (vc ++ B.tv)) O2 := by
    have z := a2
    unfold Bs.add at z
    rw [List.map_append] at z
    exact z
  exact h c fs en σ H cls d x ⟨vs, ns, fV, ⟨Z, O, O1, O2, a1, t'.mid (by rw [List.length_map]; exact hl) (by rw [List.length_map]; exact hc), a3, a4, a5.re rfl rfl rfl, a6⟩, b⟩
/-! ### what is walked over -/
/-- J tells ds, as long as tc stands -/
def JOk (K : PySem.W.Frag) (g : Str → Addr) (tc : List D) (vc : List V) (J : It) (ds : List D) : Prop :=
  ∀ Z H, RepL K g Z H tc vc AS.no → ∀ i, (i < ds.length → J.go i H) ∧ (ds.length ≤ i → J.stop i H) ∧ ∀ x H' d, ds[i]? = some d → J.yld i H x H' → H' = H ∧ Rep K g Z H d x AS.no
def InB (B : Bs) (tc : List D) (vc : List V) : Prop := ∃ t1 t2 w1 w2, B.ts = t1 ++ (tc ++ t2) ∧ B.tv = w1 ++ (vc ++ w2) ∧ t1.length = w1.length ∧ tc.length = vc.length
theorem InB.add {tc : List D} {vc : List V} (h : tc.length = vc.length) : InB (B.add tc vc) tc vc := ⟨[], B.ts, [], B.tv, rfl, rfl, rfl, h⟩
theorem vDV : ∀ {rs : List R} {vs : List V}, rs.length = vs.length → (vD rs).length = (vV rs vs).length
  | [], [], _ => rfl
  | [], _ :: _, h => by cases h
  | _ :: _, [], h => by cases h
  | .v _ :: rs, _ :: vs, h => by
    rw [vD, vV, List.length_cons, List.length_cons, vDV (by simpa using h)]
  | .s _ :: rs, _ :: vs, h => by
    rw [vD, vV, vDV (by simpa using h)]
theorem InB.blk {tc : List D} {vc : List V} (h : InB B tc vc) (hl : rs.length = vs.length) : InB (B.blk rs vs) tc vc := by
  obtain ⟨t1, t2, w1, w2, e1, e2, e3, e4⟩ := h
  refine ⟨vD rs ++ t1, t2, vV rs vs ++ w1, w2, ?_, ?_, ?_, e4⟩
  · show vD rs ++ B.ts = _
    rw [e1, List.append_assoc]
  · show vV rs vs ++ B.tv = _
    rw [e2, List.append_assoc]
  · rw [List.length_append, List.length_append, vDV hl, e3]
theorem ST.turn {tc : List D} {vc : List V} {J : It} {ds : List D} (h : ST K g B en rs σ vs H) (hi : InB B tc vc) (hf : fzs tc = true) (hJ : JOk K g tc vc J ds) (i : Nat) :
    (i < ds.length → J.go i H) ∧ (ds.length ≤ i → J.stop i H) ∧ ∀ x H' d, ds[i]? = some d → J.yld i H x H' → H' = H ∧ ST K g B en (.v d :: rs) σ (x :: vs) H := by
  obtain ⟨t1, t2, w1, w2, e1, e2, e3, e4⟩ := hi
  obtain ⟨⟨Z, O, O1, O2, e, t, s1, s2, q, p⟩, hl⟩ := h
  have t' : RepT K g Z H σ ([] ++ ((rs ++ t1.map R.v) ++ (tc.map R.v ++ t2.map R.v))) ([] ++ ((vs ++ w1) ++ (vc ++ w2))) O2 := by
    have z := t
    rw [e1, e2, List.map_append, List.map_append] at z
    simpa only [List.nil_append, List.append_assoc] using z
  have t2' := RepT.mid (xs := []) (vs := []) t' rfl (by rw [List.length_append, List.length_append, List.length_map, hl, e3])
  obtain ⟨A, C, r, _⟩ := RepT.vals (by simpa only [List.nil_append] using t2') e4
  obtain ⟨j1, j2, j3⟩ := hJ Z H (r.none hf) i
  refine ⟨j1, j2, fun x H' d hd hy => ?_⟩
  obtain ⟨k1, k2⟩ := j3 x H' d hd hy
  exact ⟨k1, ⟨Z, O, O1, O2, e, .v (O1 := AS.no) (fun _ z => z.elim) (fun _ z => ⟨z, id⟩) k2 t, s1, s2, q, p⟩, by rw [List.length_cons, List.length_cons, hl]⟩
theorem jok_rg (lo : Int) (n : Nat) : JOk K g [] [] (Itr lo n) ((List.range n).map fun (i : Nat) => D.int (lo + i)) := by
  intro Z H _ i
  rw [List.length_map, List.length_range]
  refine ⟨id, id, fun x H' d hd hy => ⟨hy.1, ?_⟩⟩
  obtain ⟨j, hj, rfl⟩ := (by simpa using hd : ∃ j, (List.range n)[i]? = some j ∧ D.int (lo + j) = d)
  obtain ⟨_, e⟩ := List.getElem?_eq_some_iff.mp hj
  rw [List.getElem_range] at e
  subst e
  rw [hy.2]
  exact .int _
theorem RepL.one {c : D} {v : V} (r : RepL K g Z H [c] [v] AS.no) : Rep K g Z H c v AS.no := by
  cases r with
  | cons s1 s2 r t => exact r.up s1
theorem Rep.seq0 {c : D} {v : V} {xs : List D} (r : Rep K g Z H c v AS.no) (hx : itms c = some xs) (hf : fzs xs = true) : ∃ a us, v = .ref a ∧ xs.length = us.length ∧ Seq K H c a us ∧ RepL K g Z H xs us AS.no := by
  obtain ⟨a, us, O', e1, e2, e3, r'⟩ := r.seq hx
  exact ⟨a, us, e1, e2, e3, r'.none hf⟩
theorem Seq.L {c : D} {a : Addr} {us : List V} (s : Seq K H c a us) (h : isLst c = true) : SqL K H a us := s.elim (fun z => .inl z.2) fun z => by rw [h] at z; cases z.1
theorem Seq.T {c : D} {a : Addr} {us : List V} (s : Seq K H c a us) (h : isLst c = false) : SqT K H a us := s.elim (fun z => by rw [h] at z; cases z.1) fun z => z.2
theorem jok_seq {c : D} {xs : List D} {a : Addr} (hx : itms c = some xs) (hf : fzs xs = true) : JOk K g [c] [.ref a] (if isLst c = true then Itl K a else Itt K a) xs := by
  intro Z H r i
  obtain ⟨a', us, e, l, sq, r'⟩ := r.one.seq0 hx hf
  cases e
  have key : ∀ x d, xs[i]? = some d → us[i]? = some x → Rep K g Z H d x AS.no := fun x d h1 h2 => by
    obtain ⟨u, h3, h4⟩ := r'.get h1
    rw [h2] at h3
    cases h3
    exact h4
  have at' : ∀ {i}, i < xs.length → us[i]? = some (us[i]?.getD .non) := fun {i} h => by
    rw [List.getElem?_eq_getElem (by omega)]; rfl
  cases hL : isLst c with
  | true =>
    have q := sq.L hL
    rw [if_pos rfl]
    exact ⟨fun h => ⟨us, _, q, at' h⟩, fun h => ⟨us, q, by omega⟩, fun x H' d hd hy => ⟨hy.1, key x d hd (hy.2 us q)⟩⟩
  | false =>
    have q := sq.T hL
    rw [if_neg Bool.false_ne_true]
    exact ⟨fun h => ⟨us, _, q, at' h⟩, fun h => ⟨us, q, by omega⟩, fun x H' d hd hy => ⟨hy.1, key x d hd (hy.2 us q)⟩⟩
theorem jok_rev {c : D} {xs : List D} {a : Addr} (hx : itms c = some xs) (hf : fzs xs = true) : JOk K g [c] [.ref a] (if isLst c = true then Itv K a xs.length else RT.ItvT K a xs.length) xs.reverse := by
  intro Z H r i
  obtain ⟨a', us, e, l, sq, r'⟩ := r.one.seq0 hx hf
  cases e
  rw [List.length_reverse]
  have key : ∀ x d, xs.reverse[i]? = some d → us[xs.length - 1 - i]? = some x → Rep K g Z H d x AS.no := fun x d h1 h2 => by
    have hi : i < xs.length := by
      have := (List.getElem?_eq_some_iff.mp h1).1
      simpa using this
    rw [List.getElem?_reverse hi] at h1
    obtain ⟨u, h3, h4⟩ := r'.get h1
    rw [h2] at h3
    cases h3
    exact h4
  have at' : ∀ {j}, j < xs.length → us[j]? = some (us[j]?.getD .non) := fun {i} h => by
    rw [List.getElem?_eq_getElem (by omega)]; rfl
  cases hL : isLst c with
  | true =>
    have q := sq.L hL
    rw [if_pos rfl]
    exact ⟨fun h => ⟨h, us, _, q, at' (by omega)⟩, id, fun x H' d hd hy => ⟨hy.1, key x d hd (hy.2 us q)⟩⟩
  | false =>
    have q := sq.T hL
    rw [if_neg Bool.false_ne_true]
    exact ⟨fun h => ⟨h, us, _, q, at' (by omega)⟩, id, fun x H' d hd hy => ⟨hy.1, key x d hd (hy.2 us q)⟩⟩
end
theorem _root_.L2.PI.im {X : Cx} {tg e : Expr} {t t' : TI} (h : PI X tg e t) (i : ∀ σ H R, t' σ H R → t σ H R) : PI X tg e t' := ⟨fun pins s σ H R I q => h.run pins s σ H R I (i _ _ _ q)⟩
section
variable {X : Cx} {tg : Expr}
def iSeq (K : PySem.W.Frag) (te : TE) : TI := fun σ H R => te σ H fun x H1 => ∃ a, x = .ref a ∧ (((∃ xs, SqL K H1 a xs) ∧ R (Itl K a) H1) ∨ ((∃ xs, SqT K H1 a xs) ∧ R (Itt K a) H1))
theorem pi_seq {e : Expr} {te : TE} (he : PE X e te) : PI X tg e (iSeq X.K te) := by
  refine ⟨fun pins s σ H R I h => ?_⟩
  refine thn (he.run pins s σ H _ I h) fun v s1 ⟨x, H1, I1, r1, a, e1, q⟩ => ?_
  subst e1
  cases r1
  rcases q with ⟨⟨xs, hq⟩, q⟩ | ⟨⟨xs, hq⟩, q⟩
  · obtain ⟨its, rv, p, hz⟩ := I1.list hq
    refine wpAny_pyIter_list p.isList ⟨s1.heap.objs.size, [s1.heap.objs.size], _, _, H1, rfl, I1.kept (t' := s1.toks) fun b o e => Heap.get?_push_of_some _ e, turn_list a _, ⟨_, Heap.get?_push_size _ rfl, rfl, rfl⟩, fun b hb => ?_, q⟩
    cases List.mem_singleton.mp hb
    exact I1.fpOk (Nat.le_refl _) (I1.hok.fresh (Nat.le_refl _))
  · obtain ⟨its, rv, p, hz⟩ := I1.tuple hq
    refine wpAny_pyIter_tuple (show s1.heap.IsTuple a its.toArray from p) ⟨s1.heap.objs.size, [s1.heap.objs.size], _, _, H1, rfl, I1.kept (t' := s1.toks) fun b o e => Heap.get?_push_of_some _ e, turn_tuple a _, ⟨_, Heap.get?_push_size _ rfl, rfl, rfl⟩, fun b hb => ?_, q⟩
    cases List.mem_singleton.mp hb
    exact I1.fpOk (Nat.le_refl _) (I1.hok.fresh (Nat.le_refl _))
end
def tI (K : PySem.W.Frag) (g : Str → Addr) (G : Gb) (W : WX) (m : Src) : TI := fun σ H R => ∃ B en rs vs X Q0, ST K g B en rs σ vs H ∧ XL K g G B W X ∧ evSrc G m en Q0 X ∧
  ∀ ds en' J H' tc vc, Q0 ds en' → fzs tc = true → tc.length = vc.length → JOk K g tc vc J ds → ST K g (B.add tc vc) en' rs σ vs H' → R J H'
theorem itms_frz {d : D} {xs : List D} (h : itms d = some xs) : itms (frz d) = some (frzs xs) := by
  cases d <;> first | (cases h; done) | (cases h; rw [frz]; rfl)
section
variable {G : Gb} {g : Str → Addr} {k : Nat} {sc : Scope} {N : List Str} {W : WX} {X : Cx} {tg : Expr}
theorem i_it {e : Expr} {m : E} (h : PE X e (tE X.K g G W m)) : PI X tg e (tI X.K g G W (.it m)) := by
  refine (pi_seq h).im fun σ H R ⟨B, en, rs, vs, Xp, Q0, hs, hx, he, hq⟩ => ?_
  unfold evSrc at he
  refine ⟨B, en, rs, vs, Xp, _, hs, hx, he, fun d e1 v H1 ⟨xs, hxs, h1⟩ s1 => ?_⟩
  have s2 := s1.freezeT
  have hx' := itms_frz hxs
  obtain ⟨a, us, e2, l, sq, _⟩ := s2.seqF (r := .v (frz d)) rfl hx' (fzs_frzs xs)
  subst e2
  have s3 := s2.push
  have j := jok_seq (K := X.K) (g := g) (a := a) hx' (fzs_frzs xs)
  refine ⟨a, rfl, ?_⟩
  cases hL : isLst (frz d) with
  | true =>
    rw [hL, if_pos rfl] at j
    exact .inl ⟨⟨us, sq.L hL⟩, hq _ e1 _ H1 [frz d] [.ref a] h1 (by rw [fzs, fz_frz]; rfl) rfl j s3⟩
  | false =>
    rw [hL, if_neg Bool.false_ne_true] at j
    exact .inr ⟨⟨us, sq.T hL⟩, hq _ e1 _ H1 [frz d] [.ref a] h1 (by rw [fzs, fz_frz]; rfl) rfl j s3⟩
theorem i_rev (c : Ct G g k sc N W X) {e : Expr} {m : E} {p pos : Pos} (hg : gl sc "reversed" = true) (hn : nst e = true) (h : PE X e (tE X.K g G W m)) : PI X tg (.Call (.Name "reversed" p) [e] [] pos) (tI X.K g G W (.rev m)) := by
  refine (RT.pi_revA (c.gl hg) (c.ok.fre "reversed" (by decide)) h (star_of hn)).im fun σ H R ⟨B, en, rs, vs, Xp, Q0, hs, hx, he, hq⟩ => ?_
  unfold evSrc at he
  refine ⟨B, en, rs, vs, Xp, _, hs, hx, he, fun d e1 v H1 ⟨xs, hxs, h1⟩ s1 => ?_⟩
  have s2 := s1.freezeT
  have hx' := itms_frz hxs
  obtain ⟨a, us, e2, l, sq, _⟩ := s2.seqF (r := .v (frz d)) rfl hx' (fzs_frzs xs)
  subst e2
  have s3 := s2.push
  have j := jok_rev (K := X.K) (g := g) (a := a) hx' (fzs_frzs xs)
  rw [l] at j
  refine ⟨a, us, rfl, ?_⟩
  cases hL : isLst (frz d) with
  | true =>
    rw [hL, if_pos rfl] at j
    exact .inl ⟨sq.L hL, hq _ e1 _ H1 [frz d] [.ref a] h1 (by rw [fzs, fz_frz]; rfl) rfl j s3⟩
  | false =>
    rw [hL, if_neg Bool.false_ne_true] at j
    exact .inr ⟨sq.T hL, hq _ e1 _ H1 [frz d] [.ref a] h1 (by rw [fzs, fz_frz]; rfl) rfl j s3⟩
theorem RepL.int1 {Z O : AS} {K : PySem.W.Frag} {H : Hp} {b : Int} {us : List V} (r : RepL K g Z H [.int b] us O) : us = [.int b] := by
  cases r with
  | cons s1 s2 r t =>
    cases r
    cases t
    rfl
theorem RepL.int2 {Z O : AS} {K : PySem.W.Frag} {H : Hp} {a b : Int} {us : List V} (r : RepL K g Z H [.int a, .int b] us O) : us = [.int a, .int b] := by
  cases r with
  | cons s1 s2 r t =>
    cases r
    rw [RepL.int1 t]
theorem ST.valsL {K : PySem.W.Frag} {B : Bs} {en : En} {rs : List R} {σ : Sg} {vs us : List V} {H : Hp} {ds : List D} (h : ST K g B en (ds.map R.v ++ rs) σ (us ++ vs) H) (hl : ds.length = us.length) : ∃ Z O, RepL K g Z H ds us O := by
  obtain ⟨⟨Z, O, O1, O2, e, t, s1, s2, q, p⟩, _⟩ := h
  rw [List.append_assoc, List.append_assoc] at t
  obtain ⟨A, C, r, _⟩ := t.vals hl
  exact ⟨Z, A, r⟩
theorem i_rng (c : Ct G g k sc N W X) {args : List Expr} {ms : Es} {p pos : Pos} (hg : gl sc "range" = true) (hn : args.all nst = true) (hl : esLen ms = args.length) (h12 : (args.length == 1 || args.length == 2) = true) (h : PA X args (tV X.K g G W ms)) : PI X tg (.Call (.Name "range" p) args [] pos) (tI X.K g G W (.rng ms)) := by
  match args, hn, hl, h12, h with
  | [a], hn, hl, _, h =>
    rw [List.all_cons, Bool.and_eq_true] at hn
    refine (pi_range1 (c.gl hg) (c.ok.fre "range" (by decide)) h (by rw [star_of hn.1]; rfl)).im fun σ H R ⟨B, en, rs, vs, Xp, Q0, hs, hx, he, hq⟩ => ?_
    unfold evSrc at he
    refine ⟨B, en, rs, vs, Xp, _, hs, hx, he, fun ds e1 us H1 h1 l1 l2 s1 => ?_⟩
    split at h1
    · rename_i b
      obtain ⟨Z, O, r⟩ := s1.valsL l1
      cases r.int1
      refine ⟨b, rfl, h1.1.1, h1.1.2, hq _ e1 _ H1 [] [] h1.2 rfl rfl ?_ (s1.dropL l1).add0⟩
      have z := jok_rg (K := X.K) (g := g) 0 b.toNat
      unfold rgL
      rw [Int.sub_zero]
      exact z
    · rename_i a' b'
      rw [hl] at l2
      cases l2
    · exact h1.elim
  | [a, b], hn, hl, _, h =>
    rw [List.all_cons, List.all_cons, Bool.and_eq_true, Bool.and_eq_true] at hn
    refine (pi_range2 (c.gl hg) (c.ok.fre "range" (by decide)) h (by rw [star_of hn.1, star_of hn.2.1]; rfl) (by rw [star_of hn.2.1]; rfl)).im fun σ H R ⟨B, en, rs, vs, Xp, Q0, hs, hx, he, hq⟩ => ?_
    unfold evSrc at he
    refine ⟨B, en, rs, vs, Xp, _, hs, hx, he, fun ds e1 us H1 h1 l1 l2 s1 => ?_⟩
    split at h1
    · rename_i b'
      rw [hl] at l2
      cases l2
    · rename_i a' b'
      obtain ⟨Z, O, r⟩ := s1.valsL l1
      cases r.int2
      exact ⟨a', b', rfl, h1.1, hq _ e1 _ H1 [] [] h1.2 rfl rfl (jok_rg _ _) (s1.dropL l1).add0⟩
    · exact h1.elim
theorem RepL.int3 {Z O : AS} {K : PySem.W.Frag} {H : Hp} {a b c : Int} {us : List V} (r : RepL K g Z H [.int a, .int b, .int c] us O) : us = [.int a, .int b, .int c] := by
  cases r with
  | cons s1 s2 r t =>
    cases r
    rw [RepL.int2 t]
theorem jok_rgC {K : PySem.W.Frag} (lo : Int) (n : Nat) : JOk K g [] [] (Itc lo (-1) n) ((List.range n).map fun (i : Nat) => D.int (lo + i * (-1))) := by
  intro Z H _ i
  rw [List.length_map, List.length_range]
  refine ⟨id, id, fun x H' d hd hy => ⟨hy.1, ?_⟩⟩
  obtain ⟨j, hj, rfl⟩ := (by simpa using hd : ∃ j, (List.range n)[i]? = some j ∧ D.int (lo + j * (-1)) = d)
  obtain ⟨_, e⟩ := List.getElem?_eq_some_iff.mp hj
  rw [List.getElem_range] at e
  subst e
  rw [hy.2]
  exact .int _
theorem i_rdn (c : Ct G g k sc N W X) {args : List Expr} {ms : Es} {p pos : Pos} (hg : gl sc "range" = true) (hn : args.all nst = true) (hl : esLen ms = args.length) (h3 : (args.length == 3) = true) (h : PA X args (tV X.K g G W ms)) : PI X tg (.Call (.Name "range" p) args [] pos) (tI X.K g G W (.rdn ms)) := by
  match args, hn, hl, h3, h with
  | [a, b, c'], hn, hl, _, h =>
    rw [List.all_cons, Bool.and_eq_true] at hn
    refine (pi_range3 (c.gl hg) (c.ok.fre "range" (by decide)) h (star_of hn.1) (stars_of hn.2)).im fun σ H R ⟨B, en, rs, vs, Xp, Q0, hs, hx, he, hq⟩ => ?_
    unfold evSrc at he
    refine ⟨B, en, rs, vs, Xp, _, hs, hx, he, fun ds e1 us H1 h1 l1 l2 s1 => ?_⟩
    split at h1
    · rename_i a' b' c1
      obtain ⟨⟨rfl, k1, k2, k3, k4⟩, h2⟩ := h1
      obtain ⟨Z, O, r⟩ := s1.valsL l1
      cases r.int3
      exact ⟨a', b', -1, (a' - b').toNat, rfl, RgC.neg k1 k2 k3 k4, hq _ e1 _ H1 [] [] h2 rfl rfl (jok_rgC _ _) (s1.dropL l1).add0⟩
    · exact h1.elim
end
end Pf

/-! Comprehensions. -/
namespace Pf
open PySem PySem.Spec PyProof.Rows L2
section
variable {K : PySem.W.Frag} {g : Str → Addr} {B : Bs} {en : En} {rs : List R} {σ σ' : Sg} {vs : List V} {H : Hp} {Z : AS} {O : AS}
theorem wipe_at {σ : Sg} {i : Nat} : ∀ {tg : List Nat}, i ∉ tg → (wipe σ tg)[i]? = σ[i]?
  | [], _ => rfl
  | v :: tg, h => by
    have h1 : v ≠ i := fun e => h (by rw [e]; exact List.mem_cons_self)
    have h2 : i ∉ tg := fun m => h (List.mem_cons_of_mem _ m)
    unfold wipe
    rw [List.getElem?_set_ne h1]
    exact wipe_at h2
theorem wipe_in {σ : Sg} {i : Nat} : ∀ {tg : List Nat}, i ∈ tg → (wipe σ tg)[i]? = if i < σ.length then some none else none
  | v :: tg, h => by
    unfold wipe
    by_cases e : v = i
    · subst e
      rw [List.getElem?_set_self']
      by_cases hl : v < σ.length
      · rw [if_pos hl, List.getElem?_eq_getElem (by rw [wipe_length]; exact hl)]; rfl
      · rw [if_neg hl, List.getElem?_eq_none (by rw [wipe_length]; omega)]; rfl
    · rw [List.getElem?_set_ne e]
      exact wipe_in ((List.mem_cons.mp h).resolve_left fun q => e q.symm)
theorem wipe_eq {σ σ' : Sg} {tg : List Nat} (hl : σ'.length = σ.length) (h : ∀ i, i ∉ tg → σ'[i]? = σ[i]?) : wipe σ' tg = wipe σ tg := by
  refine List.ext_getElem? fun i => ?_
  by_cases hi : i ∈ tg
  · rw [wipe_in hi, wipe_in hi, hl]
  · rw [wipe_at hi, wipe_at hi, h i hi]
theorem offs_len : ∀ {tg : List Nat} {en : En}, (offs en tg).length = en.length
  | [], _ => rfl
  | i :: tg, en => by rw [offs, offs_len, List.length_set]
theorem offs_none : ∀ {tg : List Nat} {en : En} {i : Nat}, (∀ d, en[i]? ≠ some (some d)) → ∀ d, (offs en tg)[i]? ≠ some (some d)
  | [], _, _, h => h
  | j :: tg, en, i, h => by
    rw [offs]
    refine offs_none fun d => ?_
    by_cases e : j = i
    · subst e
      rw [List.getElem?_set_self']
      cases en[j]? <;> simp
    · rw [List.getElem?_set_ne e]; exact h d
theorem offs_off : ∀ {tg : List Nat} {en : En} {i : Nat}, i ∈ tg → ∀ d, (offs en tg)[i]? ≠ some (some d)
  | j :: tg, en, i, h => by
    rw [offs]
    by_cases e : j = i
    · subst e
      refine offs_none fun d => ?_
      rw [List.getElem?_set_self']
      cases en[j]? <;> simp
    · exact offs_off ((List.mem_cons.mp h).resolve_left fun q => e q.symm)
theorem RepE.offs0 : ∀ (tg : List Nat) {e0 : En} {O : AS}, RepE K g Z H e0 σ O → RepE K g Z H (offs e0 tg) σ O
  | [], _, _, r => r
  | i :: tg, _, _, r => by
    rw [offs]
    exact RepE.offs0 tg (r.off i)
theorem RepE.wipe0 {tg : List Nat} {e0 : En} {O : AS} (r : RepE K g Z H e0 σ O) : RepE K g Z H (offs e0 tg) (wipe σ tg) O :=
  (RepE.offs0 tg r).cong (wipe_length σ tg) fun i d e => wipe_at fun m => offs_off m d e
theorem RepT.only {σ σ' : Sg} {ts : List D} {tv : List V} : ∀ {rs : List R} {vs : List V} {O : AS}, rs.length = vs.length → RepT K g Z H σ (rs ++ ts.map R.v) (vs ++ tv) O → RepT K g Z H σ' ((vD rs ++ ts).map R.v) (vV rs vs ++ tv) O
  | [], [], _, _, t => RepT.any t
  | [], _ :: _, _, h, _ => by cases h
  | _ :: _, [], _, h, _ => by cases h
  | .v d :: rs, u0 :: vs, O, h, t => by
    cases t with
    | v a1 a2 r t => exact .v a1 a2 r (RepT.only (by simpa using h) t)
  | .s i :: rs, u0 :: vs, O, h, t => by
    cases t with
    | s e t => exact RepT.only (rs := rs) (vs := vs) (by simpa using h) t
theorem RepT.back {σ σ' : Sg} {ts : List D} {tv : List V} : ∀ {rs : List R} {vs : List V} {O : AS}, Sl σ rs vs → RepT K g Z H σ' ((vD rs ++ ts).map R.v) (vV rs vs ++ tv) O → RepT K g Z H σ (rs ++ ts.map R.v) (vs ++ tv) O
  | _, _, _, .nil, t => RepT.any t
  | _, _, _, .v q, t => by
    cases t with
    | v a1 a2 r t => exact .v a1 a2 r (RepT.back q t)
  | _, _, _, .s e q, t => .s e (RepT.back q t)
theorem ST.sl (h : ST K g B en rs σ vs H) : Sl σ rs vs := by
  obtain ⟨⟨Z, O, O1, O2, e, t, s1, s2, q, p⟩, hl⟩ := h
  exact t.sl hl
theorem ST.pins (h : ST K g B en rs σ vs H) : ∀ p ∈ B.pin, σ[p.1]? = some (some p.2) := by
  obtain ⟨⟨Z, O, O1, O2, e, t, s1, s2, q, p⟩, hl⟩ := h
  exact p
theorem ST.len (h : ST K g B en rs σ vs H) : en.length = σ.length := SR.len h.1
theorem ST.hl (h : ST K g B en rs σ vs H) : rs.length = vs.length := h.2
/-- into a block -/
theorem ST.blkIn (h : ST K g B en rs σ vs H) (tg : List Nat) : ST K g (B.blk rs vs) (offs en tg) [] (wipe σ tg) [] H := by
  obtain ⟨⟨Z, O, O1, O2, e, t, s1, s2, q, p⟩, hl⟩ := h
  exact ⟨⟨Z, O, O1, O2, RepE.wipe0 e, RepT.only hl t, s1, s2, q.re rfl rfl rfl, fun _ z => absurd z (by simp [Bs.blk])⟩, rfl⟩
/-- and out again -/
theorem ST.blkOut {tg : List Nat} {ts : List D} {us : List V} (s : Sl σ rs vs) (hl : rs.length = vs.length) (p : ∀ p ∈ B.pin, σ[p.1]? = some (some p.2)) (hn : ∀ i ∈ tg, ∀ d, en[i]? ≠ some (some d)) (h : ST K g (B.blk rs vs) en (ts.map R.v) (wipe σ tg) us H) : ST K g B en (ts.map R.v ++ rs) σ (us ++ vs) H := by
  obtain ⟨⟨Z, O, O1, O2, e, t, s1, s2, q, _⟩, hl'⟩ := h
  rw [List.length_map] at hl'
  have t' : RepT K g Z H (wipe σ tg) (ts.map R.v ++ ((vD rs ++ B.ts).map R.v)) (us ++ (vV rs vs ++ B.tv)) O2 := t
  obtain ⟨A, C, r, t2, b1, b2⟩ := t'.vals hl'
  refine ⟨⟨Z, O, O1, O2, e.cong (wipe_length σ tg).symm fun i d e => (wipe_at fun m => hn i m d e).symm, ?_, s1, s2, q.re rfl rfl rfl, p⟩, by rw [List.length_append, List.length_append, List.length_map, hl', hl]⟩
  rw [List.append_assoc, List.append_assoc]
  exact RepT.ofL r (RepT.back s t2) b1 b2
/-- the names may hold anything where nothing is known -/
theorem ST.wipe2 {tg : List Nat} {ts : List D} (hp : B.pin = []) (h : ST K g B en (ts.map R.v) σ vs H) : ST K g B (offs en tg) (ts.map R.v) (wipe σ tg) vs H := by
  obtain ⟨⟨Z, O, O1, O2, e, t, s1, s2, q, p⟩, hl⟩ := h
  refine ⟨⟨Z, O, O1, O2, RepE.wipe0 e, ?_, s1, s2, q, fun p z => by rw [hp] at z; cases z⟩, hl⟩
  rw [← List.map_append] at t ⊢
  exact RepT.any t
/-- onto the list that is being built -/
theorem ST.app1 {d : D} {v : V} {acc : List D} {a : Addr} (h : ST K g B en (.v d :: .v (.lst true acc) :: rs) σ (v :: .ref a :: vs) H) :
    ∃ ws, H a = some (.lst ws) ∧ acc.length = ws.length ∧ ST K g B en (.v (.lst true (acc ++ [d])) :: rs) σ (.ref a :: vs) (upd H a (.lst (ws ++ [v]))) := by
  obtain ⟨⟨Z, O, O1, O2, e, t, s1, s2, q, p⟩, hl⟩ := h
  cases t with
  | @v _ A C _ _ _ _ a1 a2 r t =>
    cases t with
    | @v _ A' C' _ _ _ _ b1 b2 r' t =>
      cases r' with
      | @lstO _ A'' _ _ ws ea oa sa ra =>
        have oA : O a := (s2 a (a2 a (b1 a oa)).1).1
        have n1 : ¬ O1 a := (s2 a (a2 a (b1 a oa)).1).2
        have nA : ¬ A a := (a2 a (b1 a oa)).2
        have nC : ¬ C' a := fun z => (b2 a z).2 oa
        have r2 : RepL K g Z H (acc ++ [d]) (ws ++ [v]) (fun b => A'' b ∨ A b) :=
          ra.app (RepL.cons (O1 := A) (O2 := AS.no) (O := A) (fun _ z => z) (fun _ z => z.elim) r .nil) (fun b z => .inl z) fun b z => ⟨.inr z, fun y => (a2 b (b1 b (sa b y).1)).2 z⟩
        have r3 := r2.keep (fun _ z => z) (q.keep (x := .lst (ws ++ [v])) oA fun z => z.elim (fun z => (sa a z).2 rfl) nA)
        refine ⟨ws, ea, ra.length, ⟨Z, O, O1, O2, e.keep (fun _ z => z) (q.keep (x := .lst (ws ++ [v])) oA n1), .v (O1 := fun b => A' b ∨ A b) (O2 := C') (fun b z => z.elim (fun z => (a2 b (b1 b z)).1) (a1 b)) (fun b z => ⟨(a2 b (b2 b z).1).1, fun y => y.elim (b2 b z).2 (a2 b (b2 b z).1).2⟩)
          (.lstO (O' := fun b => A'' b ∨ A b) upd_same (.inl oa) (fun b z => z.elim (fun z => ⟨.inl (sa b z).1, (sa b z).2⟩) fun z => ⟨.inr z, fun y => nA (y ▸ z)⟩) r3) (t.keep (fun _ z => z) (q.keep (x := .lst (ws ++ [v])) oA nC)), s1, s2, q.mut oA rfl, p⟩, by simpa using hl⟩
/-! ### targets -/
theorem ST.set1 {i : Nat} {d : D} {v : V} {ts : List D} (h : ST K g B en (.v d :: ts.map R.v) σ (v :: vs) H) (hi : i < σ.length) (hp : ∀ p ∈ B.pin, p.1 ≠ i) : ST K g B (en.set i (some d)) (ts.map R.v) (σ.set i (some v)) vs H := by
  obtain ⟨h, hl⟩ := h
  rw [List.cons_append, ← List.map_append] at h
  refine ⟨?_, by simpa using hl⟩
  rw [← List.map_append]
  exact SR.asg h hi hp
theorem ST.untup {ds : List D} {v : V} (h : ST K g B en (.v (.tup ds) :: rs) σ (v :: vs) H) : ∃ a us, v = .ref a ∧ SqT K H a us ∧ ds.length = us.length ∧ ST K g B en (ds.map R.v ++ rs) σ (us ++ vs) H := by
  obtain ⟨⟨Z, O, O1, O2, e, t, s1, s2, q, p⟩, hl⟩ := h
  cases t with
  | v a1 a2 r t =>
    cases r with
    | tup ee r =>
      refine ⟨_, _, rfl, ee, r.length, ⟨Z, O, O1, O2, e, ?_, s1, s2, q, p⟩, ?_⟩
      · rw [List.append_assoc, List.append_assoc]
        exact RepT.ofL r t a1 a2
      · have := r.length
        simp only [List.length_append, List.length_map, List.length_cons] at hl ⊢
        omega
end
def setV : Sg → List Nat → List V → Sg
  | σ, i :: is, v :: vs => setV (σ.set i (some v)) is vs
  | σ, _, _ => σ
section
variable {K : PySem.W.Frag} {g : Str → Addr} {B : Bs} {en : En} {rs : List R} {σ σ' : Sg} {vs : List V} {H : Hp} {Z : AS} {O : AS}
theorem setV_len : ∀ {is : List Nat} {us : List V} {σ : Sg}, (setV σ is us).length = σ.length
  | [], _, _ => rfl
  | _ :: _, [], _ => rfl
  | i :: is, u :: us, σ => by rw [setV, setV_len, List.length_set]
theorem setV_at {j : Nat} : ∀ {is : List Nat} {us : List V} {σ : Sg}, j ∉ is → (setV σ is us)[j]? = σ[j]?
  | [], _, _, _ => rfl
  | _ :: _, [], _, _ => rfl
  | i :: is, u :: us, σ, h => by
    rw [setV, setV_at fun m => h (List.mem_cons_of_mem _ m), List.getElem?_set_ne fun e => h (by rw [e]; exact List.mem_cons_self)]
theorem ST.sets {ts : List D} : ∀ {is : List Nat} {ds : List D} {us : List V} {en en' : En} {σ : Sg}, ST K g B en (ds.map R.v ++ ts.map R.v) σ (us ++ vs) H → ds.length = us.length → setN en is ds = some en' → (∀ i ∈ is, i < σ.length ∧ ∀ p ∈ B.pin, p.1 ≠ i) →
    is.length = us.length ∧ ST K g B en' (ts.map R.v) (setV σ is us) vs H
  | [], [], [], en, en', σ, h, _, hs, _ => by
    have hs' : some en = some en' := by rw [← hs]; unfold setN; rfl
    cases hs'
    exact ⟨rfl, h⟩
  | [], _ :: _, _, _, _, _, _, _, hs, _ => by simp [setN] at hs
  | _ :: _, [], _, _, _, _, _, _, hs, _ => by simp [setN] at hs
  | _, [], _ :: _, _, _, _, _, hl, _, _ => by cases hl
  | _, _ :: _, [], _, _, _, _, hl, _, _ => by cases hl
  | i :: is, d :: ds, u :: us, en, en', σ, h, hl, hs, hi => by
    have hs' : setN (en.set i (some d)) is ds = some en' := by rw [← hs]; rw [setN]
    have h1 := hi i List.mem_cons_self
    have h' : ST K g B en (.v d :: (ds ++ ts).map R.v) σ (u :: (us ++ vs)) H := by
      rw [List.map_append]
      exact h
    have h2 := h'.set1 h1.1 h1.2
    rw [List.map_append] at h2
    obtain ⟨l, q⟩ := ST.sets h2 (by simpa using hl) hs' fun j hj => by
      rw [List.length_set]
      exact hi j (List.mem_cons_of_mem _ hj)
    exact ⟨by rw [List.length_cons, List.length_cons, l], q⟩
end
/-- a target's reading -/
def tG (K : PySem.W.Frag) (g : Str → Addr) (tg : List Nat) : TG := fun v σ H Q => ∃ (B : Bs) (en : En) (ts : List D) (vs : List V) (d : D) (Q0 : En → Prop), ST K g B en (.v d :: ts.map R.v) σ (v :: vs) H ∧ (∀ i ∈ tg, i < σ.length ∧ ∀ p ∈ B.pin, p.1 ≠ i) ∧ bindW tg d en Q0 ∧
  ∀ en' σ', Q0 en' → σ'.length = σ.length → (∀ j, j ∉ tg → σ'[j]? = σ[j]?) → ST K g B en' (ts.map R.v) σ' vs H → Q σ' H
theorem _root_.L2.PG.im {X : Cx} {e : Expr} {t t' : TG} (h : PG X e t) (i : ∀ v σ H Q, t' v σ H Q → t v σ H Q) : PG X e t' := ⟨fun pins s σ H v u Q I r q => h.run pins s σ H v u Q I r (i _ _ _ _ q)⟩
def isNm : Expr → Bool
  | .Name _ _ => true
  | _ => false
theorem aeach_of {env : Env} : ∀ {es : List Expr}, es.all isNm = true → (assignEach es env).length = es.length ∧ (assignEach es env).findIdx? (·.1) = none
  | [], _ => ⟨rfl, rfl⟩
  | e :: es, h => by
    rw [List.all_cons, Bool.and_eq_true] at h
    obtain ⟨h1, h2⟩ := aeach_of (env := env) h.2
    cases e with
    | Name x p =>
      refine ⟨?_, ?_⟩
      · show (assignEach es env).length + 1 = _
        rw [h1]; rfl
      · show List.findIdx? (·.1) ((false, _) :: assignEach es env) = none
        rw [List.findIdx?_cons]
        simp [h2]
    | _ => cases h.1
theorem chkTg_nm {N : List Str} {names : List (Str × NameKind)} : ∀ {tg : List Nat} {es : List Expr}, chkTg N names tg es = true → es.all isNm = true ∧ tg.length = es.length
  | [], [], _ => ⟨rfl, rfl⟩
  | [], _ :: _, h => by cases h
  | _ :: _, [], h => by cases h
  | i :: is, e :: es, h => by
    cases e with
    | Name x p =>
      obtain ⟨_, h2⟩ := and2 h
      obtain ⟨h3, h4⟩ := chkTg_nm h2
      exact ⟨h3, by rw [List.length_cons, List.length_cons, h4]⟩
    | _ => cases h
section
variable {X : Cx} {N : List Str} {names : List (Str × NameKind)}
def gSets : List Nat → TGs
  | [] => gNil
  | i :: is => gCons (gName i) (gSets is)
theorem gSets_ok : ∀ {is : List Nat} {us : List V} {σ : Sg} {H : Hp} {Q : Sg → Hp → Prop}, is.length = us.length → Q (setV σ is us) H → gSets is us σ H Q
  | [], [], _, _, _, _, q => ⟨rfl, q⟩
  | [], _ :: _, _, _, _, h, _ => by cases h
  | _ :: _, [], _, _, _, h, _ => by cases h
  | i :: is, u :: us, σ, H, Q, h, q => ⟨u, us, rfl, gSets_ok (by simpa using h) q⟩
theorem pgs_of (hN : X.N = N) (nd : N.Nodup) (hk : ∀ x, (names.lookup x = some .local ∨ names.lookup x = some .cell) → Loc X.env.scope x ∧ (X.fn x = true ∨ X.env.scope.names.lookup x = some .local)) :
    ∀ {tg : List Nat} {es : List Expr}, chkTg N names tg es = true → PGs X es (gSets tg)
  | [], [], _ => pgs_nil
  | [], _ :: _, h => by cases h
  | _ :: _, [], h => by cases h
  | i :: is, e :: es, h => by
    cases e with
    | Name x p =>
      obtain ⟨h1, h2⟩ := and2 h
      obtain ⟨h3, h4⟩ := and2 h1
      rw [Bool.or_eq_true] at h4
      obtain ⟨h5, h6⟩ := hk x (h4.imp of_decide_eq_true of_decide_eq_true)
      exact pgs_cons (pg_name (by rw [hN]; exact nd) (by rw [hN]; exact of_decide_eq_true h3) h5 h6) (pgs_of hN nd hk h2) rfl
    | _ => cases h
theorem g_tg (hc : X.calm = true) (hN : X.N = N) (nd : N.Nodup) (hk : ∀ x, (names.lookup x = some .local ∨ names.lookup x = some .cell) → Loc X.env.scope x ∧ (X.fn x = true ∨ X.env.scope.names.lookup x = some .local))
    {tg : List Nat} {t : Expr} (h : chkTgt N names tg t = true) : PG X t (tG X.K g tg) := by
  match tg, t, h with
  | [i], .Name x p, h =>
    obtain ⟨h3, h4⟩ := and2 h
    rw [Bool.or_eq_true] at h4
    obtain ⟨h5, h6⟩ := hk x (h4.imp of_decide_eq_true of_decide_eq_true)
    refine (pg_name (by rw [hN]; exact nd) (by rw [hN]; exact of_decide_eq_true h3) h5 h6).im fun v σ H Q ⟨B, en, ts, vs, d, Q0, hs, hi, hb, hq⟩ => ?_
    obtain ⟨k1, k2⟩ := hi i List.mem_cons_self
    exact hq _ _ hb (List.length_set ..) (fun j hj => List.getElem?_set_ne fun e => hj (by rw [e]; exact List.mem_cons_self)) (hs.set1 k1 k2)
  | i :: j :: is, .Tuple es kk p, h =>
    obtain ⟨n1, n2⟩ := chkTg_nm h
    obtain ⟨a1, a2⟩ := aeach_of (env := X.env) n1
    refine (pg_tup (n := es.length) hc (pgs_of hN nd hk h) a1 a2).im fun v σ H Q ⟨B, en, ts, vs, d, Q0, hs, hi, hb, hq⟩ => ?_
    obtain ⟨ds, en', rfl, e2, hb⟩ := hb
    obtain ⟨a, us, rfl, sq, l, s2⟩ := hs.untup
    obtain ⟨l2, s3⟩ := s2.sets l e2 hi
    exact ⟨a, us, rfl, sq, by rw [← l2, n2], gSets_ok l2 (hq _ _ hb setV_len (fun j hj => setV_at hj) s3)⟩
end
end Pf

/-! Comprehensions, kept. -/
namespace Pf
open PySem PySem.Spec PyProof.Rows L2
abbrev WF : WX := fun _ _ _ _ => False
theorem _root_.L2.PE.imL {X : Cx} {e : Expr} {t t' : TE} (h : PE X e t) (i : ∀ σ H Q, σ.length = X.N.length → t' σ H Q → t σ H Q) : PE X e t' := ⟨fun pins s σ H Q I q => h.run pins s σ H Q I (i _ _ _ I.len q)⟩
theorem _root_.L2.PTs.im {X : Cx} {e : List Expr} {t t' : TT} (h : PTs X e t) (i : ∀ σ H Q, t' σ H Q → t σ H Q) : PTs X e t' := ⟨fun pins s σ H Q I q => h.run pins s σ H Q I (i _ _ _ q)⟩
def tTs (K : PySem.W.Frag) (g : Str → Addr) (G : Gb) (cs : Es) : TT := fun σ H Q => ∃ B en rs vs X, ∃ Q0 : Bool → En → Prop, ST K g B en rs σ vs H ∧ evTs G cs en Q0 X ∧ ∀ b en' H', Q0 b en' → ST K g B en' rs σ vs H' → Q b H'
section
variable {G : Gb} {g : Str → Addr} {k : Nat} {sc : Scope} {N : List Str} {W : WX} {X : Cx}
theorem XL.f {K : PySem.W.Frag} {B : Bs} {W : WX} : XL K g G B W (fun _ _ _ => False) := fun _ _ _ _ _ _ _ h _ => h.elim
theorem Ct.blk (c : Ct G g k sc N W X) {scope : Scope} (s : Shared) (H : Hp) (C : Addr) (cl : List (Str × Addr)) (fp : List Addr) : Ct G g k (relS scope sc) N WF (X.blk s H scope (compEnvC scope cl C X.env) fp) where
  hN := c.hN
  nd := c.nd
  sc := by
    show relS scope X.env.scope = _
    rw [c.sc]
  room := c.room
  hu := c.hu
  tk := fun u s' ⟨_, _, _, _, _, _, _, _, _, _, _, _, _, _, _, _, w⟩ => w.elim
  ok := c.ok
theorem blk_k {scope : Scope} {X : Cx} (s : Shared) (H : Hp) (C : Addr) (cl : List (Str × Addr)) (fp : List Addr) (x : Str) (h : scope.names.lookup x = some .local ∨ scope.names.lookup x = some .cell) :
    Loc (X.blk s H scope (compEnvC scope cl C X.env) fp).env.scope x ∧ ((X.blk s H scope (compEnvC scope cl C X.env) fp).fn x = true ∨ (X.blk s H scope (compEnvC scope cl C X.env) fp).env.scope.names.lookup x = some .local) := by
  rcases h with h | h
  · have q : (relS scope X.env.scope).names.lookup x = some .local := lookup_relS_keep (by intro z; cases z) h
    exact ⟨.inl q, .inr q⟩
  · have q : (relS scope X.env.scope).names.lookup x = some .cell := lookup_relS_keep (by intro z; cases z) h
    refine ⟨.inr q, .inl ?_⟩
    show (scope.names.lookup x == some .cell) = true
    rw [h]
    rfl
theorem ts_nil : PTs X [] (tTs X.K g G .nil) := by
  refine pts_nil.im fun σ H Q ⟨B, en, rs, vs, Xp, Q0, hs, he, hq⟩ => ?_
  unfold evTs at he
  exact hq _ _ _ he hs
theorem ts_one {e : Expr} {m : E} (h : PT X e (tT X.K g G WF m)) : PTs X [e] (tTs X.K g G (.cons m .nil)) := by
  refine (pts_one h).im fun σ H Q ⟨B, en, rs, vs, Xp, Q0, hs, he, hq⟩ => ?_
  unfold evTs at he
  exact ⟨B, en, rs, vs, _, Q0, hs, XL.f, he, hq⟩
theorem ownOf_ix (tg : List Nat) : (ownOf N tg).map (·.2) = tg := by
  unfold ownOf
  rw [List.map_map]
  exact List.map_id tg
theorem own_lt {tg : List Nat} {sc scope : Scope} (ok : BlkOk N sc scope (ownOf N tg)) : ∀ i ∈ tg, i < N.length := fun i hi => by
  have := ok.ix ((N[i]?).getD Str.empty, i) (List.mem_map.mpr ⟨i, hi, rfl⟩)
  exact (List.getElem?_eq_some_iff.mp this).1
theorem lc_im (c : Ct G g k sc N W X) {scope : Scope} {tg : List Nat} {src : Src} {cs : Es} {elt : E} (hb : blkC N sc scope (ownOf N tg) = true) (σ : L2.St) (H : Hp) (Q : VK) (hlen : σ.length = X.N.length) (h : tE X.K g G W (.lc tg src cs elt) σ H Q) :
    tLc (tI X.K g G W src) (tG X.K g tg) (tTs X.K g G cs) (tE X.K g G WF elt) ((ownOf N tg).map (·.2)) σ H Q := by
  have ok0 : BlkOk N sc scope (ownOf N tg) := blkOk_by hb
  obtain ⟨B, en, rs, vs, Xp, Q0, hs, hx, hev, hq⟩ := h
  unfold ev at hev
  refine ⟨B, en, rs, vs, Xp, _, hs, hx, hev, fun ds e1 J H1 tc vc h1 hf hl hJ s1 D hD => ?_⟩
  rw [ownOf_ix]
  have hin : InB ((B.add tc vc).blk rs vs) tc vc := (InB.add hl).blk s1.hl
  have s3 : ST X.K g ((B.add tc vc).blk rs vs) (offs e1 tg) [.v (.lst true [])] (wipe σ tg) [.ref D] (upd H1 D (.lst [])) := (s1.blkIn tg).lst (ds := []) (us := []) rfl hD
  refine ⟨fun i m H => m = ds.length - i ∧ i ≤ ds.length ∧ ∃ en acc, (∀ j ∈ tg, ∀ d, en[j]? ≠ some (some d)) ∧ ST X.K g ((B.add tc vc).blk rs vs) en [.v (.lst true acc)] (wipe σ tg) [.ref D] H ∧ lcW tg tg (fun e2 K => evTs G cs e2 K Xp) (fun e2 K => ev G elt e2 K (fun _ _ _ => False)) (ds.drop i) en acc Q0,
    ⟨ds.length, by simp, Nat.zero_le _, offs e1 tg, [], fun j hj => offs_off hj, s3, h1⟩, ?_⟩
  rintro i m H2 ⟨rfl, hi, en2, acc, hn, s4, hw⟩
  obtain ⟨j1, j2, j3⟩ := s4.turn hin hf hJ i
  by_cases hlt : i < ds.length
  · rw [List.drop_eq_getElem_cons hlt, lcW] at hw
    refine .inr ⟨j1 hlt, fun H => ∃ en acc, (∀ j ∈ tg, ∀ d, en[j]? ≠ some (some d)) ∧ ST X.K g ((B.add tc vc).blk rs vs) en [.v (.lst true acc)] (wipe σ tg) [.ref D] H ∧ lcW tg tg (fun e2 K => evTs G cs e2 K Xp) (fun e2 K => ev G elt e2 K (fun _ _ _ => False)) (ds.drop (i + 1)) en acc Q0,
      fun H' ⟨en, acc, p⟩ => ⟨ds.length - (i + 1), by omega, rfl, hlt, en, acc, p⟩, fun x H' hy => ?_⟩
    obtain ⟨e0, s5⟩ := j3 x H' ds[i] (List.getElem?_eq_getElem hlt) hy
    subst e0
    refine ⟨_, en2, [.lst true acc], [.ref D], ds[i], _, s5, fun j hj => ⟨?_, fun p hp => absurd hp (by simp [Bs.blk])⟩, hw, fun e3 σ3 h3 hl3 hk3 s6 => ⟨?_, ?_⟩⟩
    · rw [wipe_length, hlen, c.hN]
      exact own_lt ok0 j hj
    · exact wipe_eq (by rw [hl3, wipe_length]) fun j hj => by rw [hk3 j hj, wipe_at hj]
    · have hw3 : wipe σ3 tg = wipe σ tg := wipe_eq (by rw [hl3, wipe_length]) fun j hj => by rw [hk3 j hj, wipe_at hj]
      refine ⟨_, e3, _, _, Xp, _, s6, h3, fun b e4 H4 h4 s7 => ?_⟩
      cases b with
      | true =>
        refine ⟨_, e4, _, _, _, _, s7, XL.f, h4, fun d e5 y H5 h5 s8 => ?_⟩
        obtain ⟨h6, h7⟩ := h5
        obtain ⟨ws, a1, a2, s9⟩ := s8.app1
        have s10 := ST.wipe2 (tg := tg) (ts := [.lst true (acc ++ [d])]) rfl s9
        rw [hw3] at s10
        exact ⟨ws, a1, by rw [sizeLine_eq]; omega, offs e5 tg, acc ++ [d], fun j hj => offs_off hj, s10, h7⟩
      | false =>
        have s10 := ST.wipe2 (tg := tg) (ts := [.lst true acc]) rfl s7
        rw [hw3] at s10
        exact ⟨offs e4 tg, acc, fun j hj => offs_off hj, s10, h4⟩
  · have e0 : i = ds.length := by omega
    subst e0
    rw [List.drop_length, lcW] at hw
    have s5 := ST.blkOut (ts := [.lst true acc]) s1.sl s1.hl s1.pins hn s4
    exact .inl ⟨j2 (Nat.le_refl _), hq _ _ _ _ hw (s5.pop hl)⟩
theorem s_lc (c : Ct G g k sc N W X) {el t it : Expr} {ifs : List Expr} {scope : Scope} {pos : Pos} {tg : List Nat} {src : Src} {cs : Es} {elt : E} (hc : X.calm = true) (hb : blkC N sc scope (ownOf N tg) = true) (hst : nset it = true)
    (hi : PI X t it (tI X.K g G W src))
    (hg : ∀ (s : Shared) (H : Hp) (C : Addr) (cl : List (Str × Addr)) (fp : List Addr), PG (X.blk s H scope (compEnvC scope cl C X.env) fp) t (tG X.K g tg))
    (ht : ∀ (s : Shared) (H : Hp) (C : Addr) (cl : List (Str × Addr)) (fp : List Addr), PTs (X.blk s H scope (compEnvC scope cl C X.env) fp) ifs (tTs X.K g G cs))
    (he : ∀ (s : Shared) (H : Hp) (C : Addr) (cl : List (Str × Addr)) (fp : List Addr), PE (X.blk s H scope (compEnvC scope cl C X.env) fp) el (tE X.K g G WF elt)) :
    PE X (.ListComp el [⟨t, it, ifs, 0⟩] scope pos) (tE X.K g G W (.lc tg src cs elt)) := by
  have ok : BlkOk X.N X.env.scope scope (ownOf N tg) := by rw [c.hN, c.sc]; exact blkOk_by hb
  exact (pe_lc hc (by rw [c.hN]; exact c.nd) hi ok hg ht he (fun x => folded_of hst x)).imL fun σ H Q hlen h => lc_im c hb σ H Q hlen h
end
end Pf

/-! Comprehensions with two clauses. -/
namespace Pf
open PySem PySem.Spec PyProof.Rows L2
section
variable {G : Gb} {g : Str → Addr} {k : Nat} {sc : Scope} {N : List Str} {W : WX} {X : Cx}
theorem lc2_im (c : Ct G g k sc N W X) {scope : Scope} {tg tg1 : List Nat} {src src1 : Src} {cs cs1 : Es} {elt : E} (hb : blkC N sc scope (ownOf N (tg ++ tg1)) = true) (σ : L2.St) (H : Hp) (Q : VK) (hlen : σ.length = X.N.length) (h : tE X.K g G W (.lc2 tg src cs tg1 src1 cs1 elt) σ H Q) :
    tLc2 (tI X.K g G W src) (tG X.K g tg) (tTs X.K g G cs) (tI X.K g G WF src1) (tG X.K g tg1) (tTs X.K g G cs1) (tE X.K g G WF elt) ((ownOf N (tg ++ tg1)).map (·.2)) tg1 σ H Q := by
  have ok0 : BlkOk N sc scope (ownOf N (tg ++ tg1)) := blkOk_by hb
  obtain ⟨B, en, rs, vs, Xp, Q0, hs, hx, hev, hq⟩ := h
  unfold ev at hev
  refine ⟨B, en, rs, vs, Xp, _, hs, hx, hev, fun ds e1 J H1 tc vc h1 hf hl hJ s1 D hD => ?_⟩
  rw [ownOf_ix]
  have lt0 : ∀ i ∈ tg ++ tg1, i < N.length := own_lt ok0
  generalize ho : tg ++ tg1 = own at h1 lt0 ⊢
  have in0 : ∀ i, i ∈ tg → i ∈ own := fun i hi => by rw [← ho]; exact List.mem_append_left _ hi
  have in1 : ∀ i, i ∈ tg1 → i ∈ own := fun i hi => by rw [← ho]; exact List.mem_append_right _ hi
  have hin : InB ((B.add tc vc).blk rs vs) tc vc := (InB.add hl).blk s1.hl
  have s3 : ST X.K g ((B.add tc vc).blk rs vs) (offs e1 own) [.v (.lst true [])] (wipe σ own) [.ref D] (upd H1 D (.lst [])) := (s1.blkIn own).lst (ds := []) (us := []) rfl hD
  generalize hB1 : (B.add tc vc).blk rs vs = B1 at hin s3
  have pin1 : B1.pin = [] := by rw [← hB1]; rfl
  refine ⟨fun i m H => m = ds.length - i ∧ i ≤ ds.length ∧ ∃ en acc, (∀ j ∈ own, ∀ d, en[j]? ≠ some (some d)) ∧ ST X.K g B1 en [.v (.lst true acc)] (wipe σ own) [.ref D] H ∧ lc2W tg own (fun e2 K => evTs G cs e2 K Xp) (fun e2 K => evSrc G src1 e2 K (fun _ _ _ => False)) tg1 (fun e2 K => evTs G cs1 e2 K Xp) (fun e2 K => ev G elt e2 K (fun _ _ _ => False)) (ds.drop i) en acc Q0,
    ⟨ds.length, by simp, Nat.zero_le _, offs e1 own, [], fun j hj => offs_off hj, s3, h1⟩, ?_⟩
  rintro i m H2 ⟨rfl, hi, en2, acc, hn, s4, hw⟩
  obtain ⟨j1, j2, j3⟩ := s4.turn hin hf hJ i
  by_cases hlt : i < ds.length
  · rw [List.drop_eq_getElem_cons hlt, lc2W] at hw
    refine .inr ⟨j1 hlt, fun H => ∃ en acc, (∀ j ∈ own, ∀ d, en[j]? ≠ some (some d)) ∧ ST X.K g B1 en [.v (.lst true acc)] (wipe σ own) [.ref D] H ∧ lc2W tg own (fun e2 K => evTs G cs e2 K Xp) (fun e2 K => evSrc G src1 e2 K (fun _ _ _ => False)) tg1 (fun e2 K => evTs G cs1 e2 K Xp) (fun e2 K => ev G elt e2 K (fun _ _ _ => False)) (ds.drop (i + 1)) en acc Q0,
      fun H' ⟨en, acc, p⟩ => ⟨ds.length - (i + 1), by omega, rfl, hlt, en, acc, p⟩, fun x H' hy => ?_⟩
    obtain ⟨e0, s5⟩ := j3 x H' ds[i] (List.getElem?_eq_getElem hlt) hy
    subst e0
    refine ⟨_, en2, [.lst true acc], [.ref D], ds[i], _, s5, fun j hj => ⟨?_, fun p hp => absurd hp (by rw [pin1]; simp)⟩, hw, fun e3 σ3 h3 hl3 hk3 s6 => ?_⟩
    · rw [wipe_length, hlen, c.hN]
      exact lt0 j (in0 j hj)
    · have out3 : ∀ j, j ∉ own → σ3[j]? = σ[j]? := fun j hj => by rw [hk3 j fun m => hj (in0 j m), wipe_at hj]
      have len3 : σ3.length = σ.length := by rw [hl3, wipe_length]
      have hw3 : wipe σ3 own = wipe σ own := wipe_eq len3 out3
      have hw31 : wipe (wipe σ3 tg1) own = wipe σ own := wipe_eq (by rw [wipe_length, len3]) fun j hj => by rw [wipe_at fun m => hj (in1 j m), out3 j hj]
      refine ⟨hw3, _, e3, _, _, Xp, _, s6, h3, fun b e4 H4 h4 s7 => ?_⟩
      cases b with
      | false =>
        have s10 := ST.wipe2 (tg := own) (ts := [.lst true acc]) pin1 s7
        rw [hw3] at s10
        exact ⟨offs e4 own, acc, fun j hj => offs_off hj, s10, h4⟩
      | true =>
        refine ⟨B1, e4, _, _, _, _, s7, XL.f, h4, fun ds1 e5 J1 H5 tc1 vc1 h5 hf1 hl1 hJ1 s8 => ?_⟩
        have pin2 : (B1.add tc1 vc1).pin = [] := pin1
        have hin1 : InB (B1.add tc1 vc1) tc1 vc1 := InB.add hl1
        have s9 := ST.wipe2 (tg := tg1) (ts := [.lst true acc]) pin2 s8
        refine ⟨fun j k H => k = ds1.length - j ∧ j ≤ ds1.length ∧ ∃ en acc, (∀ i ∈ tg1, ∀ d, en[i]? ≠ some (some d)) ∧ ST X.K g (B1.add tc1 vc1) en [.v (.lst true acc)] (wipe σ3 tg1) [.ref D] H ∧ lcI tg1 (fun e2 K => evTs G cs1 e2 K Xp) (fun e2 K => ev G elt e2 K (fun _ _ _ => False)) (fun e4 acc' => lc2W tg own (fun e2 K => evTs G cs e2 K Xp) (fun e2 K => evSrc G src1 e2 K (fun _ _ _ => False)) tg1 (fun e2 K => evTs G cs1 e2 K Xp) (fun e2 K => ev G elt e2 K (fun _ _ _ => False)) (ds.drop (i + 1)) (offs e4 own) acc' Q0) (ds1.drop j) en acc,
          ⟨ds1.length, by simp, Nat.zero_le _, offs e5 tg1, acc, fun j hj => offs_off hj, s9, h5⟩, ?_⟩
        rintro j m1 H6 ⟨rfl, hj, en6, acc6, hn6, s10, hw6⟩
        obtain ⟨q1, q2, q3⟩ := s10.turn hin1 hf1 hJ1 j
        by_cases hlt1 : j < ds1.length
        · rw [List.drop_eq_getElem_cons hlt1, lcI] at hw6
          refine .inr ⟨q1 hlt1, fun H => ∃ en acc, (∀ i ∈ tg1, ∀ d, en[i]? ≠ some (some d)) ∧ ST X.K g (B1.add tc1 vc1) en [.v (.lst true acc)] (wipe σ3 tg1) [.ref D] H ∧ lcI tg1 (fun e2 K => evTs G cs1 e2 K Xp) (fun e2 K => ev G elt e2 K (fun _ _ _ => False)) (fun e4 acc' => lc2W tg own (fun e2 K => evTs G cs e2 K Xp) (fun e2 K => evSrc G src1 e2 K (fun _ _ _ => False)) tg1 (fun e2 K => evTs G cs1 e2 K Xp) (fun e2 K => ev G elt e2 K (fun _ _ _ => False)) (ds.drop (i + 1)) (offs e4 own) acc' Q0) (ds1.drop (j + 1)) en acc,
            fun H' ⟨en, acc, p⟩ => ⟨ds1.length - (j + 1), by omega, rfl, hlt1, en, acc, p⟩, fun x1 H7 hy1 => ?_⟩
          obtain ⟨e0, s11⟩ := q3 x1 H7 ds1[j] (List.getElem?_eq_getElem hlt1) hy1
          subst e0
          refine ⟨_, en6, [.lst true acc6], [.ref D], ds1[j], _, s11, fun i hi => ⟨?_, fun p hp => absurd hp (by rw [pin2]; simp)⟩, hw6, fun e7 σ7 h7 hl7 hk7 s12 => ?_⟩
          · rw [wipe_length, len3, hlen, c.hN]
            exact lt0 i (in1 i hi)
          · have hw7 : wipe σ7 tg1 = wipe σ3 tg1 := wipe_eq (by rw [hl7, wipe_length]) fun i hi => by rw [hk7 i hi, wipe_at hi]
            refine ⟨hw7, _, e7, _, _, Xp, _, s12, h7, fun b e8 H8 h8 s13 => ?_⟩
            cases b with
            | true =>
              refine ⟨_, e8, _, _, _, _, s13, XL.f, h8, fun d e9 y H9 h9 s14 => ?_⟩
              obtain ⟨h10, h11⟩ := h9
              obtain ⟨ws, a1, a2, s15⟩ := s14.app1
              have s16 := ST.wipe2 (tg := tg1) (ts := [.lst true (acc6 ++ [d])]) pin2 s15
              rw [hw7] at s16
              exact ⟨ws, a1, by rw [sizeLine_eq]; omega, offs e9 tg1, acc6 ++ [d], fun i hi => offs_off hi, s16, h11⟩
            | false =>
              have s16 := ST.wipe2 (tg := tg1) (ts := [.lst true acc6]) pin2 s13
              rw [hw7] at s16
              exact ⟨offs e8 tg1, acc6, fun i hi => offs_off hi, s16, h8⟩
        · have e0 : j = ds1.length := by omega
          subst e0
          rw [List.drop_length, lcI] at hw6
          have s11 := ST.wipe2 (tg := own) (ts := [.lst true acc6]) pin1 (s10.pop hl1)
          rw [hw31] at s11
          exact .inl ⟨q2 (Nat.le_refl _), offs en6 own, acc6, fun i hi => offs_off hi, s11, hw6⟩
  · have e0 : i = ds.length := by omega
    subst e0
    rw [List.drop_length, lc2W] at hw
    subst hB1
    have s5 := ST.blkOut (ts := [.lst true acc]) s1.sl s1.hl s1.pins hn s4
    exact .inl ⟨j2 (Nat.le_refl _), hq _ _ _ _ hw (s5.pop hl)⟩
theorem s_lc2 (c : Ct G g k sc N W X) {el t it t1 it1 : Expr} {ifs ifs1 : List Expr} {scope : Scope} {pos : Pos} {tg tg1 : List Nat} {src src1 : Src} {cs cs1 : Es} {elt : E} (hc : X.calm = true) (hb : blkC N sc scope (ownOf N (tg ++ tg1)) = true) (hst : nset it = true) (hst1 : nset it1 = true)
    (hi : PI X t it (tI X.K g G W src))
    (hg : ∀ (s : Shared) (H : Hp) (C : Addr) (cl : List (Str × Addr)) (fp : List Addr), PG (X.blk s H scope (compEnvC scope cl C X.env) fp) t (tG X.K g tg))
    (ht : ∀ (s : Shared) (H : Hp) (C : Addr) (cl : List (Str × Addr)) (fp : List Addr), PTs (X.blk s H scope (compEnvC scope cl C X.env) fp) ifs (tTs X.K g G cs))
    (hi1 : ∀ (s : Shared) (H : Hp) (C : Addr) (cl : List (Str × Addr)) (fp : List Addr), PI (X.blk s H scope (compEnvC scope cl C X.env) fp) t1 it1 (tI X.K g G WF src1))
    (hg1 : ∀ (s : Shared) (H : Hp) (C : Addr) (cl : List (Str × Addr)) (fp : List Addr), PG (X.blk s H scope (compEnvC scope cl C X.env) fp) t1 (tG X.K g tg1))
    (ht1 : ∀ (s : Shared) (H : Hp) (C : Addr) (cl : List (Str × Addr)) (fp : List Addr), PTs (X.blk s H scope (compEnvC scope cl C X.env) fp) ifs1 (tTs X.K g G cs1))
    (he : ∀ (s : Shared) (H : Hp) (C : Addr) (cl : List (Str × Addr)) (fp : List Addr), PE (X.blk s H scope (compEnvC scope cl C X.env) fp) el (tE X.K g G WF elt)) :
    PE X (.ListComp el [⟨t, it, ifs, 0⟩, ⟨t1, it1, ifs1, 0⟩] scope pos) (tE X.K g G W (.lc2 tg src cs tg1 src1 cs1 elt)) := by
  have ok : BlkOk X.N X.env.scope scope (ownOf N (tg ++ tg1)) := by rw [c.hN, c.sc]; exact blkOk_by hb
  exact (pe_lc2 (vs1 := tg1) hc (by rw [c.hN]; exact c.nd) hi ok (fun i hi => by rw [ownOf_ix]; exact List.mem_append_right _ hi) hg ht hi1 hg1 ht1 he (fun x => folded_of hst x) (fun env x => folded_of hst1 x)).imL fun σ H Q hlen h => lc2_im c hb σ H Q hlen h
end
end Pf

/-! Built-ins, isinstance, list(range()), methods that change a list. -/
namespace Pf
open PySem PySem.Spec PyProof.Rows L2
section
variable {G : Gb} {g : Str → Addr} {k : Nat} {sc : Scope} {N : List Str} {W : WX} {X : Cx}
/-! ### built-ins -/
theorem bf_boot (f : Bf) : bootBuiltins (Str.ofString (bfN f)) = some (bfV f) := by cases f <;> decide +kernel
theorem bf_ne (f : Bf) : Str.ofString (bfN f) ≠ "__name__" ∧ (Str.ofString (bfN f) == ("__debug__" : Str)) = false := by cases f <;> decide
theorem bf_in (f : Bf) : bfN f ∈ bnames := by cases f <;> decide
theorem s_blt (c : Ct G g k sc N W X) {f : Bf} {x : Str} {a : Expr} {args : List Expr} {p pos : Pos} {ms : Es} (hc : X.calm = true ∨ f = .len) (hx : x = Str.ofString (bfN f)) (hg : gl sc x = true) (hn : (a :: args).all nst = true) (ha : PA X (a :: args) (tA X.K g G W ms)) :
    PE X (.Call (.Name x p) (a :: args) [] pos) (tE X.K g G W (.blt f ms)) := by
  subst hx
  rw [List.all_cons, Bool.and_eq_true] at hn
  have hm := c.ok.fre _ (bf_in f)
  obtain ⟨n1, n2⟩ := bf_ne f
  have cr : CallR X (bfV f) (rBlt X.K f) := by
    rcases hc with hc | rfl
    · exact cr_blt hc c.hu f
    · exact call_len
  have key : PE X (.Call (.Name (Str.ofString (bfN f)) p) (a :: args) [] pos) (tCB (rBlt X.K f) (tA X.K g G W ms)) := by
    cases hv : bfV f with
    | builtin id => exact pe_callB (by rw [← hv]; exact cr) (c.gl hg) hm (by rw [bf_boot, hv]) ha n1 n2 (star_of hn.1) (stars_of hn.2)
    | type T => exact pe_callTy (by rw [← hv]; exact cr) (c.gl hg) hm (by rw [bf_boot, hv]) ha n1 n2 (star_of hn.1) (stars_of hn.2)
    | _ => cases f <;> cases hv
  refine key.im fun σ H Q ⟨B, en, rs, vs, Xp, Q0, hs, hx, he, hq⟩ => ?_
  unfold ev at he
  refine ⟨B, en, rs, vs, Xp, _, hs, hx, he, fun xs e1 us H1 h1 hl s1 => ?_⟩
  split at h1
  · rename_i ds hds
    exact blt_sat s1 hl hds h1 fun d v H' h2 s2 => hq _ _ _ _ h2 s2
  · exact h1.elim
/-! ### isinstance -/
def tyN : D → String
  | .non => "NoneType"
  | .bl _ => "bool"
  | .int _ => "int"
  | .str _ => "str"
  | .tup _ => "tuple"
  | _ => "list"
def isN : List String := ["int", "bool", "str", "list", "tuple"]
def isiS (s t : String) : Bool := if s = "NoneType" then false else if s = "bool" then t == "bool" || t == "int" else t == s
theorem isi_tab : ∀ s ∈ ["NoneType", "bool", "int", "str", "tuple", "list"], ∀ t ∈ isN, kitB s t = some (isiS s t) := by decide +kernel
theorem isiB_k (d : D) (h : isiT d = true) (t : String) (ht : t ∈ isN) : kitB (tyN d) t = some (isiB d t) := by
  have e : isiB d t = isiS (tyN d) t := by cases d <;> first | (cases h; done) | simp [isiB, isiS, tyN]
  rw [e]
  exact isi_tab _ (by cases d <;> simp [tyN]) t ht
theorem ty_boot : ∀ t ∈ isN, bootBuiltins (Str.ofString t) = some (.type t) ∧ Str.ofString t ≠ "__name__" ∧ (Str.ofString t == ("__debug__" : Str)) = false ∧ t ∈ bnames := by decide +kernel
theorem Rep.tyx {K : PySem.W.Frag} {Z : AS} {H : Hp} {d : D} {v : V} {O : AS} (r : Rep K g Z H d v O) (h : isiT d = true) : TyX K H v (.type (tyN d)) := by
  cases r with
  | non => exact .base .non
  | bl b => exact .base (.bl b)
  | int i => exact .base (.int i)
  | str x => exact .base (.str x)
  | tup e r =>
    rcases e with (e | ⟨o, e⟩) | ⟨o, n, its, e, q, _⟩
    · exact .base (.tup e)
    · exact .fTuple e
    · exact .kTuple e q
  | lstO e oa s r => exact .base (.lst e)
  | lstF z e r =>
    rcases e with e | ⟨o, e⟩
    · exact .base (.lst e)
    · exact .base (.frz e)
  | _ => cases h
theorem pe_tyn (c : Ct G g k sc N W X) {x : Str} {t : String} {p : Pos} (hx : x = Str.ofString t) (hg : gl sc x = true) (ht : isN.contains t = true) : PE X (.Name x p) (tC (.ty t)) := by
  subst hx
  obtain ⟨h1, h2, h3, h4⟩ := ty_boot t (by simpa using ht)
  exact pe_bltn (c.gl hg) (c.ok.fre t h4) h1 rfl h2 h3
theorem pa_tys (c : Ct G g k sc N W X) : ∀ {ts : List String} {es : List Expr}, chkTl sc ts es = true → PA X es (fun σ H Q => Q (ts.map V.ty) H) ∧ (∀ t ∈ ts, t ∈ isN) ∧ ts.length = es.length
  | [], [], _ => ⟨pa_nil, fun _ h => (by cases h), rfl⟩
  | [], _ :: _, h => by cases h
  | _ :: _, [], h => by cases h
  | t :: ts, e :: es, h => by
    cases e with
    | Name x p =>
      obtain ⟨h1, h2⟩ := and2 h
      obtain ⟨h3, h4⟩ := and2 h1
      obtain ⟨h5, h6⟩ := and2 h4
      obtain ⟨k1, k2, k3⟩ := pa_tys c h2
      refine ⟨pa_cons (pe_tyn c (of_decide_eq_true h3) h5 h6) k1 rfl, fun t' ht => ?_, by rw [List.length_cons, List.length_cons, k3]⟩
      rcases List.mem_cons.mp ht with rfl | ht
      · simpa [isN] using h6
      · exact k2 t' ht
    | _ => cases h
theorem kit_all {K : PySem.W.Frag} {d : D} (h : isiT d = true) : ∀ {ts : List String}, (∀ t ∈ ts, t ∈ isN) → PySem.W.kitAny K (.type (tyN d)) (ts.map Value.type) = some (ts.any (isiB d))
  | [], _ => rfl
  | t :: ts, hm => by
    rw [List.map_cons, List.any_cons]
    refine kitAny_cons (kit_ty (isiB_k d h t (hm t List.mem_cons_self))) (fun e => ?_) fun e => by rw [e]; rfl
    rw [e, Bool.false_or]
    exact kit_all h fun t' ht => hm t' (List.mem_cons_of_mem _ ht)
theorem pair_tys : ∀ ts : List String, Paired ClsV (ts.map V.ty) (ts.map Value.type)
  | [] => .nil
  | t :: ts => .cons (.ty t) (pair_tys ts)
theorem ST.laid {K : PySem.W.Frag} {B : Bs} {en : En} {rs : List R} {σ : Sg} {vs us : List V} {H : Hp} {p : Addr} (h : ST K g B en rs σ vs H) (hp : H p = none) : ST K g B en rs σ vs (upd H p (.tup us)) := by
  obtain ⟨⟨Z, O, O1, O2, e, t, s1, s2, q, pi⟩, hl⟩ := h
  exact ⟨⟨Z, O, O1, O2, e.keep (fun _ z => z) (keep_new hp), t.keep (fun _ z => z) (keep_new hp), s1, s2, q.new hp, pi⟩, hl⟩
theorem s_isi1 (c : Ct G g k sc N W X) {x : Str} {e t : Expr} {p pos : Pos} {m : E} {ts : List String} (hx : x = Str.ofString "isinstance") (hg : gl sc x = true) (hn : nst e = true) (ht : chkTs sc ts t = true) (h : PE X e (tR X.K g G W m)) : PE X (.Call (.Name x p) [e, t] [] pos) (tE X.K g G W (.isi m ts)) := by
  subst hx
  match ts, t, ht with
  | [tn], .Name y p2, ht =>
    obtain ⟨h3, h4⟩ := and2 ht
    obtain ⟨h5, h6⟩ := and2 h4
    have hin : tn ∈ isN := by simpa [isN] using h6
    refine (pe_callB call_isi (c.gl hg) (c.ok.fre "isinstance" (by decide)) (by decide +kernel) (pa_cons h (pa_cons (pe_tyn c (of_decide_eq_true h3) h5 h6) pa_nil rfl) (star_of hn)) (by decide) (by decide) (star_of hn) rfl).im fun σ H Q ⟨B, en, rs, vs, Xp, Q0, hs, hx, he, hq⟩ => ?_
    unfold ev at he
    refine ⟨B, en, rs, vs, Xp, _, hs, hx, he, fun r e1 v H1 h1 s1 => ?_⟩
    split at h1
    · rename_i d hd
      obtain ⟨Z, O, rp, _⟩ := s1.rep hd
      refine ⟨v, .ty tn, _, _, isiB d tn, rfl, .ty tn, rp.tyx h1.1, kit_ty (isiB_k d h1.1 tn hin), ?_⟩
      have h2 := h1.2
      rw [List.any_cons, List.any_nil, Bool.or_false] at h2
      exact hq _ _ _ _ h2 (s1.drop.flat fun Z => .bl _)
    · exact h1.elim
theorem s_isiT (c : Ct G g k sc N W X) {x : Str} {e : Expr} {es : List Expr} {kk : Nat} {p pos p2 : Pos} {m : E} {ts : List String} (hx : x = Str.ofString "isinstance") (hg : gl sc x = true) (hn : nst e = true) (hz : es.length ≤ 1000) (ht : chkTl sc ts es = true) (h : PE X e (tR X.K g G W m)) : PE X (.Call (.Name x p) [e, .Tuple es kk p2] [] pos) (tE X.K g G W (.isi m ts)) := by
  subst hx
  obtain ⟨k1, k2, k3⟩ := pa_tys c ht
  refine (pe_callB call_isiT (c.gl hg) (c.ok.fre "isinstance" (by decide)) (by decide +kernel) (pa_cons h (pa_cons (pe_tup k1) pa_nil rfl) (star_of hn)) (by decide) (by decide) (star_of hn) rfl).im fun σ H Q ⟨B, en, rs, vs, Xp, Q0, hs, hx, he, hq⟩ => ?_
  unfold ev at he
  refine ⟨B, en, rs, vs, Xp, _, hs, hx, he, fun r e1 v H1 h1 s1 => ⟨sizeL (by rw [List.length_map, k3]; omega), fun q hq' => ?_⟩⟩
  split at h1
  · rename_i d hd
    have s2 := s1.laid (us := ts.map V.ty) hq'
    obtain ⟨Z, O, rp, _⟩ := s2.rep hd
    exact ⟨v, q, ts.map V.ty, _, _, ts.any (isiB d), rfl, upd_same, pair_tys ts, rp.tyx h1.1, kit_all h1.1 k2, hq _ _ _ _ h1.2 (s2.drop.flat fun Z => .bl _)⟩
  · exact h1.elim
/-! ### len(set(..)) -/
theorem keys_card {ks ns : List Int} (hk : ks.Nodup) (hm : ∀ k, k ∈ ks ↔ k ∈ ns) : ks.length ≤ ns.length ∧ (ks.length = ns.length ↔ ns.Nodup) := by
  have le : ∀ {as bs : List Int}, as.Nodup → (∀ x ∈ as, x ∈ bs) → as.length ≤ bs.length := by
    intro as
    induction as with
    | nil => intro bs _ _; exact Nat.zero_le _
    | cons x as ih =>
      intro bs hn hs
      rw [List.nodup_cons] at hn
      have hx := hs x List.mem_cons_self
      have := ih (bs := bs.erase x) hn.2 fun y hy => (List.mem_erase_of_ne (a := y) (b := x) (fun e => hn.1 (e ▸ hy))).mpr (hs y (List.mem_cons_of_mem _ hy))
      rw [List.length_erase_of_mem hx] at this
      have hp := List.length_pos_of_mem hx
      rw [List.length_cons]
      omega
  have h1 := le hk fun x hx => (hm x).mp hx
  refine ⟨h1, fun e => ?_, fun hn => Nat.le_antisymm h1 (le hn fun x hx => (hm x).mpr hx)⟩
  have nd : ∀ {ns ks : List Int}, ks.Nodup → (∀ k, k ∈ ks ↔ k ∈ ns) → ns.length ≤ ks.length → ns.Nodup := by
    intro ns
    induction ns with
    | nil => intro _ _ _ _; exact List.nodup_nil
    | cons a ns ih =>
      intro ks hk hm hl
      have ha : a ∈ ks := (hm a).mpr List.mem_cons_self
      have hno : a ∉ ns := fun hin => by
        have := le hk (bs := ns) fun x hx => by
          rcases List.mem_cons.mp ((hm x).mp hx) with e | h
          · rw [e]; exact hin
          · exact h
        rw [List.length_cons] at hl
        omega
      refine List.nodup_cons.mpr ⟨hno, ih (ks := ks.erase a) (hk.erase a) (fun k => ?_) (by rw [List.length_erase_of_mem ha]; rw [List.length_cons] at hl; omega)⟩
      by_cases e : k = a
      · subst e
        exact ⟨fun h => absurd h (fun h => ((List.Nodup.mem_erase_iff hk).mp h).1 rfl), fun h => absurd h hno⟩
      · rw [List.mem_erase_of_ne e, hm, List.mem_cons]
        exact ⟨fun h => h.resolve_left e, .inr⟩
  exact nd hk hm (Nat.le_of_eq e.symm)
def tLenSetN (K : PySem.W.Frag) (ta : TE) : TE := fun σ H Q => ta σ H fun x H1 => ∃ (l : Addr) (ns : List Int), x = .ref l ∧ (SqL K H1 l (ns.map V.int) ∨ SqT K H1 l (ns.map V.int)) ∧ ns.length ≤ 4000 ∧ ∀ c : Nat, c ≤ ns.length → (c = ns.length ↔ ns.Nodup) → Q (.int c) H1
theorem fm_nodup (val : Nat → Int) : ∀ i, (PyProof.Rows.firstMet val i).Nodup
  | 0 => List.nodup_nil
  | i + 1 => by
    rw [PyProof.Rows.firstMet_succ]
    unfold PyProof.Rows.step_dedup
    have ih := fm_nodup val i
    split
    · exact ih
    · rename_i h
      refine List.nodup_append.mpr ⟨ih, by simp, fun a ha b hb e => h ?_⟩
      rw [List.mem_singleton] at hb
      subst e
      exact List.any_eq_true.mpr ⟨a, ha, by simp [hb]⟩
theorem fm_mem {ns : List Int} (k : Int) : k ∈ PyProof.Rows.firstMet (fun i => ns.getD i 0) ns.length ↔ k ∈ ns := by
  have h := PyProof.Rows.firstMet_any (fun i => ns.getD i 0) ns.length k
  have e : (List.range ns.length).map (fun i => ns.getD i 0) = ns := by
    refine List.ext_getElem (by simp) fun i h1 h2 => ?_
    simp [List.getD_eq_getElem?_getD, List.getElem?_eq_getElem h2]
  rw [e, Bool.eq_iff_iff, List.any_eq_true, List.any_eq_true] at h
  simpa using h
theorem pe_lenSetN {a : Expr} {ta : TE} {p p2 q pos : Pos} (hg : Gl X "len") (hm : X.mg "len" = none) (hg2 : Gl X "set") (hm2 : X.mg "set" = none) (ha : PE X a ta) (hc : X.calm = true)
    (na : starEach [a] X.env = (false, eval a X.env) :: starEach [] X.env) : PE X (.Call (.Name "len" p) [.Call (.Name "set" p2) [a] [] q] [] pos) (tLenSetN X.K ta) := by
  refine ⟨fun pins s σ H Q I h => ?_⟩
  refine Call_ (ld_blt I hg hm boot_len ?_)
  refine PyProof.Rows.callWith_builtin1 (PyProof.Rows.args_cons ?_ rfl) rfl rfl
  refine Call_ (ld_blt I hg2 hm2 boot_set ?_)
  refine PyProof.Rows.callWith_type1 (PyProof.Rows.args_cons (thn (ha.run pins s σ H _ I h) fun v s1 ⟨x, H1, I1, r1, q1⟩ => PyProof.Rows.args_nil ?_) na) na rfl
  obtain ⟨l, ns, rfl, hq, hl, q1⟩ := q1
  cases r1
  rcases hq with hq | hq
  · obtain ⟨its, r, pl, hz⟩ := I1.list hq
    have hlen : its.toArray.size = ns.length := by rw [List.size_toArray, ← r.length, List.length_map]
    refine call_set_list (I1.ok.hd hc) pl.isList (by simpa using RZ.intsAre_vals r) (by rw [hlen]; unfold scanBound; omega) fun h' tk hS hk => ?_
    refine PyProof.Rows.args_nil ?_
    rw [hlen] at hS
    obtain ⟨o, es, ep, t, ho, hex, hd, _, _, _, hf, hn⟩ := hS
    have I2 : Inv X pins σ H1 { s1 with heap := h', toks := tk } := I1.kept fun b o e => hk b o (Heap.lt_size e) e
    obtain ⟨c1, c2⟩ := keys_card (ns := ns) (fm_nodup _ _) fm_mem
    rw [← hn] at c1 c2
    exact call_len_set ho hex hd hf (by omega) ⟨.int es.size, H1, I2.tok _, ⟨_, rfl⟩, q1 es.size c1 c2⟩
  · obtain ⟨its, r, pl, hz⟩ := I1.tuple hq
    refine call_set_tupI ns (I1.ok.hd hc) pl (by simpa using RZ.intsAre_vals r) (by unfold scanBound; omega) fun h' tk c hS hc' hk => ?_
    refine PyProof.Rows.args_nil ?_
    obtain ⟨o, es, ep, t, ho, hex, hd, _, hnd, hmem, _, hf, hn, _, _⟩ := hS
    have I2 : Inv X pins σ H1 { s1 with heap := h', toks := tk } := I1.kept hk
    obtain ⟨c1, c2⟩ := keys_card (ns := ns) hnd fun k => by
      have := hmem k
      rw [decide_eq_true_eq] at this
      exact this.symm
    rw [List.length_map, Array.length_toList] at c1 c2
    exact call_len_set ho hex hd hf (by omega) ⟨.int es.size, H1, I2.tok _, ⟨_, rfl⟩, q1 es.size c1 c2⟩
theorem s_lset (c : Ct G g k sc N W X) {x y : Str} {e : Expr} {m : E} {p p2 q pos : Pos} (hc : X.calm = true) (hx : x = Str.ofString "len") (hy : y = Str.ofString "set") (hg : gl sc x = true) (hg2 : gl sc y = true) (hn : nst e = true) (h : PE X e (tR X.K g G W m)) :
    PE X (.Call (.Name x p) [.Call (.Name y p2) [e] [] q] [] pos) (tE X.K g G W (.lset m)) := by
  subst hx hy
  refine (pe_lenSetN (c.gl hg) (c.ok.fre "len" (by decide)) (c.gl hg2) (c.ok.fre "set" (by decide)) h hc (star_of hn)).im fun σ H Q ⟨B, en, rs, vs, Xp, Q0, hs, hx, he, hq⟩ => ?_
  unfold ev at he
  refine ⟨B, en, rs, vs, Xp, _, hs, hx, he, fun r e1 v H1 h1 s1 => ?_⟩
  split at h1
  · rename_i d hd
    obtain ⟨ns, hi, hl, h2⟩ := h1
    obtain ⟨Z, O, rp, _⟩ := s1.rep hd
    have fin : ∀ c : Nat, c ≤ ns.length → (c = ns.length ↔ ns.Nodup) → Q (.int c) H1 := fun c c1 c2 => hq _ _ _ _ (h2 c c1 c2) (s1.drop.flat fun Z => .int _)
    obtain ⟨a, us, O', rfl, _, hq2, rl⟩ := rp.seq hi
    rw [rl.intsV] at hq2
    exact ⟨a, ns, rfl, hq2.elim (fun z => .inl (.inl z.2)) fun z => .inr z.2, hl, fin⟩
  · exact h1.elim
/-! ### list(range(..)) -/
theorem s_lrg (c : Ct G g k sc N W X) {x y : Str} {args : List Expr} {ms : Es} {p p2 pos pos2 : Pos} (hc : X.calm = true) (hx : x = Str.ofString "list") (hy : y = Str.ofString "range") (hg : gl sc x = true) (hg2 : gl sc y = true) (hn : args.all nst = true)
    (h : (∃ a m, args = [a] ∧ ms = .cons m .nil ∧ PE X a (tE X.K g G W m)) ∨ ∃ a b m m2, args = [a, b] ∧ ms = .cons m (.cons m2 .nil) ∧ PE X a (tE X.K g G W m) ∧ PE X b (tE X.K g G W m2)) :
    PE X (.Call (.Name x p) [.Call (.Name y p2) args [] pos2] [] pos) (tE X.K g G W (.lrg ms)) := by
  subst hx hy
  have hrg : ∀ lo hi : Int, rgV lo hi = (List.range (hi - lo).toNat).map fun (i : Nat) => V.int (lo + i) := fun _ _ => rfl
  have rl : ∀ {B : Bs} {en : En} {rs : List R} {σ : Sg} {vs : List V} {H : Hp} (lo hi : Int) (q : Addr), ST X.K g B en rs σ vs H → H q = none → ST X.K g B en (.v (.lst true (rgL lo hi)) :: rs) σ (.ref q :: vs) (upd H q (.lst (rgV lo hi))) := fun {B en rs σ vs H} lo hi q s hq => by
    refine s.newF hq rfl fun Z _ _ => .lstO upd_same rfl (O' := AS.no) (fun _ z => z.elim) ?_
    unfold rgL rgV
    have e1 : (List.range (hi - lo).toNat).map (fun (i : Nat) => D.int (lo + i)) = ((List.range (hi - lo).toNat).map fun (i : Nat) => lo + (i : Int)).map D.int := by rw [List.map_map]; rfl
    have e2 : (List.range (hi - lo).toNat).map (fun (i : Nat) => V.int (lo + i)) = ((List.range (hi - lo).toNat).map fun (i : Nat) => lo + (i : Int)).map V.int := by rw [List.map_map]; rfl
    rw [e1, e2]
    exact RepL.ints
  rcases h with ⟨a, m, rfl, rfl, ha⟩ | ⟨a, b, m, m2, rfl, rfl, ha, hb⟩
  · rw [List.all_cons, Bool.and_eq_true] at hn
    refine (pe_listRg hc (c.gl hg) (c.ok.fre "list" (by decide)) (prg_1 (c.gl hg2) (c.ok.fre "range" (by decide)) ha (star_of hn.1)) rfl).im fun σ H Q ⟨B, en, rs, vs, Xp, Q0, hs, hx, he, hq⟩ => ?_
    unfold ev evs evs at he
    refine ⟨B, en, rs, vs, Xp, _, hs, hx, he, fun d e1 v H1 h1 s1 => ?_⟩
    cases d with
    | int b =>
      obtain ⟨⟨b1, b2⟩, h2⟩ := h1
      obtain ⟨Z, O, rp, _⟩ := s1.rep rfl
      cases rp
      exact ⟨b, rfl, ⟨by omega, by omega, by omega, by omega, by omega⟩, fun q hq' => hq _ _ _ _ h2 (rl 0 b q s1.drop hq')⟩
    | _ => exact h1.elim
  · rw [List.all_cons, List.all_cons, Bool.and_eq_true, Bool.and_eq_true] at hn
    refine (pe_listRg hc (c.gl hg) (c.ok.fre "list" (by decide)) (prg_2 (c.gl hg2) (c.ok.fre "range" (by decide)) ha hb (star_of hn.1) (star_of hn.2.1) (stars_of (by rw [List.all_cons, List.all_nil, hn.2.1]; rfl))) rfl).im fun σ H Q ⟨B, en, rs, vs, Xp, Q0, hs, hx, he, hq⟩ => ?_
    unfold ev evs evs evs at he
    refine ⟨B, en, rs, vs, Xp, _, hs, hx, he, fun d e1 v H1 h1 s1 => ⟨B, e1, _, _, Xp, _, s1, hx, h1, fun d2 e2 v2 H2 h2 s2 => ?_⟩⟩
    cases d with
    | int a' =>
      cases d2 with
      | int b' =>
        obtain ⟨⟨b1, b2, b3, b4, b5⟩, h2⟩ := h2
        obtain ⟨Z, O, Z', O', r1, r2⟩ := s2.rep2 rfl rfl
        cases r1
        cases r2
        exact ⟨a', b', rfl, rfl, ⟨by omega, by omega, by omega, by omega, by omega⟩, fun q hq' => hq _ _ _ _ h2 (rl a' b' q s2.drop.drop hq')⟩
      | _ => exact h2.elim
    | _ => exact h2.elim
end
end Pf

/-! Methods that change a list. -/
namespace Pf
open PySem PySem.Spec PyProof.Rows L2
def mmId : Mm → String
  | .append => "list.append"
  | .pop0 => "list.pop"
  | .pop1 => "list.pop"
  | .reverse => "list.reverse"
  | .extend => "list.extend"
  | .insert => "list.insert"
  | .remove => "list.remove"
def rMut : Mm → V → List V → Hp → VK → Prop
  | .append => rAppend
  | .pop0 => rPop
  | .pop1 => rPopAt
  | .reverse => rReverse
  | .extend => fun x vs H Q => ∃ l b xs zs, x = .ref l ∧ vs = [.ref b] ∧ H l = some (.lst xs) ∧ Rd H b (.lst zs) ∧ xs.length + zs.length ≤ sizeLine ∧ Q .non (upd H l (.lst (xs ++ zs)))
  | .insert => fun x vs H Q => ∃ (l : Addr) (xs : List V) (i : Int) (y : V), x = .ref l ∧ vs = [.int i, y] ∧ H l = some (.lst xs) ∧ xs.length < sizeLine ∧ 0 ≤ i ∧ i < 2 ^ 63 ∧ Q .non (upd H l (.lst (xs.take i.toNat ++ [y] ++ xs.drop i.toNat)))
  | .remove => rRemI
section
variable {X : Cx}
theorem lst_at {pins : List (Addr × Obj)} {σ : L2.St} {H : Hp} {s : Shared} {l : Addr} {xs : List V} (I : Inv X pins σ H s) (h : Rd H l (.lst xs)) : xs.length ≤ sizeLine ∧ ∃ (its : List Value) (n : Nat), Vals xs its ∧ xs.length = its.length ∧ s.heap.get? l = some { cls := .type "list", data := .seq its.toArray n } := by
  rcases h with h | ⟨o, h⟩
  · exact I.lstM h
  · obtain ⟨_, z, its, n, r, e⟩ := (show ObjOk X.prog X.w H s.heap l (.frz o (.lst xs)) from I.hok l _ h)
    exact ⟨z, its, n, r, r.length, e⟩
theorem mt_ext : MtR X "list.extend" (rMut .extend) := by
  intro pins s σ H x vs v us Q I rx rv h
  obtain ⟨l, b, xs, zs, rfl, rfl, hH, hB, hz, q⟩ := h
  cases rx
  obtain ⟨u, rfl, ru⟩ := rv.one
  cases ru
  obtain ⟨z, its, n, r, hl, e⟩ := I.lstM hH
  obtain ⟨z2, its2, n2, r2, hl2, e2⟩ := lst_at I hB
  have hsz : its.toArray.size + its2.toArray.size ≤ sizeLine := by rw [List.size_toArray, List.size_toArray, ← hl, ← hl2]; exact hz
  have hlong : ¬ (!its.toArray.isEmpty && Builtin.List.listTooLong (its.toArray.size + its2.toArray.size)) = true := by
    rw [notLongL hsz, Bool.and_false]
    exact Bool.false_ne_true
  refine call_meets F.slot_list_extend ⟨_, e, rfl⟩ F.entry_list_extend (F.args_list_extend_2 _ _) (AutoSeq1.list_extend_list_list_0 l its.toArray n b its2.toArray n2 hlong (by rw [List.size_toArray]; omega) (by omega)) ⟨e, e2, .non, _, I.lset (its' := its ++ its2) hH e (by simp) (r.append r2) (by rw [List.length_append]; exact hz), rfl, q⟩
theorem mm_mt : ∀ m : Mm, MtR X (mmId m) (rMut m)
  | .append => mt_append
  | .pop0 => mt_pop
  | .pop1 => mt_popAt
  | .reverse => mt_reverse
  | .extend => mt_ext
  | .insert => mt_insert
  | .remove => mt_remove
theorem mm_slot : ∀ m : Mm, Slot "list" (Str.ofString (mmN m)) (mmId m)
  | .append => PySem.F.slot_list_append
  | .pop0 => PySem.F.slot_list_pop
  | .pop1 => PySem.F.slot_list_pop
  | .reverse => PySem.F.slot_list_reverse
  | .extend => PySem.F.slot_list_extend
  | .insert => PySem.F.slot_list_insert
  | .remove => PySem.F.slot_list_remove
theorem mm_ty : ∀ m : Mm, typeOf (.builtin (mmId m)) = pure (.type "method_descriptor")
  | .append => PySem.F.type_list_append
  | .pop0 => PySem.F.type_list_pop
  | .pop1 => PySem.F.type_list_pop
  | .reverse => PySem.F.type_list_reverse
  | .extend => PySem.F.type_list_extend
  | .insert => PySem.F.type_list_insert
  | .remove => PySem.F.type_list_remove
end
section
variable {K : PySem.W.Frag} {g : Str → Addr} {B : Bs} {en : En} {rs : List R} {σ : Sg} {vs : List V} {H : Hp} {Z O : AS} {Q : VK}
theorem RepL.er : ∀ {xs : List D} {us : List V} {O : AS} (j : Nat), RepL K g Z H xs us O → RepL K g Z H (xs.eraseIdx j) (us.eraseIdx j) O
  | _, _, _, _, .nil => .nil
  | _, _, _, 0, .cons s1 s2 r t => t.up fun b z => (s2 b z).1
  | _, _, _, j + 1, .cons s1 s2 r t => .cons s1 s2 r (RepL.er j t)
theorem RepL.rev {xs : List D} {us : List V} (r : RepL K g Z H xs us AS.no) {O : AS} : RepL K g Z H xs.reverse us.reverse O := by
  have hl := r.length
  refine RepL.ofNo (by rw [List.length_reverse, List.length_reverse, hl]) fun i d v h1 h2 => ?_
  have hi : i < xs.length := by simpa using (List.getElem?_eq_some_iff.mp h1).1
  rw [List.getElem?_reverse hi] at h1
  rw [List.getElem?_reverse (by omega), ← hl] at h2
  obtain ⟨u, h3, h4⟩ := r.get h1
  rw [h2] at h3
  cases h3
  exact h4
theorem RepL.dl {xs : List D} {us : List V} (r : RepL K g Z H xs us AS.no) : RepL K g Z H xs.dropLast us.dropLast AS.no := by
  have hl := r.length
  rw [List.dropLast_eq_take, List.dropLast_eq_take, hl]
  have gen : ∀ {xs : List D} {us : List V} (n : Nat), RepL K g Z H xs us AS.no → RepL K g Z H (xs.take n) (us.take n) AS.no := by
    intro xs
    induction xs with
    | nil => intro us n r; cases r; rw [List.take_nil, List.take_nil]; exact .nil
    | cons x xs ih =>
      intro us n r
      cases r with
      | cons s1 s2 r t =>
        cases n with
        | zero => exact .nil
        | succ n => exact .cons (O1 := AS.no) (O2 := AS.no) (fun _ z => z) (fun _ z => z.elim) (r.up s1) (ih n (t.up fun b z => (s2 b z).1))
  exact gen _ r
theorem RepL.dr {xs : List D} {us : List V} (n : Nat) (r : RepL K g Z H xs us AS.no) : RepL K g Z H (xs.drop n) (us.drop n) AS.no := by
  induction n generalizing xs us with
  | zero => exact r
  | succ n ih =>
    cases r with
    | nil => exact .nil
    | cons s1 s2 r t => exact ih (t.up fun b z => (s2 b z).1)
theorem RepL.tk {xs : List D} {us : List V} (n : Nat) (r : RepL K g Z H xs us AS.no) : RepL K g Z H (xs.take n) (us.take n) AS.no := by
  induction n generalizing xs us with
  | zero => exact .nil
  | succ n ih =>
    cases r with
    | nil => exact .nil
    | cons s1 s2 r t => exact .cons (O1 := AS.no) (O2 := AS.no) (fun _ z => z) (fun _ z => z.elim) (r.up s1) (ih (t.up fun b z => (s2 b z).1))
theorem ST.mutL {i : Nat} {xs ds ys : List D} {us : List V} (h : ST K g B en (ds.map R.v ++ rs) σ (us ++ vs) H) (hl : ds.length = us.length) (hi : (en[i]?).join = some (.lst true xs)) :
    ∃ a ws, σ[i]? = some (some (.ref a)) ∧ H a = some (.lst ws) ∧ xs.length = ws.length ∧ (∃ Z O, RepL K g Z H xs ws O) ∧
      ∀ (zs : List V), (∀ Z O1 O2, RepL K g Z H xs ws O1 → RepL K g Z H ds us O2 → ∀ O, (∀ b, O1 b → O b) → (∀ b, O2 b → O b ∧ ¬ O1 b) → RepL K g Z H ys zs O) → ST K g B (en.set i (some (.lst true ys))) rs σ vs (upd H a (.lst zs)) := by
  obtain ⟨h1, h2⟩ := h
  rw [List.append_assoc, List.append_assoc] at h1
  obtain ⟨a, ws, e1, e2, e3, e4, e5⟩ := SR.mutL (ys := ys) h1 hl hi
  refine ⟨a, ws, e1, e2, e3, e4, fun zs hz => ⟨e5 zs hz, ?_⟩⟩
  simp only [List.length_append, List.length_map] at h2
  omega
/-- an item of a name's own list goes in flight -/
theorem ST.take1 {i j : Nat} {d : D} {xs : List D} (h : ST K g B en rs σ vs H) (hi : (en[i]?).join = some (.lst true xs)) (hf : fzs xs = true) (hj : xs[j]? = some d) :
    ∃ a ws u, σ[i]? = some (some (.ref a)) ∧ H a = some (.lst ws) ∧ xs.length = ws.length ∧ ws[j]? = some u ∧ ST K g B en (.v d :: rs) σ (u :: vs) H := by
  obtain ⟨⟨Z, O, O1, O2, e, t, s1, s2, q, p⟩, hl⟩ := h
  obtain ⟨v, A, C, ev, r, _⟩ := e.split (join_some hi)
  cases r with
  | @lstO _ A' a _ ws ea oa sa ra =>
    obtain ⟨u, hu, ru⟩ := (ra.none hf).get hj
    exact ⟨a, ws, u, ev, ea, ra.length, hu, ⟨Z, O, O1, O2, e, .v (O1 := AS.no) (fun _ z => z.elim) (fun _ z => ⟨z, id⟩) ru t, s1, s2, q, p⟩, by simpa using hl⟩
theorem mut_sat {m : Mm} {i : Nat} {xs ds : List D} {us : List V} {v : V} {k : List D → D → Prop} (h : ST K g B en (ds.map R.v ++ rs) σ (us ++ vs) H) (hl : ds.length = us.length) (hi : (en[i]?).join = some (.lst true xs)) (hv : σ[i]? = some (some v)) (hw : mutW m xs ds k)
    (hq : ∀ ys d v H', k ys d → ST K g B (en.set i (some (.lst true ys))) (.v d :: rs) σ (v :: vs) H' → Q v H') : rMut m v us H Q := by
  unfold mutW at hw
  split at hw
  · rename_i d
    obtain ⟨a, ws, e1, e2, e3, _, e5⟩ := h.mutL (ys := xs ++ [d]) hl hi
    rw [hv] at e1
    cases e1
    match us, hl with
    | [u], _ =>
      refine ⟨a, ws, u, rfl, rfl, e2, by rw [sizeLine_eq]; omega, hq _ _ _ _ hw.2 ((e5 _ fun Z O1 O2 r1 r2 O b1 b2 => r1.app r2 b1 b2).flat fun Z => .non)⟩
  · obtain ⟨hf, d, hd, hk⟩ := hw
    match us, hl with
    | [], _ =>
      obtain ⟨a, ws, u, e1, e2, e3, e4, s⟩ := ST.take1 (rs := rs) (vs := vs) h hi hf hd
      obtain ⟨a', ws', f1, f2, _, _, f5⟩ := ST.mutL (ds := []) (us := []) (ys := xs.dropLast) s rfl hi
      rw [e1] at f1
      cases f1
      rw [hv] at e1
      cases e1
      rw [e2] at f2
      cases f2
      exact ⟨a, ws, u, rfl, rfl, e2, by rw [← e3]; exact e4, hq _ _ _ _ hk (f5 _ fun Z O1 O2 r1 r2 O b1 b2 => (r1.none hf).dl.up fun _ z => z.elim)⟩
  · rename_i z
    obtain ⟨⟨hf, hz⟩, j, d, hj, hd, hk⟩ := hw
    have h' := h
    obtain ⟨Z, O, rz⟩ := h.valsL hl
    cases rz.int1
    obtain ⟨a, ws, u, e1, e2, e3, e4, s⟩ := ST.take1 (h.dropL (xs := [.v (.int z)]) (us := [.int z]) rfl) hi hf hd
    obtain ⟨a', ws', f1, f2, _, _, f5⟩ := ST.mutL (ds := []) (us := []) (ys := xs.eraseIdx j) s rfl hi
    rw [e1] at f1
    cases f1
    rw [hv] at e1
    cases e1
    rw [e2] at f2
    cases f2
    obtain ⟨n1, n2, n3, n4⟩ := ixN_seq hj
    exact ⟨a, ws, z, j, u, rfl, rfl, e2, by omega, by omega, by rw [← e3]; exact n1, e4, hq _ _ _ _ hk (f5 _ fun Z O1 O2 r1 r2 O b1 b2 => ((r1.none hf).er j).up fun _ z => z.elim)⟩
  · match us, hl with
    | [], _ =>
      obtain ⟨a, ws, e1, e2, e3, _, e5⟩ := ST.mutL (ds := []) (us := []) (rs := rs) (vs := vs) (ys := xs.reverse) h rfl hi
      rw [hv] at e1
      cases e1
      exact ⟨a, ws, rfl, rfl, e2, hq _ _ _ _ hw.2 ((e5 _ fun Z O1 O2 r1 r2 O b1 b2 => (r1.none hw.1).rev).flat fun Z => .non)⟩
  · rename_i o ys
    obtain ⟨⟨hf, hf2, hz⟩, hk⟩ := hw
    match us, hl with
    | [u], _ =>
      obtain ⟨b, wb, rfl, l2, sq, _⟩ := ST.seqF (r := .v (.lst o ys)) (rs := rs) (v := u) (vs := vs) h rfl rfl hf2
      have rb : Rd H b (.lst wb) := sq.elim (fun z => z.2) fun z => nomatch z.1
      obtain ⟨a, ws, e1, e2, e3, _, e5⟩ := h.mutL (ys := xs ++ ys) rfl hi
      rw [hv] at e1
      cases e1
      refine ⟨a, b, ws, wb, rfl, rfl, e2, rb, sizeL (by omega), hq _ _ _ _ hk ((e5 _ fun Z O1 O2 r1 r2 O b1 b2 => ?_).flat fun Z => .non)⟩
      cases r2 with
      | cons c1 c2 r t =>
        have r0 : RepL K g Z H ys wb AS.no := by
          cases r with
          | lstO ea oa sa ra =>
            rcases rb with rb | ⟨_, rb⟩
            · rw [ea] at rb; cases rb; exact ra.none hf2
            · rw [ea] at rb; cases rb
          | lstF z ea ra =>
            rcases rb with rb | ⟨_, rb⟩ <;> rcases ea with ea | ⟨_, ea⟩ <;> (rw [ea] at rb; cases rb) <;> exact ra
        exact (r1.none hf).app r0 (fun _ z => z.elim) fun _ z => z.elim
  · rename_i n
    obtain ⟨ns, rfl, hm, hk⟩ := hw
    match us, hl with
    | [u], _ =>
      obtain ⟨a, ws, e1, e2, e3, ⟨Zx, Ox, rx⟩, e5⟩ := h.mutL (ys := (ns.erase n).map D.int) rfl hi
      rw [hv] at e1
      cases e1
      obtain ⟨Z, O, rz⟩ := h.valsL rfl
      cases rz with
      | cons c1 c2 rc tc =>
        cases rc
        rw [rx.intsV] at e2
        obtain ⟨j, hj, j1, j2, j3⟩ := first_at hm
        refine ⟨a, ns, n, j, rfl, rfl, e2, j1, j2, hq _ _ _ _ hk ((e5 _ fun Z O1 O2 r1 r2 O b1 b2 => ?_).flat fun Z => .non)⟩
        rw [j3]
        exact RepL.ints
  · rename_i z d
    obtain ⟨⟨hf, hfd, hz, z1, z2⟩, hk⟩ := hw
    match us, hl with
    | [u0, u], _ =>
      obtain ⟨a, ws, e1, e2, e3, _, e5⟩ := h.mutL (ys := xs.take z.toNat ++ [d] ++ xs.drop z.toNat) rfl hi
      rw [hv] at e1
      cases e1
      obtain ⟨Z, O, rz⟩ := h.valsL rfl
      cases rz with
      | cons c1 c2 rc tc =>
        cases rc
        refine ⟨a, ws, z, u, rfl, rfl, e2, by rw [sizeLine_eq]; omega, z1, z2, hq _ _ _ _ hk ((e5 _ fun Z O1 O2 r1 r2 O b1 b2 => ?_).flat fun Z => .non)⟩
        have r0 := r1.none hf
        cases r2 with
        | cons c1 c2 r t =>
          have t0 := t.none (by rw [fzs, hfd]; rfl)
          exact ((r0.tk _).app t0 (O := AS.no) (fun _ z => z) fun _ z => z.elim).app (r0.dr _) (fun _ z => z.elim) fun _ z => z.elim
  · exact hw.elim
end
theorem few_of {env : Env} {pos : Pos} : ∀ {es : List Expr}, es.all nst = true → (backTo pos (starEach es env)).all (fun x => !x.1) = true
  | [], _ => rfl
  | e :: es, h => by
    rw [List.all_cons, Bool.and_eq_true] at h
    rw [star_of h.1]
    show (!false && (backTo pos (starEach es env)).all fun x => !x.1) = true
    rw [few_of h.2]
    rfl
section
variable {G : Gb} {g : Str → Addr} {k : Nat} {sc : Scope} {N : List Str} {W : WX} {X : Cx}
theorem s_mut (c : Ct G g k sc N W X) {m : Mm} {i : Nat} {x f : Str} {p ap cp : Pos} {args : List Expr} {ms : Es} (hx : (slotIs N i x && (vis sc x && (!(x == ("__debug__" : Str)) && !(x == ("__classdict__" : Str))))) = true) (hf : f = Str.ofString (mmN m)) (hline : (ap.endLine == cp.line) = true) (hn : args.all nst = true) (h9 : args.length < 9)
    (ha : PA X args (tV X.K g G W ms)) (hnil : args = [] → ms = .nil) : PE X (.Call (.Attribute (.Name x p) f ap) args [] cp) (tE X.K g G W (.mut m i ms)) := by
  subst hf
  cases args with
  | nil =>
    cases hnil rfl
    refine (pe_bm0 PySem.F.plainAttrs_list (mm_slot m) (mm_ty m) (mm_mt m) (pe_name c hx) rfl hline).im fun σ H Q ⟨B, en, rs, vs, Xp, Q0, hs, hxl, he, hq⟩ => ?_
    unfold ev evs at he
    obtain ⟨_, he⟩ := he
    split at he
    · rename_i xs hi
      obtain ⟨a, ws, e1, e2, e3, _⟩ := ST.mutL (ds := []) (us := []) (ys := []) hs rfl hi
      exact ⟨.ref a, e1, .inl ⟨rfl, ws, .inl (.inl e2)⟩, mut_sat (ds := []) (us := []) hs rfl hi e1 he fun ys d v H' h1 s1 => hq _ _ _ _ h1 s1⟩
    · exact he.elim
  | cons e es =>
    have hn' := hn
    rw [List.all_cons, Bool.and_eq_true] at hn
    refine (pe_bm PySem.F.plainAttrs_list (mm_slot m) (mm_ty m) (mm_mt m) (pe_name c hx) ha rfl (by rw [few_of hn', Bool.true_and]; exact decide_eq_true (by show es.length + 1 + 0 + 0 < 30; rw [List.length_cons] at h9; omega)) hline (star_of hn.1) (stars_of hn.2)).im fun σ H Q ⟨B, en, rs, vs, Xp, Q0, hs, hxl, he, hq⟩ => ?_
    unfold ev at he
    obtain ⟨⟨ws0, hi0⟩, he⟩ := he
    obtain ⟨a0, ws, e1, e2, e3, _⟩ := ST.mutL (ds := []) (us := []) (ys := []) hs rfl hi0
    refine ⟨.ref a0, e1, .inl ⟨rfl, ws, .inl (.inl e2)⟩, B, en, rs, vs, Xp, _, hs, hxl, he, fun ds e1' us H1 h1 l1 l2 s1 => ?_⟩
    split at h1
    · rename_i xs hi
      exact mut_sat s1 l1 hi e1 h1 fun ys d v H' h1 s1 => hq _ _ _ _ h1 s1
    · exact h1.elim
end
end Pf

/-! Instances: their attributes, methods; new ones. -/
namespace Pf
open PySem PySem.Spec PyProof.Rows L2
section
variable {K : PySem.W.Frag} {g : Str → Addr} {Z : AS} {H : Hp}
theorem RepL.look : ∀ {ns : List Str} {fs : List D} {ws : List V} {O : AS} {f : Str} {d : D}, RepL K g Z H fs ws O → (ns.zip fs).lookup f = some d → ∃ u, (ns.zip ws).lookup f = some u ∧ Rep K g Z H d u O
  | [], _, _, _, _, _, _, h => by cases h
  | _ :: _, [], _, _, _, _, _, h => by cases h
  | n :: ns, x :: fs, _, O, f, d, .cons s1 s2 r t, h => by
    rw [List.zip_cons_cons, List.lookup_cons] at h ⊢
    cases e : (f == n) with
    | true =>
      rw [e] at h
      cases h
      exact ⟨_, rfl, r.up s1⟩
    | false =>
      rw [e] at h
      obtain ⟨u, h1, h2⟩ := RepL.look t h
      exact ⟨u, h1, h2.up fun b z => (s2 b z).1⟩
theorem look_none : ∀ {ns : List Str} {ws : List V} {f : Str}, ns.contains f = false → (ns.zip ws).lookup f = none
  | [], _, _, _ => rfl
  | _ :: _, [], _, _ => rfl
  | n :: ns, w :: ws, f, h => by
    rw [List.contains_cons, Bool.or_eq_false_iff] at h
    rw [List.zip_cons_cons, List.lookup_cons, h.1]
    exact look_none h.2
theorem Rep.insAt {o : Bool} {c : Str} {ns : List Str} {fs : List D} {v : V} {O : AS} (r : Rep K g Z H (.ins o c ns fs) v O) : ∃ a dx ws, v = .ref a ∧ H a = some (.ins (g c) dx (ns.zip ws)) ∧ ns.length = ws.length ∧ ∃ O', RepL K g Z H fs ws O' ∧ ∀ b, O' b → O b := by
  cases r with
  | insO e hl oa s r => exact ⟨_, _, _, rfl, e, hl, _, r, fun b z => (s b z).1⟩
  | insF z e hl r => exact ⟨_, _, _, rfl, e, hl, _, r, fun b z => z.elim⟩
theorem ST.pickf {B : Bs} {en : En} {rs : List R} {σ : Sg} {vs : List V} {r : R} {o : Bool} {c : Str} {ns : List Str} {fs : List D} {f : Str} {d : D} {v : V} (h : ST K g B en (r :: rs) σ (v :: vs) H) (hr : rv en r = some (.ins o c ns fs)) (hl : (ns.zip fs).lookup f = some d) (hf : isS r = true → fz d = true) :
    ∃ a dx ws u, v = .ref a ∧ H a = some (.ins (g c) dx (ns.zip ws)) ∧ (ns.zip ws).lookup f = some u ∧ ST K g B en (.v d :: rs) σ (u :: vs) H := by
  obtain ⟨⟨Z, O, O1, O2, e, t, s1, s2, q, p⟩, hlen⟩ := h
  cases t with
  | @v _ A C _ _ _ _ a1 a2 rr t =>
    cases hr
    obtain ⟨a, dx, ws, rfl, ea, l, O', rl, so⟩ := rr.insAt
    obtain ⟨u, hu, ru⟩ := rl.look hl
    exact ⟨a, dx, ws, u, rfl, ea, hu, ⟨Z, O, O1, O2, e, .v a1 a2 (ru.up so) t, s1, s2, q, p⟩, hlen⟩
  | s ev t =>
    obtain ⟨v', A, C, ev', rr, _⟩ := e.split (join_some (show (en[_]?).join = some _ from hr))
    rw [ev] at ev'
    cases ev'
    obtain ⟨a, dx, ws, e1, ea, l, O', rl, so⟩ := rr.insAt
    obtain ⟨u, hu, ru⟩ := rl.look hl
    exact ⟨a, dx, ws, u, e1, ea, hu, ⟨Z, O, O1, O2, e, .v (O1 := AS.no) (fun _ z => z.elim) (fun _ z => ⟨z, id⟩) (ru.none (hf rfl)) t, s1, s2, q, p⟩, hlen⟩
theorem ST.laidx {B : Bs} {en : En} {rs : List R} {σ : Sg} {vs : List V} {p : Addr} {o : HO} (h : ST K g B en rs σ vs H) (hp : H p = none) : ST K g B en rs σ vs (upd H p o) := by
  obtain ⟨⟨Z, O, O1, O2, e, t, s1, s2, q, pi⟩, hl⟩ := h
  exact ⟨⟨Z, O, O1, O2, e.keep (fun _ z => z) (keep_new hp), t.keep (fun _ z => z) (keep_new hp), s1, s2, q.new hp, pi⟩, hl⟩
theorem SR.take0 {B : Bs} {en : En} {d : D} {x : Option V} {σ : Sg} (h : SR K g B (some d :: en) [] (x :: σ) [] H) : ∃ v, x = some v ∧ SR K g B (none :: en) [.v d] (x :: σ) [v] H := by
  obtain ⟨Z, O, O1, O2, e, t, s1, s2, q, p⟩ := h
  cases e with
  | @has _ A C _ v _ _ a1 a2 r t1 =>
    exact ⟨v, rfl, Z, O, C, fun b => A b ∨ O2 b, .un t1, .v (O1 := A) (O2 := O2) (fun b z => .inl z) (fun b z => ⟨.inr z, fun y => (s2 b z).2 (a1 b y)⟩) r t, fun b z => s1 b (a2 b z).1, fun b z => by
      rcases z with z | z
      · exact ⟨s1 b (a1 b z), fun y => (a2 b y).2 z⟩
      · exact ⟨(s2 b z).1, fun y => (s2 b z).2 (a2 b y).1⟩, q, p⟩
end
section
variable {G : Gb} {g : Str → Addr} {k : Nat} {sc : Scope} {N : List Str} {W : WX} {X : Cx}
theorem base_of {e : Expr} {f : Str} (h : nab e = true) : attributeBase e f X.env (eval e X.env) = eval e X.env := by
  cases e <;> first | rfl | cases h
/-- e.f -/
theorem s_fld (c : Ct G g k sc N W X) {e : Expr} {m : E} {f : String} {fn : Str} {p : Pos} (hf : fn = Str.ofString f) (hb : nab e = true) (h : PE X e (tR X.K g G W m)) : PE X (.Attribute e fn p) (tE X.K g G W (.fld m f)) := by
  subst hf
  refine (pe_fld h (base_of hb)).im fun σ H Q ⟨B, en, rs, vs, Xp, Q0, hs, hx, he, hq⟩ => ?_
  unfold ev at he
  refine ⟨B, en, rs, vs, Xp, _, hs, hx, he, fun r e1 v H1 h1 s1 => ?_⟩
  split at h1
  · rename_i o cn ns fs hd
    obtain ⟨hk, d, hl, hfz, h2⟩ := h1
    obtain ⟨cl, na⟩ := c.ok.fok _ _ hk
    obtain ⟨a, dx, ws, u, rfl, ea, hu, s2⟩ := s1.pickf hd hl hfz
    exact ⟨a, g cn, dx, _, u, rfl, ea, cl, na, hu, hq _ _ _ _ h2 s2⟩
  · exact h1.elim
/-- o.m(..), any error let through -/
theorem pe_methX {C : Addr} {m : Str} {fa : Addr} {fd : FuncData} {ps : List Str} {sp : Sp} {E : Sg → XK} {o e : Expr} {es : List Expr} {ta : TE} {t : TA} {p apos : Pos} {j : Nat} {CX : CXT} (he : PE X o ta) (cc : Cls X.K C) (hm : Meth X.K C m fa) (F : FnOk X.prog X.w X.K X.mg X.base CX j fa fd ps sp) (hr : Room j X.A) (hb : Binds X.K fd ps []) (hx : ∀ σ, PassesAt CX X σ (E σ)) (ha : PA X (e :: es) t)
    (hbase : attributeBase o m X.env (eval o X.env) = eval o X.env) (hn : (e :: es).all nst = true) (h9 : (e :: es).length < 9) (hline : (apos.endLine == p.line) = true) :
    PE X (.Call (.Attribute o m apos) (e :: es) [] p) (fun σ H Q => ta σ H fun x H1 => ∃ a dx fs, x = .ref a ∧ H1 a = some (.ins C dx fs) ∧ fs.lookup m = none ∧ t σ H1 fun vs H2 => sp (x :: vs) H2 Q (E σ)) := by
  refine ⟨fun pins s σ H Q I h => ?_⟩
  have hform : methodCallForm ((e :: es).length + ([] : List Keyword).length) (backTo p (starEach (e :: es) X.env)) (backToKw p (keywordEach [] X.env)) = true := by
    show ((backTo p (starEach (e :: es) X.env)).all (fun x => !x.1) && (backToKw p (keywordEach [] X.env)).all (fun x => x.1.isSome) && decide ((e :: es).length + ([] : List Keyword).length + (if ([] : List Keyword).isEmpty then 0 else 1) < 30)) = true
    rw [few_of hn, Bool.true_and]
    exact decide_eq_true (by show es.length + 1 + 0 + 0 < 30; rw [List.length_cons] at h9; omega)
  have hpos : methodCallPos true o X.env apos p = pure p := by unfold methodCallPos; simp [hline]
  rw [List.all_cons, Bool.and_eq_true] at hn
  rw [arm_eval_Call, hbase]
  refine wpAny_bind (thn (he.run pins s σ H _ I h) fun u s1 ⟨x, H1, I1, rx, a, dx, fs, ex, ea, l, q⟩ => ?_)
  subst ex
  obtain rfl : u = Value.ref a := rx
  refine wpAny_bind (wpAny_standAt ?_)
  unfold methodCall
  rw [hform]
  refine wpAny_bind (wpAny_holding (getmeth_ok I1 ea cc hm l ?_))
  refine wpAny_bind (wpAny_of_eq hpos ?_)
  refine PySem.W.callWith_K (first := [.ref a]) (h₀ := X.base) I.ok.mod.kin hm.kp (thn (ha.run p pins s1 σ H1 _ I1 q) fun us s2 ⟨vs, H2, I2, r, q2⟩ => ⟨I2.kIn, ?_⟩) (star_of hn.1) (stars_of hn.2)
  exact run_fnS (us := .ref a :: us) (vs := .ref a :: vs) F hr hb (hx σ) I2 (.cons rfl r) q2
theorem pe_methX0 {C : Addr} {m : Str} {fa : Addr} {fd : FuncData} {ps : List Str} {sp : Sp} {E : Sg → XK} {o : Expr} {ta : TE} {p apos : Pos} {j : Nat} {CX : CXT} (he : PE X o ta) (cc : Cls X.K C) (hm : Meth X.K C m fa) (F : FnOk X.prog X.w X.K X.mg X.base CX j fa fd ps sp) (hr : Room j X.A) (hb : Binds X.K fd ps []) (hx : ∀ σ, PassesAt CX X σ (E σ))
    (hbase : attributeBase o m X.env (eval o X.env) = eval o X.env) (hline : (apos.endLine == p.line) = true) :
    PE X (.Call (.Attribute o m apos) [] [] p) (fun σ H Q => ta σ H fun x H1 => ∃ a dx fs, x = .ref a ∧ H1 a = some (.ins C dx fs) ∧ fs.lookup m = none ∧ sp [x] H1 Q (E σ)) := by
  refine ⟨fun pins s σ H Q I h => ?_⟩
  have hform : methodCallForm (([] : List Expr).length + ([] : List Keyword).length) (backTo p (starEach [] X.env)) (backToKw p (keywordEach [] X.env)) = true := rfl
  have hpos : methodCallPos true o X.env apos p = pure p := by unfold methodCallPos; simp [hline]
  rw [arm_eval_Call, hbase]
  refine wpAny_bind (thn (he.run pins s σ H _ I h) fun u s1 ⟨x, H1, I1, rx, a, dx, fs, ex, ea, l, q⟩ => ?_)
  subst ex
  obtain rfl : u = Value.ref a := rx
  refine wpAny_bind (wpAny_standAt ?_)
  unfold methodCall
  rw [hform]
  refine wpAny_bind (wpAny_holding (getmeth_ok I1 ea cc hm l ?_))
  refine wpAny_bind (wpAny_of_eq hpos ?_)
  refine PySem.W.callWith_K0 (first := [.ref a]) I1.kIn hm.kp (run_fnS (us := [.ref a]) (vs := [.ref a]) F hr hb (hx σ) I1 (.cons rfl .nil) q)
theorem s_meth (c : Ct G g k sc N W X) {cn m : String} {mn : Str} {e : Expr} {me : E} {args : List Expr} {ms : Es} {p ap : Pos} (hc : X.calm = true) (hm : mn = Str.ofString m) (hb : nab e = true) (hline : (ap.endLine == p.line) = true) (hn : args.all nst = true) (h9 : args.length < 9) (hnil : args = [] → ms = .nil)
    (he : PE X e (tR X.K g G W me)) (ha : PA X args (tA X.K g G W ms)) : PE X (.Call (.Attribute e mn ap) args [] p) (tE X.K g G W (.meth cn m me ms)) := by
  subst hm
  refine ⟨fun pins s σ H Q I ⟨B, en, rs, vs, Xp, Q0, hs, hxl, hev, hq⟩ => ?_⟩
  unfold ev at hev
  obtain ⟨hsome, hev⟩ := hev
  obtain ⟨F, hF⟩ := Option.isSome_iff_exists.mp hsome
  obtain ⟨cc, fa, fd, ps, h1, h2, h3⟩ := c.ok.mth cn m F hF
  cases args with
  | nil =>
    cases hnil rfl
    refine (pe_methX0 he cc h1 h3 (c.room hc) h2 (E := WE W) (fun σ => passAt c.tk σ) (base_of hb) hline).run pins s σ H Q I ⟨B, en, rs, vs, Xp, _, hs, hxl, hev, fun r e1 v H1 ⟨⟨o, ns, fs, hr, hno⟩, h5⟩ s1 => ?_⟩
    obtain ⟨Z, O, rp, _⟩ := s1.rep hr
    obtain ⟨a, dx, ws, rfl, ea, l, _⟩ := rp.insAt
    refine ⟨a, dx, _, rfl, ea, look_none hno, ?_⟩
    unfold evr at h5
    rw [hF] at h5
    exact callW_ok (xs := [r]) (us := [.ref a]) h5 rfl hxl s1 hq
  | cons x xs =>
    refine (pe_methX he cc h1 h3 (c.room hc) h2 (E := WE W) (fun σ => passAt c.tk σ) ha (base_of hb) hn h9 hline).run pins s σ H Q I ⟨B, en, rs, vs, Xp, _, hs, hxl, hev, fun r e1 v H1 ⟨⟨o, ns, fs, hr, hno⟩, h5⟩ s1 => ?_⟩
    obtain ⟨Z, O, rp, _⟩ := s1.rep hr
    obtain ⟨a, dx, ws, rfl, ea, l, _⟩ := rp.insAt
    refine ⟨a, dx, _, rfl, ea, look_none hno, B, e1, r :: rs, .ref a :: vs, Xp, _, s1, hxl, h5, fun ys e2 us H2 h6 hl s2 => ?_⟩
    rw [hF] at h6
    exact callW_ok (xs := r :: ys) (us := .ref a :: us) h6 (by simp [hl]) hxl (s2.move hl) hq
/-- C(..), any error let through -/
theorem pe_makeX {C : Addr} {x : Str} {fa : Addr} {fd : FuncData} {ps : List Str} {sp : Sp} {E : Sg → XK} {e : Expr} {es : List Expr} {t : TA} {p pos : Pos} {j : Nat} {CX : CXT} (M : Mk X.K C fa) (F : FnOk X.prog X.w X.K X.mg X.base CX j fa fd ps sp) (hr : Room (j + 1) X.A) (hb : Binds X.K fd ps []) (hx : ∀ σ, PassesAt CX X σ (E σ))
    (hg : Gl X x) (hm : X.mg x = some (.ref C)) (ha : PA X (e :: es) t) (hdb : (x == ("__debug__" : Str)) = false) (hn : (e :: es).all nst = true) :
    PE X (.Call (.Name x p) (e :: es) [] pos) (fun σ H Q => t σ H fun vs H1 => ∀ y dx, H1 y = none → H1 dx = none → dx ≠ y → sp (.ref y :: vs) (upd (upd H1 dx (.own y)) y (.ins C dx [])) (fun v H2 => v = .non ∧ Q (.ref y) H2) (E σ)) := by
  rw [List.all_cons, Bool.and_eq_true] at hn
  refine ⟨fun pins s σ H Q I h => ?_⟩
  refine wpAny_Call_Name_kw (ld_glob I hg hm ?_ hdb)
  refine PySem.W.callWith_K (h₀ := X.base) I.ok.mod.kin M.kp (thn (ha.run pos pins s σ H _ I h) fun us s1 ⟨vs, H1, I1, r, q⟩ => ⟨I1.kIn, ?_⟩) (star_of hn.1) (stars_of hn.2)
  have hq := q (s1.heap.objs.size + 1) s1.heap.objs.size (I1.hok.fresh (Nat.le_succ _)) (I1.hok.fresh (Nat.le_refl _)) (Nat.ne_of_lt (Nat.lt_succ_self _))
  have I2 := Inv.made (C := C) I1
  have r2 : Vals (V.ref (s1.heap.objs.size + 1) :: vs) (Value.ref (s1.heap.objs.size + 1) :: us) := .cons rfl r
  have hl : (Value.ref (s1.heap.objs.size + 1) :: us).length = ps.length := by
    have e := r2.length
    rw [F.len _ _ _ _ hq] at e
    exact e.symm
  have b := hb _ (Value.ref (s1.heap.objs.size + 1) :: us) I2.kIn (by rw [List.append_nil]; exact hl)
  rw [List.append_nil] at b
  refine wpAny_call (make_map (f := fa) I1.kIn M.makes M.init (beq_iff_eq.mp M.fn) (codeAny_mono (F.run _ X.stack _ _ ⟨Value.ref (s1.heap.objs.size + 1) :: us, []⟩ (Value.ref (s1.heap.objs.size + 1) :: us) _ _ (E σ) (hr.make C us []) (I2.env0.make C us []) b r2 hq) fun r s' hq' => ?_))
  cases r with
  | error e => exact hx σ pins _ _ e s' I2 hq'
  | ok fl =>
    cases fl with
    | ret u =>
      obtain ⟨v, H', I3, rv, ev, q3⟩ := I2.after hq'
      subst ev
      exact ⟨rv, ⟨V.ref (s1.heap.objs.size + 1), H', I3, rfl, q3⟩⟩
    | next => exact False.elim hq'
    | brk => exact False.elim hq'
    | cont => exact False.elim hq'
theorem putA_tl {en2 : En} {d : D} {xs : List R} {up : List (Option D)} : putA en2 (.v d :: xs) up = putA en2 xs up.tail := by
  cases up with
  | nil =>
    cases xs with
    | nil => rfl
    | cons r xs => cases r <;> rfl
  | cons u up => rfl
theorem new_ok {σ : Sg} {H : Hp} {Q : VK} {B : Bs} {en en2 : En} {rs xs : List R} {vs us : List V} {Xp : Xp} {Q0 : D → En → Prop} {F : FSp} {cn : Str} {ds : List D} {y dx : Addr}
    (h : F (.ins true cn [] [] :: ds) (fun r up => r = .non ∧ ∃ d, up.head?.join = some d ∧ Q0 d (putA en2 xs up.tail)) (fun c fs up => Xp c fs (putA en2 xs up.tail))) (ht : takeA en xs = some (ds, en2)) (hl : xs.length = us.length) (hx : XL X.K g G B W Xp)
    (s0 : ST X.K g B en (xs ++ rs) σ (us ++ vs) H) (hy : H y = none) (hdx : H dx = none) (hne : dx ≠ y)
    (hq : ∀ d en' v H', Q0 d en' → ST X.K g B en' (.v d :: rs) σ (v :: vs) H' → Q v H') : spOf X.K g G F (.ref y :: us) (upd (upd H dx (.own y)) y (.ins (g cn) dx [])) (fun v H2 => v = .non ∧ Q (.ref y) H2) (WE W σ) := by
  have s1 : ST X.K g B en (xs ++ rs) σ (us ++ vs) (upd H dx (.own y)) := s0.laidx hdx
  have hy2 : upd H dx (.own y) y = none := by rw [upd_ne (Ne.symm hne)]; exact hy
  have s2 : ST X.K g B en (.v (.ins true cn [] []) :: (xs ++ rs)) σ (.ref y :: (us ++ vs)) (upd (upd H dx (.own y)) y (.ins (g cn) dx [])) :=
    s1.newF hy2 rfl fun Z _ _ => .insO (ns := []) (vs := []) (dx := dx) upd_same rfl rfl (O' := AS.no) (fun _ z => z.elim) .nil
  have ht2 : takeA en (.v (.ins true cn [] []) :: xs) = some (.ins true cn [] [] :: ds, en2) := by
    rw [takeA, ht]
    rfl
  have s3 := s2.1
  have len : rs.length = vs.length := by
    have := s0.2
    simp only [List.length_append] at this
    omega
  have s4 : SR X.K g B en ((R.v (.ins true cn [] []) :: xs) ++ (rs ++ B.ts.map R.v)) σ ((V.ref y :: us) ++ (vs ++ B.tv)) (upd (upd H dx (.own y)) y (.ins (g cn) dx [])) := by
    simpa only [List.cons_append, List.append_assoc] using s3
  obtain ⟨Z, O, hin, hout⟩ := call_ok s4 (by simp [hl]) ht2
  refine ⟨Z, O, _, _, _, hin, h, fun r up v H' h1 s5 => ?_, fun c fs up cls d H' h1 e => ?_⟩
  · obtain ⟨rfl, d, hd, h2⟩ := h1
    have vn : v = .non := by
      obtain ⟨Z5, O5, rp, _⟩ := SR.rep s5 rfl
      cases rp
      rfl
    refine ⟨vn, ?_⟩
    cases up with
    | nil => cases hd
    | cons u0 up =>
      have hu0 : u0 = some d := hd
      subst hu0
      have s6 : SR X.K g ⟨_, Z, O, [], [], []⟩ (some d :: up) [] (some (V.ref y) :: us.map some) [] H' := SR.drop s5
      obtain ⟨v0, e0, s7⟩ := SR.take0 s6
      cases e0
      have s8 := hout (none :: up) [d] [.ref y] H' rfl s7
      exact hq d _ _ _ h2 ⟨s8, by rw [List.length_cons, List.length_cons, len]⟩
  · obtain ⟨ws, ns, fV, a1, a2, a3, a4, a5, a6, a7, a8, a9⟩ := e
    have a1' : SR X.K g ⟨upd (upd H dx (.own y)) y (.ins (g cn) dx []), Z, O, [], [], []⟩ up (fs.map R.v) ((V.ref y :: us).map some) ws H' := by
      have z : SR X.K g ⟨upd (upd H dx (.own y)) y (.ins (g cn) dx []), Z, O, [], [], []⟩ up (fs.map R.v ++ []) ((V.ref y :: us).map some) (ws ++ []) H' := a1
      rw [List.append_nil, List.append_nil] at z
      exact z
    obtain ⟨Z2, P, P1, P2, b1, b2, b3⟩ := hout up fs ws H' a2 a1'
    rw [putA_tl] at b1
    exact hx c fs _ σ H' cls d h1 ⟨ws, ns, fV, ⟨Z2, P, P1, P2, b1, RepT.mid b2 (by rw [List.length_map]; exact a2) len, b3⟩, a2, a3, a4, a5, a6, a7, a8, a9⟩
theorem s_new (c : Ct G g k sc N W X) {x : Str} {cn : String} {p pos : Pos} {a : Expr} {args : List Expr} {ms : Es} (hc : X.calm = true) (hx : x = Str.ofString cn) (hg : gl sc x = true) (hn : (a :: args).all nst = true) (ha : PA X (a :: args) (tA X.K g G W ms)) :
    PE X (.Call (.Name x p) (a :: args) [] pos) (tE X.K g G W (.new cn ms)) := by
  subst hx
  refine ⟨fun pins s σ H Q I ⟨B, en, rs, vs, Xp, Q0, hs, hxl, hev, hq⟩ => ?_⟩
  unfold ev at hev
  obtain ⟨hsome, hev⟩ := hev
  obtain ⟨F, hF⟩ := Option.isSome_iff_exists.mp hsome
  obtain ⟨k1, k2, k3, k4, k5⟩ := c.ok.mkc cn hsome
  obtain ⟨fa, fd, ps, j, hj, h1, h2, h3⟩ := k5 F hF
  refine (pe_makeX ⟨k2, h1.at_, h1.fn, k3⟩ h3 ((c.room hc).mono hj) h2 (E := WE W) (fun σ => passAt c.tk σ) (c.gl hg) k1 ha k4 hn).run pins s σ H Q I ⟨B, en, rs, vs, Xp, _, hs, hxl, hev, fun xs e1 us H1 h5 hl s1 y dx hy hdx hne => ?_⟩
  rw [hF] at h5
  split at h5
  · rename_i F' ds en2 hF' ht
    cases hF'
    exact new_ok h5 ht hl hxl s1 hy hdx hne hq
  · exact h5.elim
end
section
variable {K : PySem.W.Frag} {g : Str → Addr} {B : Bs} {en : En} {rs : List R} {σ : Sg} {vs : List V} {H : Hp}
theorem putF_new : ∀ {ns : List Str} {ws : List V} {f : Str} {u : V}, ns.length = ws.length → ns.contains f = false → putF f u (ns.zip ws) = (ns ++ [f]).zip (ws ++ [u])
  | [], [], f, u, _, _ => rfl
  | [], _ :: _, _, _, h, _ => by cases h
  | _ :: _, [], _, _, h, _ => by cases h
  | n :: ns, w :: ws, f, u, h, hc => by
    rw [List.contains_cons, Bool.or_eq_false_iff] at hc
    have hne : ¬ n = f := fun e => by
      have := hc.1
      rw [e] at this
      simp at this
    rw [List.zip_cons_cons, putF, if_neg hne, putF_new (by simpa using h) hc.2]
    rfl
/-- a name's own instance gets a field -/
theorem ST.mutI {i : Nat} {c : Str} {ns : List Str} {fs : List D} {d : D} {u : V} (h : ST K g B en (.v d :: rs) σ (u :: vs) H) (hi : (en[i]?).join = some (.ins true c ns fs)) :
    ∃ a dx ws, σ[i]? = some (some (.ref a)) ∧ H a = some (.ins (g c) dx (ns.zip ws)) ∧ ns.length = ws.length ∧
      ∀ f, ST K g B (en.set i (some (.ins true c (ns ++ [f]) (fs ++ [d])))) rs σ vs (upd H a (.ins (g c) dx ((ns ++ [f]).zip (ws ++ [u])))) := by
  obtain ⟨⟨Z, O, O1, O2, e, t, s1, s2, q, p⟩, hlen⟩ := h
  obtain ⟨v, A, C, ev, r, e', a1, a2⟩ := e.split (join_some hi)
  cases t with
  | @v _ T1 T2 _ _ _ _ b1 b2 rd t2 =>
    cases r with
    | @insO _ A' a dx _ _ _ ws ea hl oa sa ra =>
      refine ⟨a, dx, ws, ev, ea, hl, fun f => ?_⟩
      have oA : O a := s1 a (a1 a oa)
      have nT1 : ¬ T1 a := fun z => (s2 a (b1 a z)).2 (a1 a oa)
      have nT2 : ¬ T2 a := fun z => (s2 a (b2 a z).1).2 (a1 a oa)
      have nC : ¬ C a := fun z => (a2 a z).2 oa
      have rd1 : RepL K g Z H [d] [u] T1 := .cons (O1 := T1) (O2 := AS.no) (fun _ z => z) (fun _ z => z.elim) rd .nil
      have r2 : RepL K g Z H (fs ++ [d]) (ws ++ [u]) (fun b => A' b ∨ T1 b) := ra.app rd1 (fun b z => .inl z) fun b z => ⟨.inr z, fun y => (s2 b (b1 b z)).2 (a1 b (sa b y).1)⟩
      have r3 := r2.keep (fun _ z => z) (q.keep (x := .ins (g c) dx ((ns ++ [f]).zip (ws ++ [u]))) oA fun z => z.elim (fun z => (sa a z).2 rfl) nT1)
      have rn : Rep K g Z (upd H a (.ins (g c) dx ((ns ++ [f]).zip (ws ++ [u])))) (.ins true c (ns ++ [f]) (fs ++ [d])) (.ref a) (fun b => A b ∨ T1 b) :=
        .insO (O' := fun b => A' b ∨ T1 b) upd_same (by rw [List.length_append, List.length_append, hl]; rfl) (.inl oa) (fun b z => z.elim (fun z => ⟨.inl (sa b z).1, (sa b z).2⟩) fun z => ⟨.inr z, fun y => nT1 (y ▸ z)⟩) r3
      have e2 := RepE.put (O := fun b => O1 b ∨ T1 b) (O1 := fun b => A b ∨ T1 b) (O2 := C) (e'.keep (fun _ z => z) (q.keep (x := .ins (g c) dx ((ns ++ [f]).zip (ws ++ [u]))) oA nC)) ev rn (fun b z => z.imp (a1 b) id) fun b z => ⟨.inl (a2 b z).1, fun y => y.elim (a2 b z).2 fun y => (s2 b (b1 b y)).2 (a2 b z).1⟩
      rw [List.set_set] at e2
      refine ⟨⟨Z, O, fun b => O1 b ∨ T1 b, T2, e2, t2.keep (fun _ z => z) (q.keep (x := .ins (g c) dx ((ns ++ [f]).zip (ws ++ [u]))) oA nT2), fun b z => z.elim (s1 b) fun z => (s2 b (b1 b z)).1, fun b z => ⟨(s2 b (b2 b z).1).1, fun y => y.elim (s2 b (b2 b z).1).2 (b2 b z).2⟩, q.mut oA rfl, p⟩, by simpa using hlen⟩
end
end Pf

/-! Classmethods, a class held by a name, isinstance of own classes, count. -/
namespace Pf
open PySem PySem.Spec PyProof.Rows L2
section
variable {G : Gb} {g : Str → Addr} {k : Nat} {sc : Scope} {N : List Str} {W : WX} {X : Cx}
theorem run_cmX {CX : CXT} {j : Nat} {q f C : Addr} {fd : FuncData} {ps : List Str} {sp : Sp} {E : XK} {Q : VK} {us : List Value} {vs : List V} {pins : List (Addr × Obj)} {σ : Sg} {H : Hp} {s : Shared} (F : FnOk X.prog X.w X.K X.mg X.base CX j f fd ps sp) (hr : Room j X.A) (hb : Binds X.K fd ps []) (hx : PassesAt CX X σ E)
    (I : Inv X ((q, PySem.W.methodObj (.ref f) (.ref C)) :: pins) σ H s) (r : Vals vs us) (h : sp (.ref C :: vs) H Q E) : wpAny (model X.prog X.w) X.A (call (.ref q) us) (EP X pins σ Q) X.xe s := by
  have r2 : Vals (V.ref C :: vs) (Value.ref C :: us) := .cons rfl r
  have hl : (Value.ref C :: us).length = ps.length := by rw [← r2.length]; exact F.len _ _ _ _ h
  have b := hb s (Value.ref C :: us) I.kIn (by rw [List.append_nil]; exact hl)
  rw [List.append_nil] at b
  have z : wpAny (model X.prog X.w) X.A (call (.ref q) us) (EP X ((q, PySem.W.methodObj (.ref f) (.ref C)) :: pins) σ Q) X.xe s := by
    refine wpAny_call (PySem.W.method_call (ClX.pin_at I) (codeAny_mono (F.run X.A X.stack s H ⟨.ref C :: us, []⟩ (.ref C :: us) (.ref C :: vs) Q E hr I.env0 b r2 h) fun r s' hq => ?_))
    cases r with
    | error e => exact hx _ H s e s' I hq
    | ok fl =>
      cases fl with
      | ret u => exact I.after hq
      | next => exact False.elim hq
      | brk => exact False.elim hq
      | cont => exact False.elim hq
  exact thn z fun _ _ y => ClX.unpinE y
/-- C.m(..), any error let through -/
theorem pe_cmethX {C p f : Addr} {m : Str} {mc : Value} {fd : FuncData} {ps : List Str} {sp : Sp} {E : Sg → XK} {o e : Expr} {es : List Expr} {ta : TE} {t : TA} {pos apos : Pos} {j : Nat} {CX : CXT} (he : PE X o ta) (rd : ClX.CRead X.K C mc) (cm : ClX.CMet X.K C mc m p f) (F : FnOk X.prog X.w X.K X.mg X.base CX j f fd ps sp) (hr : Room j X.A) (hb : Binds X.K fd ps []) (hx : ∀ σ, PassesAt CX X σ (E σ)) (ha : PA X (e :: es) t)
    (hbase : attributeBase o m X.env (eval o X.env) = eval o X.env) (hn : (e :: es).all nst = true) (h9 : (e :: es).length < 9) (hline : (apos.endLine == pos.line) = true) :
    PE X (.Call (.Attribute o m apos) (e :: es) [] pos) (fun σ H Q => ta σ H fun x H1 => x = .ref C ∧ t σ H1 fun vs H2 => sp (.ref C :: vs) H2 Q (E σ)) := by
  refine ⟨fun pins s σ H Q I h => ?_⟩
  have hform : methodCallForm ((e :: es).length + ([] : List Keyword).length) (backTo pos (starEach (e :: es) X.env)) (backToKw pos (keywordEach [] X.env)) = true := by
    show ((backTo pos (starEach (e :: es) X.env)).all (fun x => !x.1) && (backToKw pos (keywordEach [] X.env)).all (fun x => x.1.isSome) && decide ((e :: es).length + ([] : List Keyword).length + (if ([] : List Keyword).isEmpty then 0 else 1) < 30)) = true
    rw [few_of hn, Bool.true_and]
    exact decide_eq_true (by show es.length + 1 + 0 + 0 < 30; rw [List.length_cons] at h9; omega)
  have hpos : methodCallPos true o X.env apos pos = pure pos := by unfold methodCallPos; simp [hline]
  rw [List.all_cons, Bool.and_eq_true] at hn
  rw [arm_eval_Call, hbase]
  refine wpAny_bind (thn (he.run pins s σ H _ I h) fun u s1 ⟨x, H1, I1, rx, ex, q⟩ => ?_)
  subst ex
  obtain rfl : u = Value.ref C := rx
  refine wpAny_bind (wpAny_standAt ?_)
  unfold methodCall
  rw [hform]
  refine wpAny_bind (wpAny_holding (ClX.getmethcm_ok I1 rd cm fun s2 I2 => ?_))
  refine wpAny_bind (wpAny_of_eq hpos ?_)
  refine ClX.callwith_cm I2 (ClX.base_none I1 (Nat.le_refl _)) cm.fi (thn (ha.run pos _ s2 σ H1 _ I2 q) fun us s3 ⟨vs, H2, I3, rv, q2⟩ => ⟨⟨ClX.pin_at I3, I3.kIn⟩, ?_⟩) (star_of hn.1) (stars_of hn.2)
  exact run_cmX F hr hb (hx σ) I3 rv q2
theorem s_cm (c : Ct G g k sc N W X) {cn m : String} {x mn : Str} {p ap cp : Pos} {a : Expr} {args : List Expr} {ms : Es} (hc : X.calm = true) (hx : x = Str.ofString cn) (hg : gl sc x = true) (hm : mn = Str.ofString m) (hline : (ap.endLine == cp.line) = true) (hn : (a :: args).all nst = true) (h9 : (a :: args).length < 9) (ha : PA X (a :: args) (tA X.K g G W ms)) :
    PE X (.Call (.Attribute (.Name x p) mn ap) (a :: args) [] cp) (tE X.K g G W (.cm cn m ms)) := by
  subst hx hm
  refine ⟨fun pins s σ H Q I ⟨B, en, rs, vs, Xp, Q0, hs, hxl, hev, hq⟩ => ?_⟩
  unfold ev at hev
  obtain ⟨hsome, hev⟩ := hev
  obtain ⟨F, hF⟩ := Option.isSome_iff_exists.mp hsome
  obtain ⟨k1, k2, mc, pp, fa, fd, ps, h1, h2, h3, h4⟩ := c.ok.cmt cn m F hF
  refine (pe_cmethX (pe_glob (v := .ref (g (Str.ofString cn))) (c.gl hg) k1 rfl k2) h1 h2 h4 (c.room hc) h3 (E := WE W) (fun σ => passAt c.tk σ) ha rfl hn h9 hline).run pins s σ H Q I ⟨rfl, B, en, rs, vs, Xp, _, hs, hxl, hev, fun ys e2 us H2 h6 hl s2 => ?_⟩
  rw [hF] at h6
  exact callW_ok (xs := .v (.cls (Str.ofString cn)) :: ys) (us := .ref (g (Str.ofString cn)) :: us) h6 (by simp [hl]) hxl (s2.flat fun Z => .cls _) hq
/-- a class that a name holds is called -/
theorem pe_makeL {C : Addr} {i : Nat} {x : Str} {fa : Addr} {fd : FuncData} {ps : List Str} {sp : Sp} {E : Sg → XK} {e : Expr} {es : List Expr} {t : TA} {p pos : Pos} {j : Nat} {CX : CXT} (M : Mk X.K C fa) (F : FnOk X.prog X.w X.K X.mg X.base CX j fa fd ps sp) (hr : Room (j + 1) X.A) (hb : Binds X.K fd ps []) (hx : ∀ σ, PassesAt CX X σ (E σ))
    (hv : PE X (.Name x p) (tVar i)) (ha : PA X (e :: es) t) (hn : (e :: es).all nst = true) :
    PE X (.Call (.Name x p) (e :: es) [] pos) (fun σ H Q => σ[i]? = some (some (.ref C)) ∧ t σ H fun vs H1 => ∀ y dx, H1 y = none → H1 dx = none → dx ≠ y → sp (.ref y :: vs) (upd (upd H1 dx (.own y)) y (.ins C dx [])) (fun v H2 => v = .non ∧ Q (.ref y) H2) (E σ)) := by
  rw [List.all_cons, Bool.and_eq_true] at hn
  refine ⟨fun pins s σ H Q I ⟨hi, h⟩ => ?_⟩
  refine wpAny_Call_Name_kw (thn (hv.run pins s σ H (fun v H' => v = .ref C ∧ H' = H) I ⟨_, hi, rfl, rfl⟩) fun u s0 ⟨v, H0, I0, rv, ev, eH⟩ => ?_)
  subst ev eH
  obtain rfl : u = Value.ref C := rv
  refine PySem.W.callWith_K (h₀ := X.base) I.ok.mod.kin M.kp (thn (ha.run pos pins s0 σ H0 _ I0 h) fun us s1 ⟨vs, H1, I1, r, q⟩ => ⟨I1.kIn, ?_⟩) (star_of hn.1) (stars_of hn.2)
  have hq := q (s1.heap.objs.size + 1) s1.heap.objs.size (I1.hok.fresh (Nat.le_succ _)) (I1.hok.fresh (Nat.le_refl _)) (Nat.ne_of_lt (Nat.lt_succ_self _))
  have I2 := Inv.made (C := C) I1
  have r2 : Vals (V.ref (s1.heap.objs.size + 1) :: vs) (Value.ref (s1.heap.objs.size + 1) :: us) := .cons rfl r
  have hl : (Value.ref (s1.heap.objs.size + 1) :: us).length = ps.length := by
    have e := r2.length
    rw [F.len _ _ _ _ hq] at e
    exact e.symm
  have b := hb _ (Value.ref (s1.heap.objs.size + 1) :: us) I2.kIn (by rw [List.append_nil]; exact hl)
  rw [List.append_nil] at b
  refine wpAny_call (make_map (f := fa) I1.kIn M.makes M.init (beq_iff_eq.mp M.fn) (codeAny_mono (F.run _ X.stack _ _ ⟨Value.ref (s1.heap.objs.size + 1) :: us, []⟩ (Value.ref (s1.heap.objs.size + 1) :: us) _ _ (E σ) (hr.make C us []) (I2.env0.make C us []) b r2 hq) fun r s' hq' => ?_))
  cases r with
  | error e => exact hx σ pins _ _ e s' I2 hq'
  | ok fl =>
    cases fl with
    | ret u =>
      obtain ⟨v, H', I3, rv, ev, q3⟩ := I2.after hq'
      subst ev
      exact ⟨rv, ⟨V.ref (s1.heap.objs.size + 1), H', I3, rfl, q3⟩⟩
    | next => exact False.elim hq'
    | brk => exact False.elim hq'
    | cont => exact False.elim hq'
theorem s_newv (c : Ct G g k sc N W X) {i : Nat} {x : Str} {cn : String} {p pos : Pos} {a : Expr} {args : List Expr} {ms : Es} (hc : X.calm = true) (hx : (slotIs N i x && (vis sc x && (!(x == ("__debug__" : Str)) && !(x == ("__classdict__" : Str))))) = true) (hn : (a :: args).all nst = true) (ha : PA X (a :: args) (tA X.K g G W ms)) :
    PE X (.Call (.Name x p) (a :: args) [] pos) (tE X.K g G W (.newv i cn ms)) := by
  refine ⟨fun pins s σ H Q I ⟨B, en, rs, vs, Xp, Q0, hs, hxl, hev, hq⟩ => ?_⟩
  unfold ev at hev
  obtain ⟨⟨hi, hsome⟩, hev⟩ := hev
  obtain ⟨F, hF⟩ := Option.isSome_iff_exists.mp hsome
  obtain ⟨k1, k2, k3, k4, k5⟩ := c.ok.mkc cn hsome
  obtain ⟨fa, fd, ps, j, hj, h1, h2, h3⟩ := k5 F hF
  have hσ : σ[i]? = some (some (.ref (g (Str.ofString cn)))) := by
    obtain ⟨⟨Z, O, O1, O2, e, t, s1, s2, q, p⟩, hl⟩ := hs
    obtain ⟨v, A, C, ev, r, _⟩ := e.split (join_some hi)
    cases r
    exact ev
  refine (pe_makeL (i := i) ⟨k2, h1.at_, h1.fn, k3⟩ h3 ((c.room hc).mono hj) h2 (E := WE W) (fun σ => passAt c.tk σ) (pe_name c hx) ha hn).run pins s σ H Q I ⟨hσ, B, en, rs, vs, Xp, _, hs, hxl, hev, fun xs e1 us H1 h5 hl s1 y dx hy hdx hne => ?_⟩
  rw [hF] at h5
  split at h5
  · rename_i F' ds en2 hF' ht
    cases hF'
    exact new_ok h5 ht hl hxl s1 hy hdx hne hq
  · exact h5.elim
/-- a == b by the class's own text, any error let through -/
theorem pc_oeqX {C : Addr} {fa : Addr} {fd : FuncData} {ps : List Str} {sp : Sp} {E : Sg → XK} {a b : Expr} {ta tb : TE} {j : Nat} {CX : CXT} (ha : PE X a ta) (hb' : PE X b tb) (hm : Meth X.K C "__eq__" fa) (F : FnOk X.prog X.w X.K X.mg X.base CX j fa fd ps sp) (hu : X.A.units < cLine) (hr : Room j X.A) (hb : Binds X.K fd ps []) (hx : ∀ σ, PassesAt CX X σ (E σ)) :
    PC X .Eq a b (fun σ H Q => ta σ H fun x H1 => tb σ H1 fun y H2 => ∃ p q dx dy fs gs, x = .ref p ∧ y = .ref q ∧ H2 p = some (.ins C dx fs) ∧ H2 q = some (.ins C dy gs) ∧ sp [.ref p, .ref q] H2 (fun v H3 => (∃ t, v = .bl t) ∧ Q v H3) (E σ)) := by
  refine ⟨fun pins s σ H Q I h => binT ha hb' I h fun v u s2 x y H2 I2 rx ry q => ?_⟩
  obtain ⟨p, q', dx, dy, fs, gs, rfl, rfl, ep, eq, h3⟩ := q
  obtain rfl : v = Value.ref p := rx
  obtain rfl : u = Value.ref q' := ry
  obtain ⟨mA, J, _⟩ := ins_get I2.hok ep
  obtain ⟨mB, J', _⟩ := ins_get I2.hok eq
  obtain ⟨od, J, _⟩ := J.look
  obtain ⟨od', J', _⟩ := J'.look
  obtain ⟨m, hF⟩ := I2.fr
  show wpAny (model X.prog X.w) X.A (richCompare .Eq (.ref p) (.ref q')) (EP X pins σ Q) X.xe s2
  refine PySem.W.cmp_K (op := .Eq) (tb := .ref C) hu hF I2.ok.mod.kin J J'.type (by simp [PySem.W.notFirst]) hm.at_ hm.fn ?_
  refine thn (run_fnS (us := [.ref p, .ref q']) (vs := [.ref p, .ref q']) F hr hb (hx σ) I2 (.cons rfl (.cons rfl .nil)) h3) fun v s3 hq => ?_
  obtain ⟨z, H', I', rz, ⟨t, ez⟩, hq⟩ := hq
  subst ez
  cases rz
  exact ⟨.bl t, H', I', rfl, hq⟩
theorem oeq_rd (c : Ct G g k sc N W X) {cn : String} {F : FSp} {C : Addr} {ma mb : E} {σ : L2.St} {H : Hp} {Q : VK} (hF : G.mth cn "__eq__" = some F) (hC : C = g (Str.ofString cn)) (h : tE X.K g G W (.oeq cn ma mb) σ H Q) :
    tR X.K g G W ma σ H fun x H1 => tR X.K g G W mb σ H1 fun y H2 => ∃ p q dx dy fs gs, x = .ref p ∧ y = .ref q ∧ H2 p = some (.ins C dx fs) ∧ H2 q = some (.ins C dy gs) ∧ spOf X.K g G F [.ref p, .ref q] H2 (fun v H3 => (∃ t, v = .bl t) ∧ Q v H3) (WE W σ) := by
  subst hC
  obtain ⟨B, en, rs, vs, Xp, Q0, hs, hx, hev, hq⟩ := h
  unfold ev at hev
  obtain ⟨_, hev⟩ := hev
  refine ⟨B, en, rs, vs, Xp, _, hs, hx, hev, fun r1 e1 v1 H1 h1 s1 => ⟨B, e1, r1 :: rs, v1 :: vs, Xp, _, s1, hx, h1, fun r2 e2 v2 H2 ⟨⟨⟨o, ns, fs, hr1⟩, o', ns', fs', hr2⟩, h2⟩ s2 => ?_⟩⟩
  obtain ⟨Z, O, rp, _⟩ := s2.rep hr2
  obtain ⟨q, dy, ws, rfl, eq, _, _⟩ := rp.insAt
  have s3 := s2.swap
  obtain ⟨Z', O', rp', _⟩ := s3.rep hr1
  obtain ⟨p, dx, ws', rfl, ep, _, _⟩ := rp'.insAt
  refine ⟨p, q, dx, dy, _, _, rfl, rfl, ep, eq, ?_⟩
  rw [hF] at h2
  refine callW_ok (xs := [r1, r2]) (us := [.ref p, .ref q]) h2 rfl hx s3 fun d en' v H' ⟨t, ed, h5⟩ s4 => ⟨?_, hq _ _ _ _ h5 s4⟩
  subst ed
  obtain ⟨Z2, O2, r, _⟩ := s4.rep rfl
  cases r
  exact ⟨t, rfl⟩
theorem s_oeq (c : Ct G g k sc N W X) {cn : String} {a b : Expr} {p : Pos} {ma mb : E} (hc : X.calm = true) (ha : PE X a (tR X.K g G W ma)) (hb : PE X b (tR X.K g G W mb)) : PE X (.Compare a [.Eq] [b] p) (tE X.K g G W (.oeq cn ma mb)) := by
  refine ⟨fun pins s σ H Q I h => ?_⟩
  obtain ⟨F, hF⟩ : ∃ F, G.mth cn "__eq__" = some F := by
    obtain ⟨B, en, rs, vs, Xp, Q0, hs, hx, hev, hq⟩ := h
    unfold ev at hev
    exact Option.isSome_iff_exists.mp hev.1
  obtain ⟨cc, fa, fd, ps, h1, h2, h3⟩ := c.ok.mth cn _ F hF
  exact (pe_cmp (pc_oeqX ha hb h1 h3 (by have := c.hu; omega) (c.room hc) h2 (E := WE W) (fun σ => passAt c.tk σ)) (nobehind _ (by decide) (by decide))).run pins s σ H Q I (oeq_rd c hF rfl h)
theorem t_oeq (c : Ct G g k sc N W X) {cn : String} {a b : Expr} {p : Pos} {ma mb : E} (hc : X.calm = true) (ha : PE X a (tR X.K g G W ma)) (hb : PE X b (tR X.K g G W mb)) : PT X (.Compare a [.Eq] [b] p) (tT X.K g G W (.oeq cn ma mb)) := by
  refine ⟨fun pins s σ H Q I h => ?_⟩
  obtain ⟨F, hF⟩ : ∃ F, G.mth cn "__eq__" = some F := by
    obtain ⟨B, en, rs, vs, Xp, Q0, hs, hx, hev, hq⟩ := h
    unfold ev at hev
    exact Option.isSome_iff_exists.mp hev.1
  obtain ⟨cc, fa, fd, ps, h1, h2, h3⟩ := c.ok.mth cn _ F hF
  exact (pt_cmp (pc_oeqX ha hb h1 h3 (by have := c.hu; omega) (c.room hc) h2 (E := WE W) (fun σ => passAt c.tk σ)) (nobehind _ (by decide) (by decide))).run pins s σ H Q I (oeq_rd c hF rfl (tT_of h))
theorem tyN_in (d : D) : tyN d ∈ ["NoneType", "bool", "int", "str", "tuple", "list"] := by cases d <;> simp [tyN]
theorem s_isc (c : Ct G g k sc N W X) {x y : Str} {cn : String} {e : Expr} {p p2 pos : Pos} {m : E} (hx : x = Str.ofString "isinstance") (hg : gl sc x = true) (hn : nst e = true) (hy : y = Str.ofString cn) (hg2 : gl sc y = true) (h : PE X e (tR X.K g G W m)) : PE X (.Call (.Name x p) [e, .Name y p2] [] pos) (tE X.K g G W (.isc m cn)) := by
  subst hx hy
  refine ⟨fun pins s σ H Q I ⟨B, en, rs, vs, Xp, Q0, hs, hxl, hev, hq⟩ => ?_⟩
  unfold ev at hev
  obtain ⟨hI, hev⟩ := hev
  obtain ⟨⟨k1, k2⟩, k3, k4, k5⟩ := c.ok.isc _ hI
  refine (pe_callB call_isi (c.gl hg) (c.ok.fre "isinstance" (by decide)) (by decide +kernel) (pa_cons h (pa_cons (pe_glob (v := .ref (g (Str.ofString cn))) (c.gl hg2) k1 rfl k2) pa_nil rfl) (star_of hn)) (by decide) (by decide) (star_of hn) rfl).run pins s σ H Q I ⟨B, en, rs, vs, Xp, _, hs, hxl, hev, fun r e1 v H1 h1 s1 => ?_⟩
  split at h1
  · rename_i o c' ns fs hd
    obtain ⟨i1, h2⟩ := h1
    obtain ⟨Z, O, rp, _⟩ := s1.rep hd
    obtain ⟨a, dx, ws, rfl, ea, _⟩ := rp.insAt
    obtain ⟨_, j3, _, _⟩ := c.ok.isc _ i1
    exact ⟨.ref a, .ref (g (Str.ofString cn)), _, _, _, rfl, .own _, .base (.ins ea j3.cl j3.ha j3.hn j3.htk j3.hm), k5 c' i1, hq _ _ _ _ h2 (s1.drop.flat fun Z => .bl _)⟩
  · rename_i d hno hd
    obtain ⟨i1, h2⟩ := h1
    obtain ⟨Z, O, rp, _⟩ := s1.rep hd
    exact ⟨v, .ref (g (Str.ofString cn)), _, _, false, rfl, .own _, rp.tyx i1, k4 _ (tyN_in d), hq _ _ _ _ h2 (s1.drop.flat fun Z => .bl _)⟩
  · exact h1.elim
theorem s_cnt (c : Ct G g k sc N W X) {e x : Expr} {fn : Str} {ap cp : Pos} {m m2 : E} (hb : nab e = true) (hf : fn = Str.ofString "count") (hline : (ap.endLine == cp.line) = true) (hn : nst x = true) (h : PE X e (tR X.K g G W m)) (h2 : PE X x (tE X.K g G W m2)) :
    PE X (.Call (.Attribute e fn ap) [x] [] cp) (tE X.K g G W (.cnt m m2)) := by
  subst hf
  have hx1 : ([x] : List Expr).all nst = true := by rw [List.all_cons, hn]; rfl
  refine (pe_bm PySem.F.plainAttrs_list PySem.F.slot_list_count PySem.F.type_list_count mt_lcount h (v_cons (m := m2) (ms := .nil) hn h2 v_nil) (base_of hb) (by rw [few_of hx1, Bool.true_and]; rfl) hline (star_of hn) rfl).im fun σ H Q ⟨B, en, rs, vs, Xp, Q0, hs, hxl, he, hq⟩ => ?_
  unfold ev at he
  refine ⟨B, en, rs, vs, Xp, _, hs, hxl, he, fun r e1 v H1 ⟨⟨d0, hd0, hl0⟩, h1⟩ s1 => ?_⟩
  obtain ⟨xs0, hx0⟩ : ∃ xs, itms d0 = some xs := by cases d0 <;> first | exact ⟨_, rfl⟩ | cases hl0
  obtain ⟨a, us0, rfl, _, sq0, _⟩ := s1.seq hd0 hx0
  have rd0 : Rd H1 a (.lst us0) := sq0.elim (fun z => z.2) fun z => by rw [hl0] at z; cases z.1
  refine ⟨.inl ⟨rfl, us0, .inl rd0⟩, B, e1, r :: rs, .ref a :: vs, Xp, fun ds e2 => match ds with
    | [y] => (match rv e2 r, y with
      | some x, .int n => isLst x = true ∧ ∃ ns : List Int, itms x = some (ns.map .int) ∧ Q0 (.int (ns.count n : Nat)) e2
      | _, _ => False)
    | _ => False, s1, hxl, by unfold evs evs; exact h1, fun ds e2 us H2 h6 hl hl2 s2 => ?_⟩
  match ds, us, hl, h6, s2 with
  | [y], [u], _, h6, s2 =>
    dsimp only at h6
    split at h6
    · rename_i x' n hx' hy'
      obtain ⟨hl', ns, hi, h7⟩ := h6
      try subst hy'
      have s2' : ST X.K g B e2 (.v (.int n) :: r :: rs) σ (u :: .ref a :: vs) H2 := s2
      obtain ⟨Z, O, rp, _⟩ := s2'.rep (r := .v (.int n)) rfl
      cases rp
      obtain ⟨a', us', ea, _, sq, Z', O', rl⟩ := s2'.drop.seq hx' hi
      cases ea
      have rd : Rd H2 a (.lst us') := sq.elim (fun z => z.2) fun z => by rw [hl'] at z; cases z.1
      rw [rl.intsV] at rd
      exact ⟨a, ns, n, rfl, rfl, .inl rd, hq _ _ _ _ h7 (s2'.drop.drop.flat fun Z => .int _)⟩
    · exact h6.elim
end
end Pf

/-! The checks, read backwards. -/
namespace Pf
open PySem PySem.Spec PyProof.Rows L2
section
variable {N : List Str} {calm : Bool} {fl : List String} {sc : Scope} {e : Expr}
theorem i_var {i : Nat} (h : chkE N calm fl (.var i) sc e = true) : ∃ x p, e = .Name x p ∧ (slotIs N i x && (vis sc x && (!(x == ("__debug__" : Str)) && !(x == ("__classdict__" : Str))))) = true := by
  unfold chkE at h
  split at h
  all_goals first | contradiction | (cases h; done) | skip
  rename_i hh
  cases hh
  exact ⟨_, _, rfl, h⟩
theorem i_fv {i : Nat} (h : chkE N calm fl (.fv i) sc e = true) : ∃ x p, e = .Name x p ∧ (slotIs N i x && (vis sc x && (!(x == ("__debug__" : Str)) && !(x == ("__classdict__" : Str))))) = true := by
  unfold chkE at h
  split at h
  all_goals first | contradiction | (cases h; done) | skip
  rename_i hh
  cases hh
  exact ⟨_, _, rfl, h⟩
theorem i_cm {c m : String} {es : Es} (h : chkE N calm fl (.cm c m es) sc e = true) : ∃ x p mn ap a args cp, e = .Call (.Attribute (.Name x p) mn ap) (a :: args) [] cp ∧ (calm && (decide (x = Str.ofString c) && (gl sc x && (decide (mn = Str.ofString m) && ((ap.endLine == cp.line) && (decide ((a :: args).length < 9) && chkEs N calm fl es sc (a :: args))))))) = true := by
  unfold chkE at h
  split at h
  all_goals first | contradiction | (cases h; done) | skip
  rename_i hh
  cases hh
  exact ⟨_, _, _, _, _, _, _, rfl, h⟩
theorem i_newv {i : Nat} {c : String} {es : Es} (h : chkE N calm fl (.newv i c es) sc e = true) : ∃ x p a args q, e = .Call (.Name x p) (a :: args) [] q ∧ (calm && ((slotIs N i x && (vis sc x && (!(x == ("__debug__" : Str)) && !(x == ("__classdict__" : Str))))) && chkEs N calm fl es sc (a :: args))) = true := by
  unfold chkE at h
  split at h
  all_goals first | contradiction | (cases h; done) | skip
  rename_i hh
  cases hh
  exact ⟨_, _, _, _, _, rfl, h⟩
theorem i_isc {a : E} {c : String} (h : chkE N calm fl (.isc a c) sc e = true) : ∃ x p e1 y p2 q, e = .Call (.Name x p) [e1, .Name y p2] [] q ∧ (decide (x = Str.ofString "isinstance") && (gl sc x && (nst e1 && (decide (y = Str.ofString c) && (gl sc y && chkE N calm fl a sc e1))))) = true := by
  unfold chkE at h
  split at h
  all_goals first | contradiction | (cases h; done) | skip
  rename_i hh
  cases hh
  exact ⟨_, _, _, _, _, _, rfl, h⟩
theorem i_cnt {a b : E} (h : chkE N calm fl (.cnt a b) sc e = true) : ∃ e1 fn ap x cp, e = .Call (.Attribute e1 fn ap) [x] [] cp ∧ (nab e1 && (decide (fn = Str.ofString "count") && ((ap.endLine == cp.line) && (nst x && (chkE N calm fl a sc e1 && chkE N calm fl b sc x))))) = true := by
  unfold chkE at h
  split at h
  all_goals first | contradiction | (cases h; done) | skip
  rename_i hh
  cases hh
  exact ⟨_, _, _, _, _, rfl, h⟩
theorem i_lc2 {tg : List Nat} {src : Src} {cs : Es} {tg1 : List Nat} {src1 : Src} {cs1 : Es} {elt : E} (h : chkE N calm fl (.lc2 tg src cs tg1 src1 cs1 elt) sc e = true) : ∃ el t it ifs a t1 it1 ifs1 a1 scope p, e = .ListComp el [⟨t, it, ifs, a⟩, ⟨t1, it1, ifs1, a1⟩] scope p ∧ (calm && ((decide (a = 0) && decide (a1 = 0)) && (blkC N sc scope (ownOf N (tg ++ tg1)) && ((chkTgt N scope.names tg t && chkTgt N scope.names tg1 t1) && ((nset it && nset it1) && ((chkS N calm fl src sc it && chkS N calm fl src1 (relS scope sc) it1) && ((chkEs N calm fl cs (relS scope sc) ifs && chkEs N calm fl cs1 (relS scope sc) ifs1) && ((decide (ifs.length ≤ 1) && decide (ifs1.length ≤ 1)) && chkE N calm fl elt (relS scope sc) el)))))))) = true := by
  unfold chkE at h
  split at h
  all_goals first | contradiction | (cases h; done) | skip
  rename_i hh
  cases hh
  exact ⟨_, _, _, _, _, _, _, _, _, _, _, rfl, h⟩
theorem i_int {n : Int} (h : chkE N calm fl (.int n) sc e = true) : ∃ z a p, e = .Constant (.int z) a p ∧ decide (n = z) = true := by
  unfold chkE at h
  split at h
  all_goals first | contradiction | (cases h; done) | skip
  rename_i hh
  cases hh
  exact ⟨_, _, _, rfl, h⟩
theorem i_bl {b : Bool} (h : chkE N calm fl (.bl b) sc e = true) : ∃ z a p, e = .Constant (.bool z) a p ∧ (b == z) = true := by
  unfold chkE at h
  split at h
  all_goals first | contradiction | (cases h; done) | skip
  rename_i hh
  cases hh
  exact ⟨_, _, _, rfl, h⟩
theorem i_non  (h : chkE N calm fl (.non) sc e = true) : ∃ a p, e = .Constant .none a p ∧ true = true := by
  unfold chkE at h
  split at h
  all_goals first | contradiction | (cases h; done) | skip
  exact ⟨_, _, rfl, h⟩
theorem i_str {x : String} (h : chkE N calm fl (.str x) sc e = true) : ∃ z a p, e = .Constant (.str z) a p ∧ decide (z = Str.ofString x) = true := by
  unfold chkE at h
  split at h
  all_goals first | contradiction | (cases h; done) | skip
  rename_i hh
  cases hh
  exact ⟨_, _, _, rfl, h⟩
theorem i_gint {x : String} {n : Int} (h : chkE N calm fl (.gint x n) sc e = true) : ∃ y p, e = .Name y p ∧ (decide (y = Str.ofString x) && gl sc y) = true := by
  unfold chkE at h
  split at h
  all_goals first | contradiction | (cases h; done) | skip
  rename_i hh
  cases hh
  exact ⟨_, _, rfl, h⟩
theorem i_bin {op : Operator} {a b : E} (h : chkE N calm fl (.bin op a b) sc e = true) : ∃ l o r p, e = .BinOp l o r p ∧ (decide (op = o) && (chkE N calm fl a sc l && chkE N calm fl b sc r)) = true := by
  unfold chkE at h
  split at h
  all_goals first | contradiction | (cases h; done) | skip
  rename_i hh
  cases hh
  exact ⟨_, _, _, _, rfl, h⟩
theorem i_neg {a : E} (h : chkE N calm fl (.neg a) sc e = true) : ∃ x p, e = .UnaryOp .USub x p ∧ chkE N calm fl a sc x = true := by
  unfold chkE at h
  split at h
  all_goals first | contradiction | (cases h; done) | skip
  rename_i hh
  cases hh
  exact ⟨_, _, rfl, h⟩
theorem i_oeq {c : String} {a b : E} (h : chkE N calm fl (.oeq c a b) sc e = true) : ∃ l o r p, e = .Compare l [o] [r] p ∧ (calm && (decide (o = .Eq) && (chkE N calm fl a sc l && chkE N calm fl b sc r))) = true := by
  unfold chkE at h
  split at h
  all_goals first | contradiction | (cases h; done) | skip
  rename_i hh
  cases hh
  exact ⟨_, _, _, _, rfl, h⟩
theorem i_cmp {op : CmpOp} {a b : E} (h : chkE N calm fl (.cmp op a b) sc e = true) : ∃ l o r p, e = .Compare l [o] [r] p ∧ (decide (op = o) && (nset r && (chkE N calm fl a sc l && chkE N calm fl b sc r))) = true := by
  unfold chkE at h
  split at h
  all_goals first | contradiction | (cases h; done) | skip
  rename_i hh
  cases hh
  exact ⟨_, _, _, _, rfl, h⟩
theorem i_bop {c : Bool} {es : Es} (h : chkE N calm fl (.bop c es) sc e = true) : ∃ op vs p, e = .BoolOp op vs p ∧ ((match op with | .And => c | .Or => !c) && chkEs N calm fl es sc vs) = true := by
  unfold chkE at h
  split at h
  all_goals first | contradiction | (cases h; done) | skip
  rename_i hh
  cases hh
  exact ⟨_, _, _, rfl, h⟩
theorem i_chn {o1 o2 : CmpOp} {a b d : E} (h : chkE N calm fl (.chn o1 o2 a b d) sc e = true) : ∃ l p1 p2 r1 r2 p, e = .Compare l [p1, p2] [r1, r2] p ∧ (decide (o1 = p1) && (decide (o2 = p2) && (nset r2 && (chkE N calm fl a sc l && (chkE N calm fl b sc r1 && chkE N calm fl d sc r2))))) = true := by
  unfold chkE at h
  split at h
  all_goals first | contradiction | (cases h; done) | skip
  rename_i hh
  cases hh
  exact ⟨_, _, _, _, _, _, rfl, h⟩
theorem i_din {n : Bool} {a b : E} (h : chkE N calm fl (.din n a b) sc e = true) : ∃ l o r p, e = .Compare l [o] [r] p ∧ (decide (o = bif n then .NotIn else .In) && (nset r && (chkE N calm fl a sc l && chkE N calm fl b sc r))) = true := by
  unfold chkE at h
  split at h
  all_goals first | contradiction | (cases h; done) | skip
  rename_i hh
  cases hh
  exact ⟨_, _, _, _, rfl, h⟩
theorem i_ice {a : E} (h : chkE N calm fl (.ice a) sc e = true) : chkE N calm fl a sc e = true := by
  unfold chkE at h
  exact h
theorem i_nt {a : E} (h : chkE N calm fl (.nt a) sc e = true) : ∃ x p, e = .UnaryOp .Not x p ∧ chkE N calm fl a sc x = true := by
  unfold chkE at h
  split at h
  all_goals first | contradiction | (cases h; done) | skip
  rename_i hh
  cases hh
  exact ⟨_, _, rfl, h⟩
theorem i_ite {c a b : E} (h : chkE N calm fl (.ite c a b) sc e = true) : ∃ t x y p, e = .IfExp t x y p ∧ (chkE N calm fl c sc t && (chkE N calm fl a sc x && chkE N calm fl b sc y)) = true := by
  unfold chkE at h
  split at h
  all_goals first | contradiction | (cases h; done) | skip
  rename_i hh
  cases hh
  exact ⟨_, _, _, _, rfl, h⟩
theorem i_tup {es : Es} (h : chkE N calm fl (.tup es) sc e = true) : ∃ xs k p, e = .Tuple xs k p ∧ (decide (esLen es ≤ 1000) && chkEs N calm fl es sc xs) = true := by
  unfold chkE at h
  split at h
  all_goals first | contradiction | (cases h; done) | skip
  rename_i hh
  cases hh
  exact ⟨_, _, _, rfl, h⟩
theorem i_lst {es : Es} (h : chkE N calm fl (.lst es) sc e = true) : ∃ xs p, e = .List xs p ∧ (decide (esLen es ≤ 1000) && chkEs N calm fl es sc xs) = true := by
  unfold chkE at h
  split at h
  all_goals first | contradiction | (cases h; done) | skip
  rename_i hh
  cases hh
  exact ⟨_, _, rfl, h⟩
theorem i_idx {a b : E} (h : chkE N calm fl (.idx a b) sc e = true) : ∃ x y p, e = .Subscript x y p ∧ (nsl y && (chkE N calm fl a sc x && chkE N calm fl b sc y)) = true := by
  unfold chkE at h
  split at h
  all_goals first | contradiction | (cases h; done) | skip
  rename_i hh
  cases hh
  exact ⟨_, _, _, rfl, h⟩
theorem i_slc {a : E} {lo hi : Ox} (h : chkE N calm fl (.slc a lo hi) sc e = true) : ∃ x l h p q, e = .Subscript x (.Slice l h none p) q ∧ (chkE N calm fl a sc x && (chkO N calm fl lo sc l && chkO N calm fl hi sc h)) = true := by
  unfold chkE at h
  split at h
  all_goals first | contradiction | (cases h; done) | skip
  rename_i hh
  cases hh
  exact ⟨_, _, _, _, _, rfl, h⟩
theorem i_call {f : String} {es : Es} (h : chkE N calm fl (.call f es) sc e = true) : ∃ x p args q, e = .Call (.Name x p) args [] q ∧ (calm && (fl.contains f && (decide (x = Str.ofString f) && (gl sc x && chkEs N calm fl es sc args)))) = true := by
  unfold chkE at h
  split at h
  all_goals first | contradiction | (cases h; done) | skip
  rename_i hh
  cases hh
  exact ⟨_, _, _, _, rfl, h⟩
theorem i_blt {f : Bf} {es : Es} (h : chkE N calm fl (.blt f es) sc e = true) : ∃ x p a args q, e = .Call (.Name x p) (a :: args) [] q ∧ ((calm || decide (f = .len)) && (decide (x = Str.ofString (bfN f)) && (gl sc x && chkEs N calm fl es sc (a :: args)))) = true := by
  unfold chkE at h
  split at h
  all_goals first | contradiction | (cases h; done) | skip
  rename_i hh
  cases hh
  exact ⟨_, _, _, _, _, rfl, h⟩
theorem i_lset {a : E} (h : chkE N calm fl (.lset a) sc e = true) : ∃ x p y p2 e1 q q2, e = .Call (.Name x p) [.Call (.Name y p2) [e1] [] q] [] q2 ∧ (calm && (decide (x = Str.ofString "len") && (decide (y = Str.ofString "set") && (gl sc x && (gl sc y && (nst e1 && chkE N calm fl a sc e1)))))) = true := by
  unfold chkE at h
  split at h
  all_goals first | contradiction | (cases h; done) | skip
  rename_i hh
  cases hh
  exact ⟨_, _, _, _, _, _, _, rfl, h⟩
theorem i_fld {a : E} {f : String} (h : chkE N calm fl (.fld a f) sc e = true) : ∃ e1 fn p, e = .Attribute e1 fn p ∧ (nab e1 && (decide (fn = Str.ofString f) && chkE N calm fl a sc e1)) = true := by
  unfold chkE at h
  split at h
  all_goals first | contradiction | (cases h; done) | skip
  rename_i hh
  cases hh
  exact ⟨_, _, _, rfl, h⟩
theorem i_meth {c m : String} {a : E} {es : Es} (h : chkE N calm fl (.meth c m a es) sc e = true) : ∃ e1 mn ap args cp, e = .Call (.Attribute e1 mn ap) args [] cp ∧ (calm && (nab e1 && (decide (mn = Str.ofString m) && ((ap.endLine == cp.line) && (chkE N calm fl a sc e1 && (decide (args.length < 9) && chkEs N calm fl es sc args)))))) = true := by
  unfold chkE at h
  split at h
  all_goals first | contradiction | (cases h; done) | skip
  rename_i hh
  cases hh
  exact ⟨_, _, _, _, _, rfl, h⟩
theorem i_new {c : String} {es : Es} (h : chkE N calm fl (.new c es) sc e = true) : ∃ x p a args q, e = .Call (.Name x p) (a :: args) [] q ∧ (calm && (decide (x = Str.ofString c) && (gl sc x && chkEs N calm fl es sc (a :: args)))) = true := by
  unfold chkE at h
  split at h
  all_goals first | contradiction | (cases h; done) | skip
  rename_i hh
  cases hh
  exact ⟨_, _, _, _, _, rfl, h⟩
theorem i_isi {a : E} {ts : List String} (h : chkE N calm fl (.isi a ts) sc e = true) : ∃ x p e1 t q, e = .Call (.Name x p) [e1, t] [] q ∧ (decide (x = Str.ofString "isinstance") && (gl sc x && (nst e1 && (nst t && (chkE N calm fl a sc e1 && (match t with | .Tuple es _ _ => decide (es.length ≤ 1000) && chkTl sc ts es | t => chkTs sc ts t)))))) = true := by
  unfold chkE at h
  split at h
  all_goals first | contradiction | (cases h; done) | skip
  rename_i hh
  cases hh
  exact ⟨_, _, _, _, _, rfl, h⟩
theorem i_lrg {es : Es} (h : chkE N calm fl (.lrg es) sc e = true) : ∃ x p y p2 args q q2, e = .Call (.Name x p) [.Call (.Name y p2) args [] q] [] q2 ∧ (calm && (decide (x = Str.ofString "list") && (decide (y = Str.ofString "range") && (gl sc x && (gl sc y && ((args.length == 1 || args.length == 2) && chkEs N calm fl es sc args)))))) = true := by
  unfold chkE at h
  split at h
  all_goals first | contradiction | (cases h; done) | skip
  rename_i hh
  cases hh
  exact ⟨_, _, _, _, _, _, _, rfl, h⟩
theorem i_mut {m : Mm} {i : Nat} {es : Es} (h : chkE N calm fl (.mut m i es) sc e = true) : ∃ x p f ap args cp, e = .Call (.Attribute (.Name x p) f ap) args [] cp ∧ (slotIs N i x && (vis sc x && (!(x == ("__debug__" : Str)) && (!(x == ("__classdict__" : Str)) && (decide (f = Str.ofString (mmN m)) && ((ap.endLine == cp.line) && (chkEs N calm fl es sc args && decide (args.length < 9)))))))) = true := by
  unfold chkE at h
  split at h
  all_goals first | contradiction | (cases h; done) | skip
  rename_i hh
  cases hh
  exact ⟨_, _, _, _, _, _, rfl, h⟩
theorem i_lc {tg : List Nat} {src : Src} {cs : Es} {elt : E} (h : chkE N calm fl (.lc tg src cs elt) sc e = true) : ∃ el t it ifs a scope p, e = .ListComp el [⟨t, it, ifs, a⟩] scope p ∧ (calm && (decide (a = 0) && (blkC N sc scope (ownOf N tg) && (chkTgt N scope.names tg t && (nset it && (chkS N calm fl src sc it && (chkEs N calm fl cs (relS scope sc) ifs && (decide (ifs.length ≤ 1) && chkE N calm fl elt (relS scope sc) el)))))))) = true := by
  unfold chkE at h
  split at h
  all_goals first | contradiction | (cases h; done) | skip
  rename_i hh
  cases hh
  exact ⟨_, _, _, _, _, _, _, rfl, h⟩
theorem i_es0 {xs : List Expr} (h : chkEs N calm fl .nil sc xs = true) : xs = [] := by
  cases xs with
  | nil => rfl
  | cons _ _ => unfold chkEs at h; cases h
theorem i_es1 {m : E} {ms : Es} {xs : List Expr} (h : chkEs N calm fl (.cons m ms) sc xs = true) : ∃ x ys, xs = x :: ys ∧ nst x = true ∧ chkE N calm fl m sc x = true ∧ chkEs N calm fl ms sc ys = true := by
  cases xs with
  | nil => unfold chkEs at h; cases h
  | cons x ys =>
    unfold chkEs at h
    obtain ⟨h1, h2⟩ := and2 h
    obtain ⟨h3, h4⟩ := and2 h1
    exact ⟨x, ys, rfl, h3, h4, h2⟩
theorem i_ess : ∀ {ms : Es} {xs : List Expr}, chkEs N calm fl ms sc xs = true → xs.all nst = true ∧ esLen ms = xs.length
  | .nil, xs, h => by rw [i_es0 h]; exact ⟨rfl, rfl⟩
  | .cons m ms, xs, h => by
    obtain ⟨x, ys, rfl, h1, h2, h3⟩ := i_es1 h
    obtain ⟨k1, k2⟩ := i_ess h3
    exact ⟨by rw [List.all_cons, h1, k1]; rfl, by rw [esLen, List.length_cons, k2]⟩
theorem i_ono {o : Option Expr} (h : chkO N calm fl .no sc o = true) : o = none := by
  cases o with
  | none => rfl
  | some _ => unfold chkO at h; cases h
theorem i_oso {m : E} {o : Option Expr} (h : chkO N calm fl (.so m) sc o = true) : ∃ x, o = some x ∧ chkE N calm fl m sc x = true := by
  cases o with
  | none => unfold chkO at h; cases h
  | some x => unfold chkO at h; exact ⟨x, rfl, h⟩
theorem i_sit {m : E} (h : chkS N calm fl (.it m) sc e = true) : chkE N calm fl m sc e = true := by unfold chkS at h; exact h
theorem i_srng {ms : Es} (h : chkS N calm fl (.rng ms) sc e = true) : ∃ x p args q, e = .Call (.Name x p) args [] q ∧ (decide (x = Str.ofString "range") && (gl sc x && ((args.length == 1 || args.length == 2) && chkEs N calm fl ms sc args))) = true := by
  unfold chkS at h
  split at h
  all_goals first | contradiction | (cases h; done) | skip
  rename_i hh
  cases hh
  exact ⟨_, _, _, _, rfl, h⟩
theorem i_srdn {ms : Es} (h : chkS N calm fl (.rdn ms) sc e = true) : ∃ x p args q, e = .Call (.Name x p) args [] q ∧ (decide (x = Str.ofString "range") && (gl sc x && (args.length == 3 && chkEs N calm fl ms sc args))) = true := by
  unfold chkS at h
  split at h
  all_goals first | contradiction | (cases h; done) | skip
  rename_i hh
  cases hh
  exact ⟨_, _, _, _, rfl, h⟩
theorem i_srev {m : E} (h : chkS N calm fl (.rev m) sc e = true) : ∃ x p a q, e = .Call (.Name x p) [a] [] q ∧ (decide (x = Str.ofString "reversed") && (gl sc x && (nst a && chkE N calm fl m sc a))) = true := by
  unfold chkS at h
  split at h
  all_goals first | contradiction | (cases h; done) | skip
  rename_i hh
  cases hh
  exact ⟨_, _, _, _, rfl, h⟩
end
end Pf

/-! What the checks let pass keeps its word. -/
namespace Pf
open PySem PySem.Spec PyProof.Rows L2
/-- an expression in all its uses -/
structure OkE (g : Str → Addr) (G : Gb) (W : WX) (X : Cx) (e : Expr) (m : E) : Prop where
  pe : PE X e (tE X.K g G W m)
  pr : PE X e (tR X.K g G W m)
  pt : PT X e (tT X.K g G W m)
section
variable {G : Gb} {g : Str → Addr} {k : Nat} {N : List Str} {calm : Bool} {fl : List String}
theorem OkE.mk' {W : WX} {X : Cx} {e : Expr} {m : E} (h : ∀ i, m ≠ .var i) (pe : PE X e (tE X.K g G W m)) (he : ∀ whole, isTrue e X.env whole = (do let v ← whole; standAt e.pos; holding [v] (truthy v))) : OkE g G W X e m := ⟨pe, s_R h pe, t_val pe he⟩
theorem t_ite {W : WX} {X : Cx} {c a b : Expr} {p : Pos} {mc ma mb : E} (hc : PT X c (tT X.K g G W mc)) (ha : PT X a (tT X.K g G W ma)) (hb : PT X b (tT X.K g G W mb)) : PT X (.IfExp c a b p) (tT X.K g G W (.ite mc ma mb)) := by
  refine ⟨fun pins s σ H Q I ⟨B, en, rs, vs, Xp, Q0, hs, hx, he, hq⟩ => ?_⟩
  unfold ev at he
  show wpAny _ _ (do if ← isTrue c X.env (eval c X.env) then isTrue a X.env (eval a X.env) else isTrue b X.env (eval b X.env)) _ _ s
  let Q1 : Bool → En → Prop := fun t e1 => if t = true then ev G ma e1 (fun d e => ∃ b, d = .bl b ∧ Q0 b e) Xp else ev G mb e1 (fun d e => ∃ b, d = .bl b ∧ Q0 b e) Xp
  refine wpAny_bind (thn (hc.run pins s σ H (fun t H' => ∃ e1, Q1 t e1 ∧ ST X.K g B e1 rs σ vs H') I ⟨B, en, rs, vs, Xp, Q1, hs, hx, he, fun t e H' h1 s1 => ⟨e, h1, s1⟩⟩) fun t s1 ⟨H1, I1, e1, q1, s1'⟩ => ?_)
  cases t with
  | true => exact ha.run pins s1 σ H1 Q I1 ⟨B, e1, rs, vs, Xp, Q0, s1', hx, q1, hq⟩
  | false => exact hb.run pins s1 σ H1 Q I1 ⟨B, e1, rs, vs, Xp, Q0, s1', hx, q1, hq⟩
mutual
theorem okE (hcal : calm = true → ∀ f ∈ fl, (G.fns f).isSome = true) : ∀ (m : E) {sc : Scope} {W : WX} {X : Cx} {e : Expr}, Ct G g k sc N W X → (calm = true → X.calm = true) → chkE N calm fl m sc e = true → OkE g G W X e m
  | .var i, sc, W, X, e, c, hc, h => by
    obtain ⟨x, p, rfl, h1⟩ := i_var h
    exact ⟨s_var c h1, s_varR c h1, t_val (s_var c h1) fun _ => rfl⟩
  | .fv i, sc, W, X, e, c, hc, h => by
    obtain ⟨x, p, rfl, h1⟩ := i_fv h
    have pe : PE X (.Name x p) (tE X.K g G W (.fv i)) := (s_var c h1).im fun σ H Q ⟨B, en, rs, vs, Xp, Q0, hs, hx, he, hq⟩ => by
      unfold ev at he
      exact ⟨B, en, rs, vs, Xp, Q0, hs, hx, by unfold ev; exact he, hq⟩
    exact .mk' (fun _ h => nomatch h) pe fun _ => rfl
  | .int n, sc, W, X, e, c, hc, h => by
    obtain ⟨z, a, p, rfl, h1⟩ := i_int h
    cases of_decide_eq_true h1
    exact .mk' (fun _ h => nomatch h) (s_flat (d := .int n) (v := .int n) pe_int (fun en Q Xp he => by unfold ev at he; exact he) fun Z H => .int n) fun _ => rfl
  | .bl b, sc, W, X, e, c, hc, h => by
    obtain ⟨z, a, p, rfl, h1⟩ := i_bl h
    have e1 : b = z := by simpa using h1
    subst e1
    exact .mk' (fun _ h => nomatch h) (s_flat (d := .bl b) (v := .bl b) pe_bl (fun en Q Xp he => by unfold ev at he; exact he) fun Z H => .bl b) fun _ => rfl
  | .non, sc, W, X, e, c, hc, h => by
    obtain ⟨a, p, rfl, h1⟩ := i_non h
    exact .mk' (fun _ h => nomatch h) (s_flat (d := .non) (v := .non) pe_non (fun en Q Xp he => by unfold ev at he; exact he) fun Z H => .non) fun _ => rfl
  | .str x, sc, W, X, e, c, hc, h => by
    obtain ⟨z, a, p, rfl, h1⟩ := i_str h
    cases of_decide_eq_true h1
    exact .mk' (fun _ h => nomatch h) (s_flat (d := .str (Str.ofString x)) (v := .str (Str.ofString x)) pe_str (fun en Q Xp he => by unfold ev at he; exact he) fun Z H => .str _) fun _ => rfl
  | .gint x n, sc, W, X, e, c, hc, h => by
    obtain ⟨y, p, rfl, h1⟩ := i_gint h
    obtain ⟨h2, h3⟩ := and2 h1
    cases of_decide_eq_true h2
    by_cases hn : G.cints x = some n
    · obtain ⟨⟨t, k1⟩, k2⟩ := c.ok.cint x n hn
      exact .mk' (fun _ h => nomatch h) (s_flat (d := .int n) (v := .int n) (pe_glob (c.gl h3) k1 ⟨t, rfl⟩ k2) (fun en Q Xp he => by unfold ev at he; exact he.2) fun Z H => .int n) fun _ => rfl
    · have pe : PE X (.Name (Str.ofString x) p) (tE X.K g G W (.gint x n)) := ⟨fun pins s σ H Q I ⟨B, en, rs, vs, Xp, Q0, hs, hx, he, hq⟩ => by unfold ev at he; exact absurd he.1 hn⟩
      exact .mk' (fun _ h => nomatch h) pe fun _ => rfl
  | .bin op a b, sc, W, X, e, c, hc, h => by
    obtain ⟨l, o, r, p, rfl, h1⟩ := i_bin h
    obtain ⟨h2, h3⟩ := and2 h1
    obtain ⟨h4, h5⟩ := and2 h3
    cases of_decide_eq_true h2
    exact .mk' (fun _ h => nomatch h) (s_bin (okE hcal a c hc h4).pr (okE hcal b c hc h5).pr) fun _ => rfl
  | .neg a, sc, W, X, e, c, hc, h => by
    obtain ⟨x, p, rfl, h1⟩ := i_neg h
    exact .mk' (fun _ h => nomatch h) (s_neg (okE hcal a c hc h1).pe) fun _ => rfl
  | .cmp op a b, sc, W, X, e, c, hc, h => by
    obtain ⟨l, o, r, p, rfl, h1⟩ := i_cmp h
    obtain ⟨h2, h3⟩ := and2 h1
    obtain ⟨h4, h5⟩ := and2 h3
    obtain ⟨h6, h7⟩ := and2 h5
    cases of_decide_eq_true h2
    have pe := s_cmp c (p := p) (op := op) h4 (okE hcal a c hc h6).pr (okE hcal b c hc h7).pr
    exact ⟨pe, s_R (fun _ h => nomatch h) pe, t_cmp c h4 (okE hcal a c hc h6).pr (okE hcal b c hc h7).pr⟩
  | .oeq cn a b, sc, W, X, e, c, hc, h => by
    obtain ⟨l, o, r, p, rfl, h1⟩ := i_oeq h
    obtain ⟨h2, h3⟩ := and2 h1
    obtain ⟨h4, h5⟩ := and2 h3
    obtain ⟨h6, h7⟩ := and2 h5
    cases of_decide_eq_true h4
    have pe := s_oeq c (p := p) (cn := cn) (hc h2) (okE hcal a c hc h6).pr (okE hcal b c hc h7).pr
    exact ⟨pe, s_R (fun _ h => nomatch h) pe, t_oeq c (hc h2) (okE hcal a c hc h6).pr (okE hcal b c hc h7).pr⟩
  | .bop cc es, sc, W, X, e, c, hc, h => by
    obtain ⟨op, vs, p, rfl, h1⟩ := i_bop h
    obtain ⟨h2, h3⟩ := and2 h1
    have e1 : op = opOf cc := by cases op <;> cases cc <;> first | rfl | cases h2
    subst e1
    obtain ⟨k1, k2⟩ := okB hcal es cc (p := p) c hc h3
    have pe : PE X (.BoolOp (opOf cc) vs p) (tE X.K g G W (.bop cc es)) := k1.im fun σ H Q ⟨B, en, rs, vs, Xp, Q0, hs, hx, he, hq⟩ => by
      unfold ev at he
      exact ⟨B, en, rs, vs, Xp, Q0, hs, hx, he, hq⟩
    refine ⟨pe, s_R (fun _ h => nomatch h) pe, k2.pt.im fun σ H Q ⟨B, en, rs, vs, Xp, Q0, hs, hx, he, hq⟩ => ?_⟩
    unfold ev at he
    exact ⟨B, en, rs, vs, Xp, Q0, hs, hx, he, hq⟩
  | .chn o1 o2 a b d, sc, W, X, e, c, hc, h => by
    obtain ⟨l, p1, p2, r1, r2, p, rfl, h⟩ := i_chn h
    obtain ⟨h1, h⟩ := and2 h
    obtain ⟨h2, h⟩ := and2 h
    obtain ⟨h3, h⟩ := and2 h
    obtain ⟨h4, h⟩ := and2 h
    obtain ⟨h5, h6⟩ := and2 h
    cases of_decide_eq_true h1
    cases of_decide_eq_true h2
    have pe := s_chn c (p := p) (o1 := o1) (o2 := o2) h3 (okE hcal a c hc h4).pe (okE hcal b c hc h5).pe (okE hcal d c hc h6).pe
    exact ⟨pe, s_R (fun _ h => nomatch h) pe, t_chn c h3 (okE hcal a c hc h4).pe (okE hcal b c hc h5).pe (okE hcal d c hc h6).pe⟩
  | .din n a b, sc, W, X, e, c, hc, h => by
    obtain ⟨l, o, r, p, rfl, h⟩ := i_din h
    obtain ⟨h1, h⟩ := and2 h
    obtain ⟨h2, h⟩ := and2 h
    obtain ⟨h3, h4⟩ := and2 h
    cases of_decide_eq_true h1
    have pe := s_din c (p := p) (n := n) h2 (okE hcal a c hc h3).pr (okE hcal b c hc h4).pr
    exact ⟨pe, s_R (fun _ h => nomatch h) pe, t_din c h2 (okE hcal a c hc h3).pr (okE hcal b c hc h4).pr⟩
  | .ice a, sc, W, X, e, c, hc, h => by
    have k := okE hcal a c hc (i_ice h)
    have pe : PE X e (tE X.K g G W (.ice a)) := k.pe.im fun σ H Q ⟨B, en, rs, vs, Xp, Q0, hs, hx, he, hq⟩ => by
      unfold ev at he
      exact ⟨B, en, rs, vs, Xp, _, hs, hx, he, fun d en' v H' q s => hq _ en' v H' q s.freezeT⟩
    refine ⟨pe, s_R (fun _ h => nomatch h) pe, k.pt.im fun σ H Q ⟨B, en, rs, vs, Xp, Q0, hs, hx, he, hq⟩ => ?_⟩
    unfold ev at he
    refine ⟨B, en, rs, vs, Xp, Q0, hs, hx, ?_, hq⟩
    have e1 : (fun (x : D) (e1 : En) => ∃ b, frz x = .bl b ∧ Q0 b e1) = fun (x : D) (e1 : En) => ∃ b, x = .bl b ∧ Q0 b e1 := by
      funext x e1
      refine propext ⟨?_, ?_⟩
      · rintro ⟨b, h1, h2⟩
        refine ⟨b, ?_, h2⟩
        cases x <;> simp [frz] at h1 ⊢ <;> exact h1
      · rintro ⟨b, rfl, h2⟩
        exact ⟨b, by simp [frz], h2⟩
    rw [e1] at he
    exact he
  | .nt a, sc, W, X, e, c, hc, h => by
    obtain ⟨x, p, rfl, h1⟩ := i_nt h
    have pe := s_nt (p := p) (okE hcal a c hc h1).pe
    exact ⟨pe, s_R (fun _ h => nomatch h) pe, t_nt (okE hcal a c hc h1).pt⟩
  | .ite t a b, sc, W, X, e, c, hc, h => by
    obtain ⟨t', x, y, p, rfl, h1⟩ := i_ite h
    obtain ⟨h2, h3⟩ := and2 h1
    obtain ⟨h4, h5⟩ := and2 h3
    have pe := s_ite (p := p) (okE hcal t c hc h2).pt (okE hcal a c hc h4).pe (okE hcal b c hc h5).pe
    exact ⟨pe, s_R (fun _ h => nomatch h) pe, t_ite (okE hcal t c hc h2).pt (okE hcal a c hc h4).pt (okE hcal b c hc h5).pt⟩
  | .tup es, sc, W, X, e, c, hc, h => by
    obtain ⟨xs, kk, p, rfl, h1⟩ := i_tup h
    obtain ⟨h2, h3⟩ := and2 h1
    exact .mk' (fun _ h => nomatch h) (s_tup (okV hcal es c hc h3) (of_decide_eq_true h2)) fun _ => rfl
  | .lst es, sc, W, X, e, c, hc, h => by
    obtain ⟨xs, p, rfl, h1⟩ := i_lst h
    obtain ⟨h2, h3⟩ := and2 h1
    exact .mk' (fun _ h => nomatch h) (s_lst (okV hcal es c hc h3) (of_decide_eq_true h2)) fun _ => rfl
  | .idx a b, sc, W, X, e, c, hc, h => by
    obtain ⟨x, y, p, rfl, h1⟩ := i_idx h
    obtain ⟨h2, h3⟩ := and2 h1
    obtain ⟨h4, h5⟩ := and2 h3
    exact .mk' (fun _ h => nomatch h) (s_idx c h2 (okE hcal a c hc h4).pr (okE hcal b c hc h5).pe) fun _ => rfl
  | .slc a lo hi, sc, W, X, e, c, hc, h => by
    obtain ⟨x, l, u, p, q, rfl, h1⟩ := i_slc h
    obtain ⟨h2, h3⟩ := and2 h1
    obtain ⟨h4, h5⟩ := and2 h3
    exact .mk' (fun _ h => nomatch h) (s_slc (okE hcal a c hc h2).pr (okO hcal lo c hc h4) (okO hcal hi c hc h5)) fun _ => rfl
  | .call f es, sc, W, X, e, c, hc, h => by
    obtain ⟨x, p, args, q, rfl, h1⟩ := i_call h
    obtain ⟨h2, h3⟩ := and2 h1
    obtain ⟨h4, h5⟩ := and2 h3
    obtain ⟨h6, h7⟩ := and2 h5
    obtain ⟨h8, h9⟩ := and2 h7
    have hn := i_ess h9
    refine .mk' (fun _ h => nomatch h) (s_call c (hc h2) (hcal h2 f (by simpa using h4)) (of_decide_eq_true h6) h8 hn.1 (fun e => ?_) (okA hcal es c hc h9)) fun _ => rfl
    subst e
    cases es with
    | nil => rfl
    | cons _ _ => have := hn.2; simp [esLen] at this
  | .blt f es, sc, W, X, e, c, hc, h => by
    obtain ⟨x, p, a, args, q, rfl, h1⟩ := i_blt h
    obtain ⟨h2, h3⟩ := and2 h1
    obtain ⟨h4, h5⟩ := and2 h3
    obtain ⟨h6, h7⟩ := and2 h5
    have hn := i_ess h7
    refine .mk' (fun _ h => nomatch h) (s_blt c ?_ (of_decide_eq_true h4) h6 hn.1 (okA hcal es c hc h7)) fun _ => rfl
    rw [Bool.or_eq_true] at h2
    exact h2.imp hc of_decide_eq_true
  | .isi a ts, sc, W, X, e, c, hc, h => by
    obtain ⟨x, p, e1, t, q, rfl, h1⟩ := i_isi h
    obtain ⟨h2, h3⟩ := and2 h1
    obtain ⟨h4, h5⟩ := and2 h3
    obtain ⟨h6, h7⟩ := and2 h5
    obtain ⟨h8, h9⟩ := and2 h7
    obtain ⟨h10, h11⟩ := and2 h9
    have ha := (okE hcal a c hc h10).pr
    split at h11
    · obtain ⟨h12, h13⟩ := and2 h11
      exact .mk' (fun _ h => nomatch h) (s_isiT c (of_decide_eq_true h2) h4 h6 (of_decide_eq_true h12) h13 ha) fun _ => rfl
    · exact .mk' (fun _ h => nomatch h) (s_isi1 c (of_decide_eq_true h2) h4 h6 h11 ha) fun _ => rfl
  | .fld a f, sc, W, X, e, c, hc, h => by
    obtain ⟨e1, fn, p, rfl, h1⟩ := i_fld h
    obtain ⟨h2, h3⟩ := and2 h1
    obtain ⟨h4, h5⟩ := and2 h3
    exact .mk' (fun _ h => nomatch h) (s_fld c (of_decide_eq_true h4) h2 (okE hcal a c hc h5).pr) fun _ => rfl
  | .meth cn m a es, sc, W, X, e, c, hc, h => by
    obtain ⟨e1, mn, ap, args, cp, rfl, h1⟩ := i_meth h
    obtain ⟨h2, h3⟩ := and2 h1
    obtain ⟨h4, h5⟩ := and2 h3
    obtain ⟨h6, h7⟩ := and2 h5
    obtain ⟨h8, h9⟩ := and2 h7
    obtain ⟨h10, h11⟩ := and2 h9
    obtain ⟨h12, h13⟩ := and2 h11
    have hn := i_ess h13
    refine .mk' (fun _ h => nomatch h) (s_meth c (hc h2) (of_decide_eq_true h6) h4 h8 hn.1 (of_decide_eq_true h12) (fun e => ?_) (okE hcal a c hc h10).pr (okA hcal es c hc h13)) fun _ => rfl
    subst e
    cases es with
    | nil => rfl
    | cons _ _ => have := hn.2; simp [esLen] at this
  | .new cn es, sc, W, X, e, c, hc, h => by
    obtain ⟨x, p, a, args, q, rfl, h1⟩ := i_new h
    obtain ⟨h2, h3⟩ := and2 h1
    obtain ⟨h4, h5⟩ := and2 h3
    obtain ⟨h6, h7⟩ := and2 h5
    have hn := i_ess h7
    exact .mk' (fun _ h => nomatch h) (s_new c (hc h2) (of_decide_eq_true h4) h6 hn.1 (okA hcal es c hc h7)) fun _ => rfl
  | .cm cn m es, sc, W, X, e, c, hc, h => by
    obtain ⟨x, p, mn, ap, a, args, cp, rfl, h1⟩ := i_cm h
    obtain ⟨h2, h3⟩ := and2 h1
    obtain ⟨h4, h5⟩ := and2 h3
    obtain ⟨h6, h7⟩ := and2 h5
    obtain ⟨h8, h9⟩ := and2 h7
    obtain ⟨h10, h11⟩ := and2 h9
    obtain ⟨h12, h13⟩ := and2 h11
    exact .mk' (fun _ h => nomatch h) (s_cm c (hc h2) (of_decide_eq_true h4) h6 (of_decide_eq_true h8) h10 (i_ess h13).1 (of_decide_eq_true h12) (okA hcal es c hc h13)) fun _ => rfl
  | .newv i cn es, sc, W, X, e, c, hc, h => by
    obtain ⟨x, p, a, args, q, rfl, h1⟩ := i_newv h
    obtain ⟨h2, h3⟩ := and2 h1
    obtain ⟨h4, h5⟩ := and2 h3
    exact .mk' (fun _ h => nomatch h) (s_newv c (hc h2) h4 (i_ess h5).1 (okA hcal es c hc h5)) fun _ => rfl
  | .isc a cn, sc, W, X, e, c, hc, h => by
    obtain ⟨x, p, e1, y, p2, q, rfl, h1⟩ := i_isc h
    obtain ⟨h2, h3⟩ := and2 h1
    obtain ⟨h4, h5⟩ := and2 h3
    obtain ⟨h6, h7⟩ := and2 h5
    obtain ⟨h8, h9⟩ := and2 h7
    obtain ⟨h10, h11⟩ := and2 h9
    exact .mk' (fun _ h => nomatch h) (s_isc c (of_decide_eq_true h2) h4 h6 (of_decide_eq_true h8) h10 (okE hcal a c hc h11).pr) fun _ => rfl
  | .cnt a b, sc, W, X, e, c, hc, h => by
    obtain ⟨e1, fn, ap, x, cp, rfl, h1⟩ := i_cnt h
    obtain ⟨h2, h3⟩ := and2 h1
    obtain ⟨h4, h5⟩ := and2 h3
    obtain ⟨h6, h7⟩ := and2 h5
    obtain ⟨h8, h9⟩ := and2 h7
    obtain ⟨h10, h11⟩ := and2 h9
    exact .mk' (fun _ h => nomatch h) (s_cnt c h2 (of_decide_eq_true h4) h6 h8 (okE hcal a c hc h10).pr (okE hcal b c hc h11).pe) fun _ => rfl
  | .lc2 tg src cs tg1 src1 cs1 elt, sc, W, X, e, c, hc, h => by
    obtain ⟨el, t, it, ifs, a, t1, it1, ifs1, a1, scope, p, rfl, h1⟩ := i_lc2 h
    obtain ⟨h2, h3⟩ := and2 h1
    obtain ⟨h4, h5⟩ := and2 h3
    obtain ⟨h4a, h4b⟩ := and2 h4
    obtain ⟨h6, h7⟩ := and2 h5
    obtain ⟨h8, h9⟩ := and2 h7
    obtain ⟨h8a, h8b⟩ := and2 h8
    obtain ⟨h10, h11⟩ := and2 h9
    obtain ⟨h10a, h10b⟩ := and2 h10
    obtain ⟨h12, h13⟩ := and2 h11
    obtain ⟨h12a, h12b⟩ := and2 h12
    obtain ⟨h14, h15⟩ := and2 h13
    obtain ⟨h14a, h14b⟩ := and2 h14
    obtain ⟨h16, h17⟩ := and2 h15
    obtain ⟨h16a, h16b⟩ := and2 h16
    cases of_decide_eq_true h4a
    cases of_decide_eq_true h4b
    exact .mk' (fun _ h => nomatch h) (s_lc2 c (hc h2) h6 h10a h10b (okI hcal src c hc h12a) (fun s H C cl fp => g_tg (X := X.blk s H scope (compEnvC scope cl C X.env) fp) (hc h2) c.hN c.nd (blk_k s H C cl fp) h8a)
      (fun s H C cl fp => okTs hcal cs (c.blk s H C cl fp) hc (of_decide_eq_true h16a) h14a)
      (fun s H C cl fp => okI hcal src1 (c.blk s H C cl fp) hc h12b)
      (fun s H C cl fp => g_tg (X := X.blk s H scope (compEnvC scope cl C X.env) fp) (hc h2) c.hN c.nd (blk_k s H C cl fp) h8b)
      (fun s H C cl fp => okTs hcal cs1 (c.blk s H C cl fp) hc (of_decide_eq_true h16b) h14b) (fun s H C cl fp => (okE hcal elt (c.blk s H C cl fp) hc h17).pe)) fun _ => rfl
  | .lset a, sc, W, X, e, c, hc, h => by
    obtain ⟨x, p, y, p2, e1, q, q2, rfl, h1⟩ := i_lset h
    obtain ⟨h2, h3⟩ := and2 h1
    obtain ⟨h4, h5⟩ := and2 h3
    obtain ⟨h6, h7⟩ := and2 h5
    obtain ⟨h8, h9⟩ := and2 h7
    obtain ⟨h10, h11⟩ := and2 h9
    obtain ⟨h12, h13⟩ := and2 h11
    exact .mk' (fun _ h => nomatch h) (s_lset c (hc h2) (of_decide_eq_true h4) (of_decide_eq_true h6) h8 h10 h12 (okE hcal a c hc h13).pr) fun _ => rfl
  | .lrg es, sc, W, X, e, c, hc, h => by
    obtain ⟨x, p, y, p2, args, q, q2, rfl, h1⟩ := i_lrg h
    obtain ⟨h2, h3⟩ := and2 h1
    obtain ⟨h4, h5⟩ := and2 h3
    obtain ⟨h6, h7⟩ := and2 h5
    obtain ⟨h8, h9⟩ := and2 h7
    obtain ⟨h10, h11⟩ := and2 h9
    obtain ⟨h12, h13⟩ := and2 h11
    refine .mk' (fun _ h => nomatch h) (s_lrg c (hc h2) (of_decide_eq_true h4) (of_decide_eq_true h6) h8 h10 (i_ess h13).1 ?_) fun _ => rfl
    match es, h13 with
    | .nil, h13 => rw [i_es0 h13] at h12; cases h12
    | .cons m .nil, h13 =>
      obtain ⟨a, ys, rfl, _, k2, k3⟩ := i_es1 h13
      cases i_es0 k3
      exact .inl ⟨a, m, rfl, rfl, (okE hcal m c hc k2).pe⟩
    | .cons m (.cons m2 .nil), h13 =>
      obtain ⟨a, ys, rfl, _, k2, k3⟩ := i_es1 h13
      obtain ⟨b, zs, rfl, _, k4, k5⟩ := i_es1 k3
      cases i_es0 k5
      exact .inr ⟨a, b, m, m2, rfl, rfl, (okE hcal m c hc k2).pe, (okE hcal m2 c hc k4).pe⟩
    | .cons m (.cons m2 (.cons m3 ms)), h13 =>
      obtain ⟨a, ys, rfl, _, k2, k3⟩ := i_es1 h13
      obtain ⟨b, zs, rfl, _, k4, k5⟩ := i_es1 k3
      obtain ⟨b3, zs3, rfl, _⟩ := i_es1 k5
      simp at h12
  | .mut m i es, sc, W, X, e, c, hc, h => by
    obtain ⟨x, p, f, ap, args, cp, rfl, h1⟩ := i_mut h
    obtain ⟨h2, h3⟩ := and2 h1
    obtain ⟨h4, h5⟩ := and2 h3
    obtain ⟨h6, h7⟩ := and2 h5
    obtain ⟨h8, h9⟩ := and2 h7
    obtain ⟨h10, h11⟩ := and2 h9
    obtain ⟨h12, h13⟩ := and2 h11
    obtain ⟨h14, h15⟩ := and2 h13
    have hn := i_ess h14
    refine .mk' (fun _ h => nomatch h) (s_mut c (by rw [h2, h4, h6, h8]; rfl) (of_decide_eq_true h10) h12 hn.1 (of_decide_eq_true h15) (okV hcal es c hc h14) fun e => ?_) fun _ => rfl
    subst e
    cases es with
    | nil => rfl
    | cons _ _ => have := hn.2; simp [esLen] at this
  | .lc tg src cs elt, sc, W, X, e, c, hc, h => by
    obtain ⟨el, t, it, ifs, a, scope, p, rfl, h1⟩ := i_lc h
    obtain ⟨h2, h3⟩ := and2 h1
    obtain ⟨h4, h5⟩ := and2 h3
    obtain ⟨h6, h7⟩ := and2 h5
    obtain ⟨h8, h9⟩ := and2 h7
    obtain ⟨h10, h11⟩ := and2 h9
    obtain ⟨h12, h13⟩ := and2 h11
    obtain ⟨h14, h15⟩ := and2 h13
    obtain ⟨h16, h17⟩ := and2 h15
    cases of_decide_eq_true h4
    exact .mk' (fun _ h => nomatch h) (s_lc c (hc h2) h6 h10 (okI hcal src c hc h12) (fun s H C cl fp => g_tg (X := X.blk s H scope (compEnvC scope cl C X.env) fp) (hc h2) c.hN c.nd (blk_k s H C cl fp) h8)
      (fun s H C cl fp => okTs hcal cs (c.blk s H C cl fp) hc (of_decide_eq_true h16) h14) (fun s H C cl fp => (okE hcal elt (c.blk s H C cl fp) hc h17).pe)) fun _ => rfl
theorem okA (hcal : calm = true → ∀ f ∈ fl, (G.fns f).isSome = true) : ∀ (ms : Es) {sc : Scope} {W : WX} {X : Cx} {es : List Expr}, Ct G g k sc N W X → (calm = true → X.calm = true) → chkEs N calm fl ms sc es = true → PA X es (tA X.K g G W ms)
  | .nil, sc, W, X, es, c, hc, h => by
    rw [i_es0 h]
    exact a_nil
  | .cons m ms, sc, W, X, es, c, hc, h => by
    obtain ⟨x, ys, rfl, h1, h2, h3⟩ := i_es1 h
    exact a_cons h1 (okE hcal m c hc h2).pr (okA hcal ms c hc h3)
theorem okV (hcal : calm = true → ∀ f ∈ fl, (G.fns f).isSome = true) : ∀ (ms : Es) {sc : Scope} {W : WX} {X : Cx} {es : List Expr}, Ct G g k sc N W X → (calm = true → X.calm = true) → chkEs N calm fl ms sc es = true → PA X es (tV X.K g G W ms)
  | .nil, sc, W, X, es, c, hc, h => by
    rw [i_es0 h]
    exact v_nil
  | .cons m ms, sc, W, X, es, c, hc, h => by
    obtain ⟨x, ys, rfl, h1, h2, h3⟩ := i_es1 h
    exact v_cons h1 (okE hcal m c hc h2).pe (okV hcal ms c hc h3)
theorem okO (hcal : calm = true → ∀ f ∈ fl, (G.fns f).isSome = true) : ∀ (m : Ox) {sc : Scope} {W : WX} {X : Cx} {o : Option Expr}, Ct G g k sc N W X → (calm = true → X.calm = true) → chkO N calm fl m sc o = true → PO X o (tO X.K g G W m)
  | .no, sc, W, X, o, c, hc, h => by
    rw [i_ono h]
    exact o_no
  | .so m, sc, W, X, o, c, hc, h => by
    obtain ⟨x, rfl, h1⟩ := i_oso h
    exact o_so (okE hcal m c hc h1).pe
theorem okB (hcal : calm = true → ∀ f ∈ fl, (G.fns f).isSome = true) : ∀ (ms : Es) (cc : Bool) {sc : Scope} {W : WX} {X : Cx} {es : List Expr} {p : Pos}, Ct G g k sc N W X → (calm = true → X.calm = true) → chkEs N calm fl ms sc es = true →
    PE X (.BoolOp (opOf cc) es p) (tBo X.K g G W cc ms) ∧ PW X (.BoolOp (opOf cc) es p) (tBt X.K g G W cc ms)
  | .nil, cc, sc, W, X, es, p, c, hc, h => by
    refine ⟨⟨fun pins s σ H Q I ⟨B, en, rs, vs, Xp, Q0, hs, hx, he, hq⟩ => ?_⟩, ⟨fun wh pins s σ H Q I ⟨B, en, rs, vs, Xp, Q0, hs, hx, he, hq⟩ => ?_⟩⟩
    · unfold evB at he
      exact he.elim
    · unfold evB at he
      exact he.elim
  | .cons m ms, cc, sc, W, X, es, p, c, hc, h => by
    obtain ⟨x, ys, rfl, h1, h2, h3⟩ := i_es1 h
    have k1 := okE hcal m c hc h2
    match ms, h3 with
    | .nil, h3 =>
      rw [i_es0 h3]
      exact ⟨b_one k1.pe, w_one k1.pt⟩
    | .cons m2 ms, h3 =>
      obtain ⟨k2, k3⟩ := okB hcal (.cons m2 ms) cc (p := p) c hc h3
      obtain ⟨x2, ys2, rfl, _⟩ := i_es1 h3
      exact ⟨b_cons k1.pe k2, w_cons k1.pt k3⟩
theorem okTs (hcal : calm = true → ∀ f ∈ fl, (G.fns f).isSome = true) : ∀ (ms : Es) {sc : Scope} {X : Cx} {es : List Expr}, Ct G g k sc N WF X → (calm = true → X.calm = true) → es.length ≤ 1 → chkEs N calm fl ms sc es = true → PTs X es (tTs X.K g G ms)
  | .nil, sc, X, es, c, hc, hl, h => by
    rw [i_es0 h]
    exact ts_nil
  | .cons m ms, sc, X, es, c, hc, hl, h => by
    obtain ⟨x, ys, rfl, h1, h2, h3⟩ := i_es1 h
    have e1 : ys = [] := List.eq_nil_of_length_eq_zero (by rw [List.length_cons] at hl; omega)
    subst e1
    have e2 : ms = .nil := by
      have := (i_ess h3).2
      cases ms with
      | nil => rfl
      | cons _ _ => simp [esLen] at this
    subst e2
    exact ts_one (okE hcal m c hc h2).pt
theorem okI (hcal : calm = true → ∀ f ∈ fl, (G.fns f).isSome = true) : ∀ (m : Src) {sc : Scope} {W : WX} {X : Cx} {e tg : Expr}, Ct G g k sc N W X → (calm = true → X.calm = true) → chkS N calm fl m sc e = true → PI X tg e (tI X.K g G W m)
  | .it m, sc, W, X, e, tg, c, hc, h => i_it (okE hcal m c hc (i_sit h)).pe
  | .rng ms, sc, W, X, e, tg, c, hc, h => by
    obtain ⟨x, p, args, q, rfl, h1⟩ := i_srng h
    obtain ⟨h2, h3⟩ := and2 h1
    obtain ⟨h4, h5⟩ := and2 h3
    obtain ⟨h6, h7⟩ := and2 h5
    cases of_decide_eq_true h2
    have hn := i_ess h7
    exact i_rng c h4 hn.1 hn.2 h6 (okV hcal ms c hc h7)
  | .rdn ms, sc, W, X, e, tg, c, hc, h => by
    obtain ⟨x, p, args, q, rfl, h1⟩ := i_srdn h
    obtain ⟨h2, h3⟩ := and2 h1
    obtain ⟨h4, h5⟩ := and2 h3
    obtain ⟨h6, h7⟩ := and2 h5
    cases of_decide_eq_true h2
    have hn := i_ess h7
    exact i_rdn c h4 hn.1 hn.2 h6 (okV hcal ms c hc h7)
  | .rev m, sc, W, X, e, tg, c, hc, h => by
    obtain ⟨x, p, a, q, rfl, h1⟩ := i_srev h
    obtain ⟨h2, h3⟩ := and2 h1
    obtain ⟨h4, h5⟩ := and2 h3
    obtain ⟨h6, h7⟩ := and2 h5
    cases of_decide_eq_true h2
    exact i_rev c h4 h6 (okE hcal m c hc h7).pe
end
end
end Pf

/-! Statements. -/
namespace Pf
open PySem PySem.Spec PyProof.Rows L2
def isLC : Expr → Bool
  | .ListComp _ _ _ _ => true
  | .SetComp _ _ _ _ => true
  | .DictComp _ _ _ _ _ => true
  | _ => false
def isTup : Expr → Bool
  | .Tuple _ _ _ => true
  | _ => false
def mLC : E → Bool
  | .lc _ _ _ _ => true
  | .lc2 _ _ _ _ _ _ _ => true
  | _ => false
section
variable (N : List Str)
mutual
def chkU : Option Nat → U → Scope → Expr → Bool
  | _, .int n, _, .Constant (.int z) _ _ => decide (n = z)
  | _, .bl b, _, .Constant (.bool z) _ _ => b == z
  | _, .non, _, .Constant .none _ _ => true
  | _, .str x, _, .Constant (.str z) _ _ => decide (z = Str.ofString x)
  | _, .var i, sc, .Name x _ => slotIs N i x && (vis sc x && (!(x == ("__debug__" : Str)) && !(x == ("__classdict__" : Str))))
  | some i, .fld f, sc, .Attribute (.Name x _) f' _ => decide (f' = Str.ofString f) && (slotIs N i x && (vis sc x && (!(x == ("__debug__" : Str)) && !(x == ("__classdict__" : Str)))))
  | io, .tup us, sc, .Tuple es _ _ => decide (es.length ≤ 1000) && chkUs io us sc es
  | io, .lst us, sc, .List es _ => decide (es.length ≤ 1000) && chkUs io us sc es
  | _, _, _, _ => false
def chkUs : Option Nat → List U → Scope → List Expr → Bool
  | _, [], _, [] => true
  | io, u :: us, sc, e :: es => nst e && (chkU io u sc e && chkUs io us sc es)
  | _, _, _, _ => false
end
end
section
variable (N : List Str) (el : List (String × Nat)) (pn : List Nat)
def chkSu : Option Nat → Su → Scope → Stmt → Bool
  | io, .asg i x, sc, .Assign [.Name y _] v _ => slotIs N i y && (loc sc y && (!pn.contains i && (!isLC v && chkU N io x sc v)))
  | io, .ret x, sc, .Return (some v) _ => chkU N io x sc v
  | _, .pas, _, .Pass _ => true
  | _, _, _, _ => false
def chkNm (sc : Scope) : Option Nat → Option Str → Bool
  | none, none => true
  | some i, some n => slotIs N i n && (decide (sc.names.lookup n = some .local) && !pn.contains i)
  | _, _ => false
def chkHs : Hs → Scope → List ExceptHandler → Bool
  | .nil, _, [] => true
  | .cons c io u hs, sc, .ExceptHandler (some (.Name x _)) nm [st] _ :: hds => decide (x = Str.ofString c) && (gl sc x && (el.any (fun q => q.1 == c) && (chkNm N pn sc io nm && (chkSu N pn io u sc st && chkHs hs sc hds))))
  | _, _, _ => false
end
section
variable (N : List Str) (fl : List String) (el : List (String × Nat)) (pn : List Nat)
mutual
def chkT : S → Scope → Stmt → Bool
  | .asg i e, sc, .Assign [.Name x _] v _ => slotIs N i x && (loc sc x && (!pn.contains i && ((mLC e || !isLC v) && chkE N true fl e sc v)))
  | .asgT is e, sc, .Assign [.Tuple ts _ _] v _ => (!isTup v && !isLC v) && (chkTgt N sc.names is (.Tuple ts 0 default) && (is.all (fun i => !pn.contains i) && chkE N true fl e sc v))
  | .aug i op e, sc, .AugAssign (.Name x _) op' v _ => slotIs N i x && (loc sc x && (!pn.contains i && (decide (op = op') && ((decide (op = .Add) || decide (op = .Sub)) && chkE N true fl e sc v))))
  | .put i k e, sc, .Assign [.Subscript (.Name x _) kx _] v _ => slotIs N i x && (vis sc x && (!(x == ("__debug__" : Str)) && (!(x == ("__classdict__" : Str)) && (nsl kx && (chkE N true fl k sc kx && (!isLC v && chkE N true fl e sc v))))))
  | .setf i f e, sc, .Assign [.Attribute (.Name x _) fn _] v _ => slotIs N i x && (vis sc x && (!(x == ("__debug__" : Str)) && (!(x == ("__classdict__" : Str)) && (decide (fn = Str.ofString f) && (!isLC v && chkE N true fl e sc v)))))
  | .augL i e, sc, .AugAssign (.Name x _) op' v _ => slotIs N i x && (loc sc x && (!pn.contains i && (decide (op' = .Add) && chkE N true fl e sc v)))
  | .augI i op k e, sc, .AugAssign (.Subscript (.Name x _) kx _) op' v _ => slotIs N i x && (vis sc x && (!(x == ("__debug__" : Str)) && (!(x == ("__classdict__" : Str)) && (nsl kx && (decide (op = op') && ((decide (op = .Add) || decide (op = .Sub)) && (chkE N true fl k sc kx && chkE N true fl e sc v)))))))
  | .expr e, sc, .Expr v _ => !isLC v && chkE N true fl e sc v
  | .pas, _, .Pass _ => true
  | .pas, _, .Expr (.Constant (.str _) _ _) _ => true
  | .ret e, sc, .Return (some v) _ => chkE N true fl e sc v
  | .retN, _, .Return none _ => true
  | .iff c a b, sc, .If x p q _ => chkE N true fl c sc x && (chkTs' a sc p && chkTs' b sc q)
  | .whl c b, sc, .While x p [] _ => chkE N true fl c sc x && chkTs' b sc p
  | .forr tg src b, sc, .For t it p [] _ => chkTgt N sc.names tg t && (tg.all (fun i => !pn.contains i) && (nset it && (chkS N true fl src sc it && chkTs' b sc p)))
  | .brk, _, .Break _ => true
  | .cnt, _, .Continue _ => true
  | .raise c es, sc, .Raise (some (.Call (.Name x _) args [] _)) none _ => decide (x = Str.ofString c) && (gl sc x && (el.contains (c, args.length) && (decide (args.length ≤ 100) && chkEs N true fl es sc args)))
  | .tri b hs, sc, .Try body (h0 :: hds) [] [] _ => chkTs' b sc body && chkHs N el pn hs sc (h0 :: hds)
  | _, _, _ => false
def chkTs' : Ss → Scope → List Stmt → Bool
  | .nil, _, [] => true
  | .cons s ss, sc, x :: xs => chkT s sc x && chkTs' ss sc xs
  | _, _, _ => false
end
end
def _root_.L2.Ends.len (n : Nat) (D : Ends) : Ends := { nx := fun σ H => σ.length = n → D.nx σ H, rt := D.rt, bk := fun σ H => σ.length = n → D.bk σ H, ct := fun σ H => σ.length = n → D.ct σ H }
theorem _root_.L2.SP.unlen {X : Cx} {pins : List (Addr × Obj)} {D : Ends} {f : Flow} {s' : Shared} (h : SP X pins (D.len X.N.length) f s') : SP X pins D f s' := by
  cases f with
  | next => obtain ⟨σ', H', I, q⟩ := h; exact ⟨σ', H', I, q I.len⟩
  | brk => obtain ⟨σ', H', I, q⟩ := h; exact ⟨σ', H', I, q I.len⟩
  | cont => obtain ⟨σ', H', I, q⟩ := h; exact ⟨σ', H', I, q I.len⟩
  | ret u => exact h
theorem _root_.L2.PS.imL {X : Cx} {st : Stmt} {t t' : TS} (h : PS X st t) (i : ∀ D σ H, σ.length = X.N.length → t' D σ H → t (D.len X.N.length) σ H) : PS X st t' :=
  ⟨fun pins s σ H D I q => thn (h.run pins s σ H (D.len X.N.length) I (i D σ H I.len q)) fun _ _ q => q.unlen⟩
theorem _root_.L2.PSs.imL {X : Cx} {st : List Stmt} {t t' : TS} (h : PSs X st t) (i : ∀ D σ H, σ.length = X.N.length → t' D σ H → t (D.len X.N.length) σ H) : PSs X st t' :=
  ⟨fun pins s σ H D I q => thn (h.run pins s σ H (D.len X.N.length) I (i D σ H I.len q)) fun _ _ q => q.unlen⟩
section
variable (K : PySem.W.Frag) (g : Str → Addr) (G : Gb) (W : WX) (n : Nat) (pn : List Nat)
/-- the ends fit -/
structure EL (B : Bs) (P : Pt) (D : Ends) : Prop where
  nx : ∀ en σ H, σ.length = n → P.nx en → ST K g B en [] σ [] H → D.nx σ H
  rt : ∀ d en σ v H, P.rt d en → ST K g B en [.v d] σ [v] H → D.rt v H
  bk : ∀ en σ H, σ.length = n → P.bk en → ST K g B en [] σ [] H → D.bk σ H
  ct : ∀ en σ H, σ.length = n → P.ct en → ST K g B en [] σ [] H → D.ct σ H
def tS (r : En → Pt → Prop) : TS := fun D σ H => ∃ B en P, ST K g B en [] σ [] H ∧ XL K g G B W P.ex ∧ (∀ p ∈ B.pin, p.1 ∈ pn) ∧ r en P ∧ EL K g n B P D
end
/-- the context of a body -/
structure Cs (X : Cx) (sc : Scope) : Prop where
  calm : X.calm = true
  po : PassesOwn (model X.prog X.w) X.A X.env X.xe
  fn : ∀ x, X.fn x = true
  kind : X.env.scope.kind = .function
  stk : X.stack = X.env :: X.outer
  frm : X.env.frame = some X.env.locals
section
variable {G : Gb} {g : Str → Addr} {k : Nat} {sc : Scope} {N : List Str} {W : WX} {X : Cx} {pn : List Nat} {fl : List String} {el : List (String × Nat)}
theorem Cs.loc (cs : Cs X sc) (c : Ct G g k sc N W X) {x : Str} (h : loc sc x = true) : L2.Loc X.env.scope x := by
  unfold Pf.loc at h
  rw [Bool.or_eq_true] at h
  rw [c.sc]
  exact h.imp of_decide_eq_true of_decide_eq_true
theorem swap_no {v : Expr} {t : Option Expr} {l : Nat} {env : Env} (h : isLC v = false) : swapsWith v t l env = pure false := by
  cases v <;> first | rfl | cases h
theorem slot_lt {i : Nat} {x : Str} (h : slotIs N i x = true) : i < N.length := (List.getElem?_eq_some_iff.mp (of_decide_eq_true h)).1
theorem notin {i : Nat} (h : (!pn.contains i) = true) : i ∉ pn := by simpa using h
/-- a name gets the value of an expression -/
theorem asg_rd {i : Nat} {m : E} {D : Ends} {σ : L2.St} {H : Hp} (hi : i < N.length) (hp : i ∉ pn) (hl : σ.length = N.length) (h : tS X.K g G W N.length pn (run G (.asg i m)) D σ H) : tAsg (tE X.K g G W m) (gName i) (D.len N.length) σ H := by
  obtain ⟨B, en, P, hs, hx, hpn, hr, hD⟩ := h
  unfold run at hr
  refine ⟨B, en, [], [], P.ex, _, hs, hx, hr, fun d e1 v H1 h1 s1 hl' => ?_⟩
  exact hD.nx _ _ _ hl' h1 (s1.set1 (ts := []) (by rw [hl]; exact hi) fun p hp' e => hp (e ▸ hpn p hp'))
theorem t_asg (cs : Cs X sc) (c : Ct G g k sc N W X) {i : Nat} {m : E} {x : Str} {v : Expr} {p ap : Pos} (h1 : slotIs N i x = true) (h2 : loc sc x = true) (h3 : (!pn.contains i) = true) (h4 : isLC v = false) (hv : PE X v (tE X.K g G W m)) :
    PS X (.Assign [.Name x p] v ap) (tS X.K g G W N.length pn (run G (.asg i m))) :=
  (ps_set (by rw [c.hN]; exact c.nd) (by rw [c.hN]; exact of_decide_eq_true h1) (cs.loc c h2) hv (swap_no h4) (.inl (cs.fn x))).imL fun D σ H hl h => by
    rw [c.hN] at hl ⊢
    exact asg_rd (slot_lt h1) (notin h3) hl h
theorem t_asgLc (cs : Cs X sc) (c : Ct G g k sc N W X) {i : Nat} {x : Str} {p ap : Pos} (h1 : slotIs N i x = true) (h2 : loc sc x = true) (h3 : (!pn.contains i) = true) {el t it : Expr} {ifs : List Expr} {scope : Scope} {pos : Pos} {tg : List Nat} {src : Src} {cs' : Es} {elt : E} (hb : blkC N sc scope (ownOf N tg) = true) (hst : nset it = true)
    (hi : PI X t it (tI X.K g G W src))
    (hg : ∀ (s : Shared) (H : Hp) (C : Addr) (cl : List (Str × Addr)) (fp : List Addr), PG (X.blk s H scope (compEnvC scope cl C X.env) fp) t (tG X.K g tg))
    (ht : ∀ (s : Shared) (H : Hp) (C : Addr) (cl : List (Str × Addr)) (fp : List Addr), PTs (X.blk s H scope (compEnvC scope cl C X.env) fp) ifs (tTs X.K g G cs'))
    (he : ∀ (s : Shared) (H : Hp) (C : Addr) (cl : List (Str × Addr)) (fp : List Addr), PE (X.blk s H scope (compEnvC scope cl C X.env) fp) el (tE X.K g G WF elt))
    (im : ∀ σ H Q, σ.length = X.N.length → tE X.K g G W (.lc tg src cs' elt) σ H Q → tLc (tI X.K g G W src) (tG X.K g tg) (tTs X.K g G cs') (tE X.K g G WF elt) ((ownOf N tg).map (·.2)) σ H Q) :
    PS X (.Assign [.Name x p] (.ListComp el [⟨t, it, ifs, 0⟩] scope pos) ap) (tS X.K g G W N.length pn (run G (.asg i (.lc tg src cs' elt)))) := by
  have ok : BlkOk X.N X.env.scope scope (ownOf N tg) := by rw [c.hN, c.sc]; exact blkOk_by hb
  have rd : ∀ D σ H, σ.length = X.N.length → tS X.K g G W N.length pn (run G (.asg i (.lc tg src cs' elt))) D σ H → tAsg (tLc (tI X.K g G W src) (tG X.K g tg) (tTs X.K g G cs') (tE X.K g G WF elt) ((ownOf N tg).map (·.2))) (gName i) (D.len X.N.length) σ H := fun D σ H hl h => by
    have h' := asg_rd (X := X) (slot_lt h1) (notin h3) (by rw [← c.hN]; exact hl) h
    rw [c.hN]
    exact im σ H _ hl h'
  have hN : X.N.Nodup := by rw [c.hN]; exact c.nd
  have hx : X.N[i]? = some x := by rw [c.hN]; exact of_decide_eq_true h1
  have sw : swapsWith (.ListComp el [⟨t, it, ifs, 0⟩] scope pos) (some (.Name x p)) ap.line X.env = pure (X.env.blockKind == .function && X.env.kindOf x == some .local && p.line == pos.line && !(scope.names.any fun (n, k) => n == x && (k == .local || k == .cell))) := rfl
  cases hb' : (X.env.blockKind == .function && X.env.kindOf x == some .local && p.line == pos.line && !(scope.names.any fun (n, k) => n == x && (k == .local || k == .cell))) with
  | true =>
    rw [hb'] at sw
    have hy : X.env.scope.names.lookup x = some .local := by
      rw [Bool.and_eq_true, Bool.and_eq_true, Bool.and_eq_true] at hb'
      have := hb'.1.1.2
      exact eq_of_beq this
    exact (ps_setLc cs.calm hN hx hy sw hi ok hg ht he (fun x => folded_of hst x)).imL rd
  | false =>
    rw [hb'] at sw
    exact (ps_set hN hx (cs.loc c h2) (pe_lc cs.calm hN hi ok hg ht he (fun x => folded_of hst x)) sw (.inl (cs.fn x))).imL rd
theorem t_asgLc2 (cs : Cs X sc) (c : Ct G g k sc N W X) {i : Nat} {x : Str} {p ap : Pos} (h1 : slotIs N i x = true) (h2 : loc sc x = true) (h3 : (!pn.contains i) = true) {el t it t1 it1 : Expr} {ifs ifs1 : List Expr} {scope : Scope} {pos : Pos} {tg tg1 : List Nat} {src src1 : Src} {cs' cs1 : Es} {elt : E} (hb : blkC N sc scope (ownOf N (tg ++ tg1)) = true) (hst : nset it = true) (hst1 : nset it1 = true)
    (hi : PI X t it (tI X.K g G W src))
    (hg : ∀ (s : Shared) (H : Hp) (C : Addr) (cl : List (Str × Addr)) (fp : List Addr), PG (X.blk s H scope (compEnvC scope cl C X.env) fp) t (tG X.K g tg))
    (ht : ∀ (s : Shared) (H : Hp) (C : Addr) (cl : List (Str × Addr)) (fp : List Addr), PTs (X.blk s H scope (compEnvC scope cl C X.env) fp) ifs (tTs X.K g G cs'))
    (hi1 : ∀ (s : Shared) (H : Hp) (C : Addr) (cl : List (Str × Addr)) (fp : List Addr), PI (X.blk s H scope (compEnvC scope cl C X.env) fp) t1 it1 (tI X.K g G WF src1))
    (hg1 : ∀ (s : Shared) (H : Hp) (C : Addr) (cl : List (Str × Addr)) (fp : List Addr), PG (X.blk s H scope (compEnvC scope cl C X.env) fp) t1 (tG X.K g tg1))
    (ht1 : ∀ (s : Shared) (H : Hp) (C : Addr) (cl : List (Str × Addr)) (fp : List Addr), PTs (X.blk s H scope (compEnvC scope cl C X.env) fp) ifs1 (tTs X.K g G cs1))
    (he : ∀ (s : Shared) (H : Hp) (C : Addr) (cl : List (Str × Addr)) (fp : List Addr), PE (X.blk s H scope (compEnvC scope cl C X.env) fp) el (tE X.K g G WF elt)) :
    PS X (.Assign [.Name x p] (.ListComp el [⟨t, it, ifs, 0⟩, ⟨t1, it1, ifs1, 0⟩] scope pos) ap) (tS X.K g G W N.length pn (run G (.asg i (.lc2 tg src cs' tg1 src1 cs1 elt)))) := by
  have ok : BlkOk X.N X.env.scope scope (ownOf N (tg ++ tg1)) := by rw [c.hN, c.sc]; exact blkOk_by hb
  have rd : ∀ D σ H, σ.length = X.N.length → tS X.K g G W N.length pn (run G (.asg i (.lc2 tg src cs' tg1 src1 cs1 elt))) D σ H → tAsg (tLc2 (tI X.K g G W src) (tG X.K g tg) (tTs X.K g G cs') (tI X.K g G WF src1) (tG X.K g tg1) (tTs X.K g G cs1) (tE X.K g G WF elt) ((ownOf N (tg ++ tg1)).map (·.2)) tg1) (gName i) (D.len X.N.length) σ H := fun D σ H hl h => by
    have h' := asg_rd (X := X) (slot_lt h1) (notin h3) (by rw [← c.hN]; exact hl) h
    rw [c.hN]
    exact lc2_im c hb σ H _ hl h'
  have hN : X.N.Nodup := by rw [c.hN]; exact c.nd
  have hx : X.N[i]? = some x := by rw [c.hN]; exact of_decide_eq_true h1
  have hv : ∀ j ∈ tg1, j ∈ (ownOf N (tg ++ tg1)).map (·.2) := fun j hj => by rw [ownOf_ix]; exact List.mem_append_right _ hj
  have sw : swapsWith (.ListComp el [⟨t, it, ifs, 0⟩, ⟨t1, it1, ifs1, 0⟩] scope pos) (some (.Name x p)) ap.line X.env = pure (X.env.blockKind == .function && X.env.kindOf x == some .local && p.line == pos.line && !(scope.names.any fun (n, k) => n == x && (k == .local || k == .cell))) := rfl
  cases hb' : (X.env.blockKind == .function && X.env.kindOf x == some .local && p.line == pos.line && !(scope.names.any fun (n, k) => n == x && (k == .local || k == .cell))) with
  | true =>
    rw [hb'] at sw
    have hy : X.env.scope.names.lookup x = some .local := by
      rw [Bool.and_eq_true, Bool.and_eq_true, Bool.and_eq_true] at hb'
      have := hb'.1.1.2
      exact eq_of_beq this
    exact (ps_setLc2 cs.calm hN hx hy sw hi ok hv hg ht hi1 hg1 ht1 he (fun x => folded_of hst x) (fun env x => folded_of hst1 x)).imL rd
  | false =>
    rw [hb'] at sw
    exact (ps_set hN hx (cs.loc c h2) (pe_lc2 cs.calm hN hi ok hv hg ht hi1 hg1 ht1 he (fun x => folded_of hst x) (fun env x => folded_of hst1 x)) sw (.inl (cs.fn x))).imL rd
theorem t_asgT (cs : Cs X sc) (c : Ct G g k sc N W X) {is : List Nat} {m : E} {ts : List Expr} {v : Expr} {kk : Nat} {p ap : Pos} (h1 : (!isTup v && !isLC v) = true) (h2 : chkTgt N sc.names is (.Tuple ts 0 default) = true) (h3 : is.all (fun i => !pn.contains i) = true) (hv : PE X v (tE X.K g G W m)) :
    PS X (.Assign [.Tuple ts kk p] v ap) (tS X.K g G W N.length pn (run G (.asgT is m))) := by
  obtain ⟨h4, h5⟩ := and2 h1
  have hg : PG X (.Tuple ts kk p) (tG X.K g is) := by
    refine g_tg (names := sc.names) cs.calm c.hN c.nd (fun x h => ⟨by rw [c.sc]; exact h, .inl (cs.fn x)⟩) ?_
    match is, h2 with
    | i :: j :: is, h2 => exact h2
  refine (ps_asg hv hg ?_ ?_ rfl).imL fun D σ H hl ⟨B, en, P, hs, hx, hpn, hr, hD⟩ => ?_
  · exact (swap_no (not1 h5) : swapsWith v (some (.Tuple ts kk p)) ap.line X.env = pure false)
  · cases v <;> first | rfl | (cases h4; done)
  · unfold run at hr
    refine ⟨B, en, [], [], P.ex, _, hs, hx, hr, fun d e1 u H1 ⟨ds, e2, ed, h6, h7⟩ s1 => ?_⟩
    match is, h2 with
    | i :: j :: is, h2 =>
      refine ⟨B, e1, [], [], d, P.nx, s1, fun x hx' => ⟨?_, fun p hp e => ?_⟩, ⟨ds, e2, ed, h6, h7⟩, fun e3 σ3 h8 hl3 _ s3 hl4 => hD.nx _ _ _ (by rw [← c.hN]; exact hl4) h8 s3⟩
      · rw [hl, c.hN]
        have hall : ∀ {tg : List Nat} {es : List Expr}, chkTg N sc.names tg es = true → ∀ i ∈ tg, i < N.length := by
          intro tg
          induction tg with
          | nil => intro es _ i hi; cases hi
          | cons a tg ih =>
            intro es h i hi
            cases es with
            | nil => cases h
            | cons e es =>
              cases e with
              | Name y q =>
                obtain ⟨k1, k2⟩ := and2 h
                rcases List.mem_cons.mp hi with rfl | hi
                · exact slot_lt (and2 k1).1
                · exact ih k2 i hi
              | _ => cases h
        exact hall h2 x hx'
      · have := List.all_eq_true.mp h3 x hx'
        exact notin this (e ▸ hpn p hp)
theorem t_aug (cs : Cs X sc) (c : Ct G g k sc N W X) {i : Nat} {op : Operator} {m : E} {x : Str} {v : Expr} {p ap : Pos} (h1 : slotIs N i x = true) (h2 : loc sc x = true) (h3 : (!pn.contains i) = true) (hop : op = .Add ∨ op = .Sub) (hv : PE X v (tE X.K g G W m)) :
    PS X (.AugAssign (.Name x p) op v ap) (tS X.K g G W N.length pn (run G (.aug i op m))) := by
  have rd : ∀ (f : Int → Int → Int), (∀ en P, run G (.aug i op m) en P → (∃ d0, (en[i]?).join = some d0) ∧ ev G m en (fun y e1 => match (e1[i]?).join with
      | some (.int x) => ∃ j, y = .int j ∧ P.nx (e1.set i (some (.int (f x j))))
      | _ => False) P.ex) → ∀ D σ H, σ.length = X.N.length → tS X.K g G W N.length pn (run G (.aug i op m)) D σ H → tAug i (tE X.K g G W m) (ipI f) (D.len X.N.length) σ H := by
    intro f hf D σ H hl ⟨B, en, P, hs, hx, hpn, hr, hD⟩
    obtain ⟨⟨d0, h0⟩, hr⟩ := hf en P hr
    obtain ⟨v0, e0, s0⟩ := hs.slot h0
    refine ⟨v0, e0, B, en, [], [], P.ex, _, hs, hx, hr, fun d e1 u H1 h1' s1 => ?_⟩
    split at h1'
    · rename_i x0 hx0
      obtain ⟨j, rfl, h6⟩ := h1'
      obtain ⟨v1, e1', s2⟩ := s1.slot hx0
      rw [e0] at e1'
      cases e1'
      obtain ⟨Z, O, r, _⟩ := s2.rep hx0
      cases r
      obtain ⟨Z, O, r, _⟩ := s1.rep rfl
      cases r
      refine ⟨x0, j, rfl, rfl, fun hl' => hD.nx _ _ _ (by rw [← c.hN]; exact hl') h6 ((s1.drop.flat (d := .int (f x0 j)) fun Z => .int _).set1 (ts := []) (by rw [hl, c.hN]; exact slot_lt h1) fun p hp e => notin h3 (e ▸ hpn p hp))⟩
    · exact h1'.elim
  have base : ∀ {ti : TIp}, PIp X op ti → PS X (.AugAssign (.Name x p) op v ap) (tAug i (tE X.K g G W m) ti) := fun ho => ps_aug (by rw [c.hN]; exact c.nd) (by rw [c.hN]; exact of_decide_eq_true h1) (cs.loc c h2) hv ho (.inl (cs.fn x))
  rcases hop with rfl | rfl
  · exact (base ip_add).imL (rd _ fun en P h => by unfold run at h; exact h)
  · exact (base ip_sub).imL (rd _ fun en P h => by unfold run at h; exact h)
def rExtF : TIp := fun x y H Q => ∃ l b xs zs, x = .ref l ∧ y = .ref b ∧ H l = some (.lst xs) ∧ Rd H b (.lst zs) ∧ xs.length + zs.length ≤ sizeLine ∧ Q (.ref l) (upd H l (.lst (xs ++ zs)))
theorem ip_extF : PIp X .Add rExtF := by
  intro pins s σ H x y v u Q I rx ry h
  obtain ⟨l, b, xs, zs, rfl, rfl, hH, hB, hz, q⟩ := h
  cases rx
  cases ry
  obtain ⟨z, its, n, r, hl, e⟩ := I.lstM hH
  obtain ⟨z2, its2, n2, r2, hl2, e2⟩ := lst_at I hB
  have hsz : its.toArray.size + its2.toArray.size ≤ sizeLine := by rw [List.size_toArray, List.size_toArray, ← hl, ← hl2]; exact hz
  have hlong : ¬ (!its.toArray.isEmpty && Builtin.List.listTooLong (its.toArray.size + its2.toArray.size)) = true := by
    rw [notLongL hsz, Bool.and_false]
    exact Bool.false_ne_true
  refine L2.iadd_road ⟨_, e, rfl⟩ ⟨_, e2, rfl⟩ (call_meets PySem.F.slot_list_iadd ⟨_, e, rfl⟩ PySem.F.entry_list_iadd (PySem.F.args_list_iadd_2 _ _)
    (AutoSeq1.list___iadd___list_list_0 l its.toArray n b its2.toArray n2 hlong (by rw [List.size_toArray]; omega) (by omega)) ⟨e, e2, ?_⟩)
  refine ⟨.ref l, _, I.lset (its' := its ++ its2) (t' := s.toks) hH e (by simp) (r.append r2) ?_, rfl, q⟩
  rw [List.length_append]
  exact hz
theorem t_augL (cs : Cs X sc) (c : Ct G g k sc N W X) {i : Nat} {m : E} {x : Str} {v : Expr} {p ap : Pos} (h1 : slotIs N i x = true) (h2 : loc sc x = true) (h3 : (!pn.contains i) = true) (hv : PE X v (tE X.K g G W m)) :
    PS X (.AugAssign (.Name x p) .Add v ap) (tS X.K g G W N.length pn (run G (.augL i m))) := by
  have base : PS X (.AugAssign (.Name x p) .Add v ap) (tAug i (tE X.K g G W m) rExtF) := ps_aug (by rw [c.hN]; exact c.nd) (by rw [c.hN]; exact of_decide_eq_true h1) (cs.loc c h2) hv ip_extF (.inl (cs.fn x))
  refine base.imL fun D σ H hl ⟨B, en, P, hs, hx, hpn, hr, hD⟩ => ?_
  unfold run at hr
  obtain ⟨⟨ws0, h0⟩, hr⟩ := hr
  obtain ⟨a0, ws, e1', e2', e3', _⟩ := ST.mutL (ds := []) (us := []) (ys := []) hs rfl h0
  refine ⟨.ref a0, e1', B, en, [], [], P.ex, _, hs, hx, hr, fun d e1 u H1 h1' s1 => ?_⟩
  split at h1'
  · rename_i xs o ys hi
    obtain ⟨⟨hf, hf2, hz⟩, hk⟩ := h1'
    obtain ⟨b, wb, rfl, l2, sq, _⟩ := ST.seqF (r := .v (.lst o ys)) (rs := []) (v := u) (vs := []) s1 rfl rfl hf2
    have rb : Rd H1 b (.lst wb) := sq.elim (fun z => z.2) fun z => nomatch z.1
    obtain ⟨a, ws1, f1, f2, f3, _, f5⟩ := ST.mutL (ds := [.lst o ys]) (us := [.ref b]) (rs := []) (vs := []) (ys := xs ++ ys) s1 rfl hi
    rw [e1'] at f1
    cases f1
    refine ⟨a0, b, ws1, wb, rfl, rfl, f2, rb, sizeL (by omega), fun hl' => ?_⟩
    have hset : σ.set i (some (.ref a0)) = σ := by
      refine List.ext_getElem? fun j => ?_
      rw [List.getElem?_set]
      split
      · next e =>
        subst e
        split
        · exact e1'.symm
        · next hh => rw [List.getElem?_eq_none (by omega)]
      · rfl
    rw [hset] at hl' ⊢
    refine hD.nx _ _ _ (by rw [← c.hN]; exact hl') hk (f5 _ fun Z O1 O2 r1 r2 O b1 b2 => ?_)
    cases r2 with
    | cons c1 c2 r t =>
      have r0 : RepL X.K g Z H1 ys wb AS.no := by
        cases r with
        | lstO ea oa sa ra =>
          rcases rb with rb | ⟨_, rb⟩
          · rw [ea] at rb; cases rb; exact ra.none hf2
          · rw [ea] at rb; cases rb
        | lstF z ea ra =>
          rcases rb with rb | ⟨_, rb⟩ <;> rcases ea with ea | ⟨_, ea⟩ <;> (rw [ea] at rb; cases rb) <;> exact ra
      exact (r1.none hf).app r0 (fun _ z => z.elim) fun _ z => z.elim
  · exact h1'.elim
theorem RepL.setj {K : PySem.W.Frag} {Z : AS} {H : Hp} {d : Pf.D} {u : V} {O2 : AS} : ∀ {xs : List Pf.D} {ws : List V} (j : Nat) {O1 O : AS}, RepL K g Z H xs ws O1 → Rep K g Z H d u O2 → (∀ b, O1 b → O b) → (∀ b, O2 b → O b ∧ ¬ O1 b) → RepL K g Z H (xs.set j d) (ws.set j u) O
  | [], _, j, _, _, .nil, _, _, _ => .nil
  | x :: xs, _, 0, O1, O, .cons s1 s2 r t, q, b1, b2 => .cons (O1 := O2) (O2 := _) (fun b z => (b2 b z).1) (fun b z => ⟨b1 b (s2 b z).1, fun y => (b2 b y).2 (s2 b z).1⟩) q t
  | x :: xs, _, j + 1, O1, O, .cons (O1 := Ox) (O2 := Ot) s1 s2 r t, q, b1, b2 => .cons (O1 := Ox) (O2 := fun b => Ot b ∨ O2 b) (fun b z => b1 b (s1 b z)) (fun b z => z.elim (fun z => ⟨b1 b (s2 b z).1, (s2 b z).2⟩) fun z => ⟨(b2 b z).1, fun y => (b2 b z).2 (s1 b y)⟩) r
      (RepL.setj j t q (fun b z => .inl z) fun b z => ⟨.inr z, fun y => (b2 b z).2 (s2 b y).1⟩)
theorem t_put (c : Ct G g k sc N W X) {i : Nat} {mk m : E} {x : Str} {kx v : Expr} {p sp ap : Pos} (h1 : slotIs N i x = true) (h2 : vis sc x = true) (h3 : (!(x == ("__debug__" : Str))) = true) (h4 : (!(x == ("__classdict__" : Str))) = true) (hs : nsl kx = true) (hl : isLC v = false)
    (hk : PE X kx (tE X.K g G W mk)) (hv : PE X v (tE X.K g G W m)) : PS X (.Assign [.Subscript (.Name x p) kx sp] v ap) (tS X.K g G W N.length pn (run G (.put i mk m))) := by
  have ho : PE X (.Name x p) (tVar i) := pe_name c (by rw [h1, h2, h3, h4]; rfl)
  refine (ps_asg hv (pg_sub ho hk set_list (fun v => by cases kx <;> first | rfl | cases hs)) ?_ ?_ rfl).imL fun D σ H hlen ⟨B, en, P, hs', hx, hpn, hr, hD⟩ => ?_
  · exact (swap_no hl : swapsWith v (some (.Subscript (.Name x p) kx sp)) ap.line X.env = pure false)
  · cases v <;> rfl
  · unfold run at hr
    refine ⟨B, en, [], [], P.ex, _, hs', hx, hr, fun d e1 u H1 ⟨⟨ws0, h0⟩, hr1⟩ s1 => ?_⟩
    obtain ⟨a0, ws, e1', e2', e3', _⟩ := ST.mutL (ds := []) (us := []) (ys := []) s1 rfl h0
    refine ⟨.ref a0, e1', B, e1, _, _, P.ex, _, s1, hx, hr1, fun y e2 z H2 h5 s2 => ?_⟩
    split at h5
    · rename_i xs zz hi
      obtain ⟨j, hj, h6⟩ := h5
      obtain ⟨Z, O, r, _⟩ := s2.rep rfl
      cases r
      have s3 := s2.drop
      obtain ⟨a1, ws1, f1, f2, f3, _, f5⟩ := ST.mutL (ds := [d]) (us := [u]) (rs := []) (vs := []) (ys := xs.set j d) s3 rfl hi
      rw [e1'] at f1
      cases f1
      refine ⟨a0, ws1, zz, j, rfl, rfl, f2, by rw [← f3]; exact hj, fun hl' => hD.nx _ _ _ (by rw [← c.hN]; exact hl') h6 (f5 _ fun Z O1 O2 r1 r2 O b1 b2 => ?_)⟩
      cases r2 with
      | cons c1 c2 r t => exact RepL.setj j r1 (r.up c1) b1 b2
    · exact h5.elim
theorem get_listI : PGet X (fun o i H Q => ∃ p xs k v, o = .ref p ∧ i = .int k ∧ SqL X.K H p xs ∧ atI xs k = some v ∧ Q v H) := by
  intro pins s σ H x y v u Q I rx ry h
  obtain ⟨p, xs, i, z, rfl, rfl, hq, he, q⟩ := h
  cases rx
  obtain ⟨t, rfl⟩ := ry
  obtain ⟨its, r, pl, hz⟩ := I.list hq
  obtain ⟨j, h1, h2, h3, h4, h5⟩ := atI_get he
  obtain ⟨w, ew, rw'⟩ := r.get h2
  have hl := r.length
  have hn := line63
  have fin : EP X pins σ Q w s := ⟨z, H, I, rw', q⟩
  by_cases h0 : 0 ≤ i
  · have hj : i.toNat = j := by
      rw [seqIndex_of h0 h5] at h1
      exact Option.some.inj h1
    exact wpAny_getItem_list pl.isList h0 (by omega) (by rw [hj]; simpa using ew) fin
  · have hj : (i + (its.toArray.size : Int)).toNat = j := by
      rw [seqIndex_neg (by omega) h4] at h1
      rw [List.size_toArray, ← hl]
      exact Option.some.inj h1
    exact wpAny_getItem_list_neg pl.isList (by omega) (by rw [List.size_toArray] <;> omega) (by omega) (by rw [hj]; simpa using ew) fin
theorem t_augI (c : Ct G g k sc N W X) {i : Nat} {op : Operator} {mk m : E} {x : Str} {kx v : Expr} {p sp ap : Pos} (h1 : slotIs N i x = true) (h2 : vis sc x = true) (h3 : (!(x == ("__debug__" : Str))) = true) (h4 : (!(x == ("__classdict__" : Str))) = true) (hsl : nsl kx = true) (hop : op = .Add ∨ op = .Sub)
    (hk : PE X kx (tE X.K g G W mk)) (hv : PE X v (tE X.K g G W m)) : PS X (.AugAssign (.Subscript (.Name x p) kx sp) op v ap) (tS X.K g G W N.length pn (run G (.augI i op mk m))) := by
  have ho : PE X (.Name x p) (tVar i) := pe_name c (by rw [h1, h2, h3, h4]; rfl)
  have base : ∀ (f : Int → Int → Int), (∀ en P, run G (.augI i op mk m) en P → (∃ ws, (en[i]?).join = some (.lst true ws)) ∧ ev G mk en (fun x e1 => match (e1[i]?).join, x with
      | some (.lst true xs), .int z => ∃ j x0, ixN xs.length z = some j ∧ xs[j]? = some (.int x0) ∧ ev G m e1 (fun y e2 => match (e2[i]?).join, y with
        | some (.lst true ys), .int y => ∃ j2, ixN ys.length z = some j2 ∧ P.nx (e2.set i (some (.lst true (ys.set j2 (.int (f x0 y))))))
        | _, _ => False) P.ex
      | _, _ => False) P.ex) → PIp X op (ipI f) → PS X (.AugAssign (.Subscript (.Name x p) kx sp) op v ap) (tS X.K g G W N.length pn (run G (.augI i op mk m))) := by
    intro f hf hip
    refine (ps_augS ho hk get_listI hv hip set_list (fun ov iv new => by cases kx <;> first | rfl | cases hsl)).imL fun D σ H hlen ⟨B, en, P, hs', hx, hpn, hr, hD⟩ => ?_
    obtain ⟨⟨ws0, h0⟩, hr1⟩ := hf en P hr
    obtain ⟨a0, ws, e1', e2', e3', _⟩ := ST.mutL (ds := []) (us := []) (ys := []) hs' rfl h0
    refine ⟨.ref a0, e1', B, en, [], [], P.ex, _, hs', hx, hr1, fun y e2 z H2 h5 s2 => ?_⟩
    split at h5
    · rename_i xs zz hi
      obtain ⟨j, x0, hj, hj2, h6⟩ := h5
      obtain ⟨Z, O, r, _⟩ := s2.rep rfl
      cases r
      have s3 := s2.drop
      obtain ⟨a1, ws1, f1, f2, f3, ⟨Z', O', rl⟩, _⟩ := ST.mutL (ds := []) (us := []) (ys := []) s3 rfl hi
      rw [e1'] at f1
      cases f1
      obtain ⟨w, hw, rw'⟩ := rl.get hj2
      have hw' : w = .int x0 := by cases rw'; rfl
      subst hw'
      refine ⟨a0, ws1, zz, .int x0, rfl, rfl, .inl (.inl f2), by unfold L2.atI; rw [← f3, hj]; exact hw, B, e2, [], [], P.ex, _, s3, hx, h6, fun y2 e3 z2 H3 h7 s4 => ?_⟩
      split at h7
      · rename_i ys yy hi2
        obtain ⟨j2, hj3, h8⟩ := h7
        obtain ⟨Z, O, r, _⟩ := s4.rep rfl
        cases r
        have s5 := s4.drop
        have s6 : ST X.K g B e3 [.v (.int (f x0 yy))] σ [.int (f x0 yy)] H3 := s5.flat fun Z => .int _
        obtain ⟨a2, ws2, g1, g2, g3, _, g5⟩ := ST.mutL (ds := [.int (f x0 yy)]) (us := [.int (f x0 yy)]) (rs := []) (vs := []) (ys := ys.set j2 (.int (f x0 yy))) s6 rfl hi2
        rw [e1'] at g1
        cases g1
        refine ⟨x0, yy, rfl, rfl, a0, ws2, zz, j2, rfl, rfl, g2, by rw [← g3]; exact hj3, fun hl' => hD.nx _ _ _ (by rw [← c.hN]; exact hl') h8 (g5 _ fun Z O1 O2 r1 r2 O b1 b2 => ?_)⟩
        cases r2 with
        | cons c1 c2 r t => exact RepL.setj j2 r1 (r.up c1) b1 b2
      · exact h7.elim
    · exact h5.elim
  rcases hop with rfl | rfl
  · exact base (fun i j => i + j) (fun en P h => by unfold run at h; exact h) ip_add
  · exact base (fun i j => i - j) (fun en P h => by unfold run at h; exact h) ip_sub
theorem t_setf (c : Ct G g k sc N W X) {i : Nat} {f : String} {m : E} {x fn : Str} {v : Expr} {p sp ap : Pos} (h1 : slotIs N i x = true) (h2 : vis sc x = true) (h3 : (!(x == ("__debug__" : Str))) = true) (h4 : (!(x == ("__classdict__" : Str))) = true) (hf : fn = Str.ofString f) (hl : isLC v = false)
    (hv : PE X v (tE X.K g G W m)) : PS X (.Assign [.Attribute (.Name x p) fn sp] v ap) (tS X.K g G W N.length pn (run G (.setf i f m))) := by
  subst hf
  have ho : PE X (.Name x p) (tVar i) := pe_name c (by rw [h1, h2, h3, h4]; rfl)
  refine (ps_fld ho hv (swap_no hl)).imL fun D σ H hlen ⟨B, en, P, hs', hx, hpn, hr, hD⟩ => ?_
  unfold run at hr
  refine ⟨B, en, [], [], P.ex, _, hs', hx, hr, fun d e1 u H1 h5 s1 => ?_⟩
  split at h5
  · rename_i cn ns fs hi
    obtain ⟨hk, hno, hlt, h6⟩ := h5
    obtain ⟨a, dx, ws, e1', ea, hl2, hst⟩ := s1.mutI hi
    obtain ⟨cl, na⟩ := c.ok.fok _ _ hk
    refine ⟨.ref a, e1', a, g cn, dx, _, rfl, ea, cl, na, ?_, fun hl' => ?_⟩
    · rw [List.length_zip]
      omega
    · rw [putF_new hl2 hno]
      exact hD.nx _ _ _ (by rw [← c.hN]; exact hl') h6 (hst _)
  · exact h5.elim
theorem t_expr (c : Ct G g k sc N W X) {m : E} {v : Expr} {ap : Pos} (h : isLC v = false) (hv : PE X v (tE X.K g G W m)) : PS X (.Expr v ap) (tS X.K g G W N.length pn (run G (.expr m))) := by
  refine (ps_expr hv (swap_no h)).imL fun D σ H hlen ⟨B, en, P, hs', hx, hpn, hr, hD⟩ => ?_
  unfold run at hr
  exact ⟨B, en, [], [], P.ex, _, hs', hx, hr, fun d e1 u H1 h1 s1 hl => hD.nx _ _ _ (by rw [← c.hN]; exact hl) h1 s1.drop⟩
theorem ST.take {B : Bs} {en : En} {i : Nat} {d : Pf.D} {σ : Sg} {H : Hp} (h : ST X.K g B en [] σ [] H) (hi : (en[i]?).join = some d) : ∃ v, σ[i]? = some (some v) ∧ ST X.K g B (en.set i none) [.v d] σ [v] H := by
  obtain ⟨⟨Z, O, O1, O2, e, t, s1, s2, q, p⟩, hl⟩ := h
  obtain ⟨v, A, C, ev, r, e', a1, a2⟩ := e.split (join_some hi)
  refine ⟨v, ev, ⟨Z, O, C, fun b => A b ∨ O2 b, e', .v (O1 := A) (O2 := O2) (fun b z => .inl z) (fun b z => ⟨.inr z, fun y => (s2 b z).2 (a1 b y)⟩) r t, fun b z => s1 b (a2 b z).1, fun b z => ?_, q, p⟩, rfl⟩
  rcases z with z | z
  · exact ⟨s1 b (a1 b z), fun y => (a2 b y).2 z⟩
  · exact ⟨(s2 b z).1, fun y => (s2 b z).2 (a2 b y).1⟩
theorem t_ret (c : Ct G g k sc N W X) {m : E} {v : Expr} {ap : Pos} (h : ∀ i, m ≠ .var i) (hv : PE X v (tE X.K g G W m)) : PS X (.Return (some v) ap) (tS X.K g G W N.length pn (run G (.ret m))) := by
  refine (ps_ret hv).imL fun D σ H hlen ⟨B, en, P, hs', hx, hpn, hr, hD⟩ => ?_
  have hr' : ev G m en P.rt P.ex := by
    cases m <;> first | (exact absurd rfl (h _)) | (unfold run at hr; exact hr)
  exact ⟨B, en, [], [], P.ex, _, hs', hx, hr', fun d e1 u H1 h1 s1 => hD.rt _ _ _ _ _ h1 s1⟩
theorem t_retV (c : Ct G g k sc N W X) {i : Nat} {x : Str} {p ap : Pos} (h : (slotIs N i x && (vis sc x && (!(x == ("__debug__" : Str)) && !(x == ("__classdict__" : Str))))) = true) : PS X (.Return (some (.Name x p)) ap) (tS X.K g G W N.length pn (run G (.ret (.var i)))) := by
  refine (ps_ret (pe_name c h)).imL fun D σ H hlen ⟨B, en, P, hs', hx, hpn, hr, hD⟩ => ?_
  unfold run at hr
  dsimp only at hr
  split at hr
  · rename_i d hd
    by_cases hf : fz d = true
    · rw [if_pos hf] at hr
      obtain ⟨v, ev, s⟩ := hs'.read hd hf
      exact ⟨v, ev, hD.rt _ _ _ _ _ hr s⟩
    · rw [if_neg hf] at hr
      obtain ⟨v, ev, s⟩ := ST.take hs' hd
      exact ⟨v, ev, hD.rt _ _ _ _ _ hr s⟩
  · exact hr.elim
theorem t_if (c : Ct G g k sc N W X) {mc : E} {a b : Ss} {x : Expr} {p q : List Stmt} {ap : Pos} (hc : PT X x (tT X.K g G W mc)) (ha : PSs X p (tS X.K g G W N.length pn (runs G a))) (hb : PSs X q (tS X.K g G W N.length pn (runs G b))) :
    PS X (.If x p q ap) (tS X.K g G W N.length pn (run G (.iff mc a b))) := by
  refine (⟨fun pins s σ H D I h => (ps_if hc ha hb).run pins s σ H D I h⟩ : PS X (.If x p q ap) (tIfS (tT X.K g G W mc) (tS X.K g G W N.length pn (runs G a)) (tS X.K g G W N.length pn (runs G b)))) |> fun h0 => ⟨fun pins s σ H D I ⟨B, en, P, hs', hx, hpn, hr, hD⟩ => h0.run pins s σ H D I ?_⟩
  unfold run at hr
  refine ⟨B, en, [], [], P.ex, fun t e1 => if t = true then runs G a e1 P else runs G b e1 P, hs', hx, hr, fun t e1 H1 h1 s1 => ?_⟩
  cases t with
  | true => exact ⟨B, e1, P, s1, hx, hpn, h1, hD⟩
  | false => exact ⟨B, e1, P, s1, hx, hpn, h1, hD⟩
theorem t_while (cs : Cs X sc) (c : Ct G g k sc N W X) {mc : E} {b : Ss} {x : Expr} {p : List Stmt} {ap : Pos} (hc : PT X x (tT X.K g G W mc)) (hb : PSs X p (tS X.K g G W N.length pn (runs G b))) :
    PS X (.While x p [] ap) (tS X.K g G W N.length pn (run G (.whl mc b))) := by
  refine (ps_while cs.po hc (hb.imL (t' := fun D σ H => σ.length = N.length → tS X.K g G W N.length pn (runs G b) (D.len N.length) σ H) fun D σ H hl h => by
    rw [c.hN] at hl ⊢
    exact h hl)).imL fun D σ H hlen ⟨B, en, P, hs', hx, hpn, hr, hD⟩ => ?_
  unfold run at hr
  rw [c.hN] at hlen ⊢
  obtain ⟨n0, hr⟩ := hr
  refine ⟨fun m σ H => σ.length = N.length ∧ ∃ en, ST X.K g B en [] σ [] H ∧ whW (fun e1 K => ev G mc e1 (fun d e2 => ∃ t, d = .bl t ∧ K t e2) P.ex) (fun e1 K => runs G b e1 { P with nx := K, ct := K, bk := P.nx }) P.nx m en, ⟨n0, hlen, en, hs', hr⟩, ?_⟩
  rintro m σ1 H1 ⟨hl1, e1, s1, h1⟩
  cases m with
  | zero => exact (show False from h1).elim
  | succ m =>
    refine ⟨B, e1, [], [], P.ex, fun t e2 => if t = true then runs G b e2 { P with nx := whW (fun e1 K => ev G mc e1 (fun d e2 => ∃ t, d = .bl t ∧ K t e2) P.ex) (fun e1 K => runs G b e1 { P with nx := K, ct := K, bk := P.nx }) P.nx m, ct := whW (fun e1 K => ev G mc e1 (fun d e2 => ∃ t, d = .bl t ∧ K t e2) P.ex) (fun e1 K => runs G b e1 { P with nx := K, ct := K, bk := P.nx }) P.nx m, bk := P.nx } else P.nx e2, s1, hx, h1, fun t e2 H2 h2 s2 => ?_⟩
    cases t with
    | true =>
      rw [if_pos rfl] at h2 ⊢
      refine ⟨fun σ' H' => σ'.length = N.length ∧ ∃ en, ST X.K g B en [] σ' [] H' ∧ whW (fun e1 K => ev G mc e1 (fun d e2 => ∃ t, d = .bl t ∧ K t e2) P.ex) (fun e1 K => runs G b e1 { P with nx := K, ct := K, bk := P.nx }) P.nx m en, fun σ' H' h => ⟨m, Nat.lt_succ_self m, h⟩, fun hl2 => ⟨B, e2, { P with nx := whW (fun e1 K => ev G mc e1 (fun d e2 => ∃ t, d = .bl t ∧ K t e2) P.ex) (fun e1 K => runs G b e1 { P with nx := K, ct := K, bk := P.nx }) P.nx m, ct := whW (fun e1 K => ev G mc e1 (fun d e2 => ∃ t, d = .bl t ∧ K t e2) P.ex) (fun e1 K => runs G b e1 { P with nx := K, ct := K, bk := P.nx }) P.nx m, bk := P.nx }, s2, hx, hpn, h2, ?_⟩⟩
      exact ⟨fun en' σ' H' hl' h' s' _ => ⟨hl', en', s', h'⟩, hD.rt, fun en' σ' H' hl' h' s' _ _ => hD.nx en' σ' H' hl' h' s', fun en' σ' H' hl' h' s' _ => ⟨hl', en', s', h'⟩⟩
    | false =>
      rw [if_neg Bool.false_ne_true] at h2 ⊢
      exact fun _ => hD.nx _ _ _ hl1 h2 s2
theorem t_for (cs : Cs X sc) (c : Ct G g k sc N W X) {tg : List Nat} {src : Src} {b : Ss} {t it : Expr} {p : List Stmt} {ap : Pos} (h1 : chkTgt N sc.names tg t = true) (h2 : tg.all (fun i => !pn.contains i) = true) (h3 : nset it = true)
    (hi : PI X t it (tI X.K g G W src)) (hb : PSs X p (tS X.K g G W N.length pn (runs G b))) : PS X (.For t it p [] ap) (tS X.K g G W N.length pn (run G (.forr tg src b))) := by
  have hg : PG X t (tG X.K g tg) := g_tg cs.calm c.hN c.nd (fun x h => ⟨by rw [c.sc]; exact h, .inl (cs.fn x)⟩) h1
  have hlt : ∀ i ∈ tg, i < N.length := by
    have hall : ∀ {tg : List Nat} {es : List Expr}, chkTg N sc.names tg es = true → ∀ i ∈ tg, i < N.length := by
      intro tg
      induction tg with
      | nil => intro es _ i hi; cases hi
      | cons a tg ih =>
        intro es h i hi
        cases es with
        | nil => cases h
        | cons e es =>
          cases e with
          | Name y q =>
            obtain ⟨k1, k2⟩ := and2 h
            rcases List.mem_cons.mp hi with rfl | hi
            · exact slot_lt (and2 k1).1
            · exact ih k2 i hi
          | _ => cases h
    match tg, t, h1 with
    | [i], .Name x q, h1 =>
      intro j hj
      cases List.mem_singleton.mp hj
      exact slot_lt (and2 h1).1
    | i :: j :: is, .Tuple es kk q, h1 => exact hall h1
  refine (ps_for cs.po cs.calm hi hg (hb.imL (t' := fun D σ H => σ.length = N.length → tS X.K g G W N.length pn (runs G b) (D.len N.length) σ H) fun D σ H hl h => by
    rw [c.hN] at hl ⊢
    exact h hl) (fun x => folded_of h3 x)).imL fun D σ H hlen ⟨B, en, P, hs', hx, hpn, hr, hD⟩ => ?_
  unfold run at hr
  rw [c.hN] at hlen ⊢
  refine ⟨B, en, [], [], P.ex, _, hs', hx, hr, fun ds e1 J H1 tc vc h1' hf hlc hJ s1 => ?_⟩
  have hin : InB (B.add tc vc) tc vc := InB.add hlc
  refine ⟨fun i m σ H => m = ds.length - i ∧ i ≤ ds.length ∧ σ.length = N.length ∧ ∃ en, ST X.K g (B.add tc vc) en [] σ [] H ∧ frW tg (fun e2 K => runs G b e2 { P with nx := K, ct := K, bk := P.nx }) P.nx (ds.drop i) en, ⟨ds.length, by simp, Nat.zero_le _, hlen, e1, s1, h1'⟩, ?_⟩
  rintro i m σ2 H2 ⟨rfl, hi', hl2, en2, s2, h4⟩
  obtain ⟨j1, j2, j3⟩ := s2.turn hin hf hJ i
  by_cases hlt' : i < ds.length
  · rw [List.drop_eq_getElem_cons hlt', frW] at h4
    refine .inr ⟨j1 hlt', fun σ' H' => σ'.length = N.length ∧ ∃ en, ST X.K g (B.add tc vc) en [] σ' [] H' ∧ frW tg (fun e2 K => runs G b e2 { P with nx := K, ct := K, bk := P.nx }) P.nx (ds.drop (i + 1)) en, fun σ' H' ⟨hl', en', q⟩ => ⟨ds.length - (i + 1), by omega, rfl, hlt', hl', en', q⟩, fun x H' hy => ?_⟩
    obtain ⟨e0, s3⟩ := j3 x H' ds[i] (List.getElem?_eq_getElem hlt') hy
    subst e0
    refine ⟨_, en2, [], [], ds[i], _, s3, fun j hj => ⟨by rw [hl2]; exact hlt j hj, fun p hp e => notin (List.all_eq_true.mp h2 j hj) (e ▸ hpn p hp)⟩, h4, fun e3 σ3 h5 hl3 _ s4 hl5 => ⟨B.add tc vc, e3, { P with nx := frW tg (fun e2 K => runs G b e2 { P with nx := K, ct := K, bk := P.nx }) P.nx (ds.drop (i + 1)), ct := frW tg (fun e2 K => runs G b e2 { P with nx := K, ct := K, bk := P.nx }) P.nx (ds.drop (i + 1)), bk := P.nx }, s4, hx.add hlc, hpn, h5, ?_⟩⟩
    exact ⟨fun en' σ' H' hl' h' s' _ => ⟨hl', en', s', h'⟩, fun d en' σ' v H' h' s' => hD.rt d en' σ' v H' h' (s'.pop hlc), fun en' σ' H' hl' h' s' _ _ => hD.nx en' σ' H' hl' h' (s'.pop hlc), fun en' σ' H' hl' h' s' _ => ⟨hl', en', s', h'⟩⟩
  · have e0 : i = ds.length := by omega
    subst e0
    rw [List.drop_length, frW] at h4
    exact .inl ⟨j2 (Nat.le_refl _), fun _ => hD.nx _ _ _ hl2 h4 (s2.pop hlc)⟩
end
end Pf

/-! Errors raised. -/
namespace Pf
open PySem PySem.Spec PyProof.Rows L2
section
variable {X : Cx}
/-- X(), X an own error class without own __init__ -/
theorem pmk_nul {C : Addr} {bmB : List Value} {B newId initId : String} {x : Str} {p pos : Pos} (F : ExcBaseFacts B newId initId bmB) (q : PySem.W.excIn X.K C bmB newId = true) (gC : X.mg x = some (.ref C))
    (kC : PySem.W.keepIn X.K (.ref C) = true) (r : Raises X (.ref C)) (hg : Gl X x) (hdb : (x == ("__debug__" : Str)) = false) :
    PMk X (.Call (.Name x p) [] [] pos) (fun _ H Q => Q (.ref C) none H) := by
  intro pins s σ H Q J hq
  refine wpAny_Call_Name_kw (ld_glob J hg gC ?_ hdb)
  refine PySem.W.callWith_K0 J.kIn kC ?_
  show wpAny _ _ (call (.ref C) []) _ _ _
  obtain ⟨bm, M, nm, qn, bs, hdct, sn, sub, ab, col, dd, k0, k1, k2, k3, k5, mN, hC, hM, hni, T⟩ := exc_obj J.kIn q
  exact wpAny_call_exc_subT F T hC hM hni (fun hp a mk => mk_of J mk r hq (J.hok.gone mk.new)) (Nat.zero_le _)
end
section
variable {K : PySem.W.Frag} {g : Str → Addr} {B : Bs} {en : En} {rs : List R} {σ : Sg} {vs us : List V} {H : Hp}
theorem ST.freezeL {ds : List D} (h : ST K g B en (ds.map R.v ++ rs) σ (us ++ vs) H) (hl : ds.length = us.length) : ST K g B en ((frzs ds).map R.v ++ rs) σ (us ++ vs) H := by
  obtain ⟨⟨Z, O, O1, O2, e, t, s1, s2, q, p⟩, hl'⟩ := h
  rw [List.append_assoc, List.append_assoc] at t
  obtain ⟨A, C, r, t2, b1, b2⟩ := t.vals hl
  have kz : ∀ (Y : AS), Keep Z Y H H := fun Y a x h _ => h
  have q' : Good B (fun a => Z a ∨ A a) (fun a => O1 a ∨ C a) H := q.frz (O1 := A) (fun a z => (s2 a (b1 a z)).1) fun a z => by
    rcases z with z | z
    · exact ⟨s1 a z, fun y => (s2 a (b1 a y)).2 z⟩
    · exact ⟨(s2 a (b2 a z).1).1, (b2 a z).2⟩
  have r' := r.frz (Z' := fun a => Z a ∨ A a) fun a z => z
  have e1 : (frzs ds).length = ds.length := by rw [r'.length, hl]
  refine ⟨⟨_, _, O1, C, e.keep (fun a z => .inl z) (kz _), ?_, fun b z => .inl z, fun b z => ⟨.inr z, (s2 b (b2 b z).1).2⟩, q', p⟩, ?_⟩
  · rw [List.append_assoc, List.append_assoc]
    exact RepT.addF r' (t2.keep (fun a z => .inl z) (kz _))
  · simp only [List.length_append, List.length_map, e1] at hl' ⊢
    exact hl'
theorem ST.laidO {p : Addr} {o : HO} (h : ST K g B en rs σ vs H) (hp : H p = none) : ST K g B en rs σ vs (upd H p o) := by
  obtain ⟨⟨Z, O, O1, O2, e, t, s1, s2, q, pi⟩, hl⟩ := h
  exact ⟨⟨Z, O, O1, O2, e.keep (fun _ z => z) (keep_new hp), t.keep (fun _ z => z) (keep_new hp), s1, s2, q.new hp, pi⟩, hl⟩
end
theorem zip_at : ∀ {ns : List Str} {vs : List V} {i : Nat} {n : Str} {v : V}, ns.Nodup → ns[i]? = some n → vs[i]? = some v → (ns.zip vs).lookup n = some v
  | [], _, _, _, _, _, h, _ => by cases h
  | _ :: _, [], _, _, _, _, _, h => by cases h
  | m :: ns, u :: vs, 0, n, v, _, h1, h2 => by
    cases h1
    cases h2
    rw [List.zip_cons_cons, List.lookup_cons]
    simp
  | m :: ns, u :: vs, i + 1, n, v, nd, h1, h2 => by
    rw [List.nodup_cons] at nd
    have h1' : ns[i]? = some n := h1
    have hne : (n == m) = false := by
      rw [beq_eq_false_iff_ne]
      intro e
      exact nd.1 (e ▸ List.mem_of_getElem? h1')
    rw [List.zip_cons_cons, List.lookup_cons, hne]
    exact zip_at nd.2 h1' h2
section
variable {G : Gb} {g : Str → Addr} {k : Nat} {sc : Scope} {N : List Str} {W : WX} {X : Cx} {pn : List Nat}
theorem t_raise (cs : Cs X sc) (c : Ct G g k sc N W X) {cn : String} {ms : Es} {x : Str} {args : List Expr} {p q ap : Pos} {ns : List Str} (hc : G.excs cn = some ns) (hnl : ns.length = args.length) (hx : x = Str.ofString cn) (hg : gl sc x = true) (hn : args.all nst = true) (hl : esLen ms = args.length) (h100 : args.length ≤ 100)
    (ha : PA X args (tV X.K g G W ms)) : PS X (.Raise (some (.Call (.Name x p) args [] q)) none ap) (tS X.K g G W N.length pn (run G (.raise cn ms))) := by
  subst hx
  have F := c.ok.exc cn ns hc
  have rs : Raises X (.ref (g (Str.ofString cn))) := raises_own F.sub F.ty
  have out : ∀ {B : Bs} {en : En} {P : Pt} {ds : List Pf.D} {us : List V} {σ : L2.St} {H : Hp} {d : Option Addr} {H' : Hp}, XL X.K g G B W P.ex → ST X.K g B en (ds.map R.v ++ []) σ (us ++ []) H → ds.length = us.length → ns.length = ds.length → P.ex cn (frzs ds) en →
      ((ns = [] ∧ d = none ∧ H' = H) ∨ ∃ dx fV, d = some dx ∧ H dx = none ∧ H' = upd H dx (.xd fV) ∧ ∀ (i : Nat) (n : Str) (v : V), ns[i]? = some n → us[i]? = some v → fV.lookup n = some v) → W (.ref (g (Str.ofString cn))) d σ H' := by
    intro B en P ds us σ H d H' hx s l1 l2 hp hd
    have s1 := s.freezeL l1
    have e1 : (frzs ds).length = us.length := by
      have := s1.2
      simpa using this
    have s2 : SR X.K g B en ((frzs ds).map R.v ++ B.ts.map R.v) σ (us ++ B.tv) H := by
      have z := s1.1
      simpa only [List.append_nil] using z
    rcases hd with ⟨h1, rfl, rfl⟩ | ⟨dx, fV, rfl, h0, rfl, hlk⟩
    · exact hx cn _ en σ _ _ _ hp ⟨us, ns, [], s2, e1, fzs_frzs ds, rfl, hc, by rw [e1, ← l1, l2], fun _ => h1, (fun dx e => nomatch e), fun i n v h => by rw [h1] at h; cases h⟩
    · refine hx cn _ en σ _ _ _ hp ⟨us, ns, fV, ?_, e1, fzs_frzs ds, rfl, hc, by rw [e1, ← l1, l2], (fun e => nomatch e), (fun dy e => by cases e; exact upd_same), hlk⟩
      have z := (s1.laidO (o := .xd fV) h0).1
      simpa only [List.append_nil] using z
  cases args with
  | nil =>
    have hms : ms = .nil := by
      cases ms with
      | nil => rfl
      | cons _ _ => simp [esLen] at hl
    subst hms
    by_cases hne : ns = []
    · refine (ps_raise cs.calm c.tk (pmk_nul PySem.F.excBase_ValueError (F.nul hne) F.gm F.kp rs (c.gl hg) F.db)).imL fun D σ H hlen ⟨B, en, P, hs', hx, hpn, hr, hD⟩ => ?_
      unfold run evs at hr
      obtain ⟨⟨ns', h1, h2⟩, h3⟩ := hr
      exact out (ds := []) (us := []) hx hs' rfl (by rw [hne]; rfl) h3 (.inl ⟨hne, rfl, rfl⟩)
    · refine ⟨fun pins s σ H D I ⟨B, en, P, hs', hx, hpn, hr, hD⟩ => ?_⟩
      unfold run evs at hr
      obtain ⟨⟨ns', h1, h2⟩, h3⟩ := hr
      rw [hc] at h1
      cases h1
      exact absurd (List.eq_nil_of_length_eq_zero h2) hne
  | cons e es =>
    rw [List.all_cons, Bool.and_eq_true] at hn
    by_cases hne : ns = []
    · rw [hne] at hnl
      cases hnl
    · obtain ⟨T, _, _, fI, fd, ps, j, f1, f2, f3, f4, f5⟩ := F.own hne
      refine (ps_raise cs.calm c.tk (pmk_oex (ds := []) (dvs := []) T f1 f2 f4 ((c.room cs.calm).mono f3) f5 .nil passL (c.gl hg) F.gm ha F.db (star_of hn.1) (stars_of hn.2))).imL fun D σ H hlen ⟨B, en, P, hs', hx, hpn, hr, hD⟩ => ?_
      unfold run at hr
      refine ⟨B, en, [], [], P.ex, _, hs', hx, hr, fun ds e1 us H1 ⟨⟨ns', h1, h2⟩, h3⟩ l1 l2 s1 => ⟨by rw [← l1, l2, hl]; omega, fun a ha' => ?_⟩⟩
      rw [hc] at h1
      cases h1
      refine ⟨a, us, by rw [List.append_nil], by rw [h2, l1], upd_same, fun d H' fV hd hda e1' e2' hlk e3' => ⟨rfl, d, fV, e1', e2', by rw [upd_ne hda] at hd; exact hd, ?_⟩⟩
      have hd1 : H1 d = none := by rw [upd_ne hda] at hd; exact hd
      have eH : upd (del H' a) d (.xd fV) = upd H1 d (.xd fV) := by
        funext b
        by_cases hb : b = d
        · subst hb; rw [upd_same, upd_same]
        · rw [upd_ne hb, upd_ne hb]
          by_cases hba : b = a
          · subst hba; rw [del_same, ha']
          · rw [del_ne hba, e3' b hba hb, upd_ne hba]
      rw [eH]
      exact out hx s1 l1 h2 h3 (.inr ⟨d, fV, rfl, hd1, rfl, hlk⟩)
end
end Pf

/-! try: several clauses, with names and without. -/
namespace Pf
open PySem PySem.Spec PyProof.Rows L2
abbrev Cl := Value × Option Nat × (Addr → Value → Option Addr → TS)
def offD : Option Nat → Ends → Ends
  | none, D => D
  | some i, D => { nx := fun σ H => D.nx (σ.set i none) H, rt := D.rt, bk := fun σ H => D.bk (σ.set i none) H, ct := fun σ H => D.ct (σ.set i none) H }
def setO (σ : Sg) (a : Addr) : Option Nat → Sg
  | none => σ
  | some i => σ.set i (some (.ref a))
def wMix (K : PySem.W.Frag) (Wo : WX) (D : Ends) : List Cl → WX
  | [] => Wo
  | (c, io, ts) :: l => fun cls d σ H => ∃ b, PySem.W.exmOne K cls c = some b ∧ (b = true → ∀ a, H a = none → ts a cls d (offD io D) (setO σ a io) H) ∧ (b = false → wMix K Wo D l cls d σ H)
def SuOk (X : Cx) (ts : Addr → Value → Option Addr → TS) (ss : List Stmt) : Prop := ∀ (a : Addr) (oe : Obj) (cls : Value) (d : Option Addr) (pn : List (Addr × Obj)), Zc cls d oe → (∃ vs, oe.data = .fields vs) → PSs (X.suite a ((a, oe) :: pn)) ss (ts a cls d)
inductive HdsM (X : Cx) : List ExceptHandler → List Cl → Prop
  | nil : HdsM X [] []
  | bare {x : Str} {c : Value} {ts : Addr → Value → Option Addr → TS} {s0 : Stmt} {ss : List Stmt} {p1 p2 : Pos} {hds : List ExceptHandler} {l : List Cl} (hc : Names X x c) (hsu : SuOk X ts (s0 :: ss)) (r : HdsM X hds l) :
      HdsM X (.ExceptHandler (some (.Name x p1)) none (s0 :: ss) p2 :: hds) ((c, none, ts) :: l)
  | named {x n : Str} {i : Nat} {c : Value} {ts : Addr → Value → Option Addr → TS} {s0 : Stmt} {ss : List Stmt} {p1 p2 : Pos} {hds : List ExceptHandler} {l : List Cl} (hc : Names X x c) (hi : X.N[i]? = some n) (hn : X.env.kindOf n = some .local) (hsu : SuOk X ts (s0 :: ss)) (r : HdsM X hds l) :
      HdsM X (.ExceptHandler (some (.Name x p1)) (some n) (s0 :: ss) p2 :: hds) ((c, some i, ts) :: l)
section
variable {X : Cx} {body : List Stmt} {h0 : ExceptHandler} {hds : List ExceptHandler} {l : List Cl} {pos : Pos} {tb : WX → TS} {Wo : WX}
theorem ps_try_mix (stk : X.stack = X.env :: X.outer) (frm : X.env.frame = some X.env.locals) (nd : X.N.Nodup) (tk : Takes X Wo)
    (hb : ∀ (W1 : WX) (pn1 : List (Addr × Obj)) (xe1 : Value → Shared → Prop), Takes (X.tr pn1 xe1) W1 → PassesOwn (model X.prog X.w) X.A X.env xe1 → PSs (X.tr pn1 xe1) body (tb W1))
    (hh : HdsM X (h0 :: hds) l) : PS X (.Try body (h0 :: hds) [] [] pos) (fun D σ H => tb (wMix X.K Wo D l) D σ H) := by
  constructor
  intro pins s σ H D I hw
  have okX := I.ok
  have frs' : X.A.frames = some (X.env :: X.outer) := by rw [okX.frames, stk]
  refine wpAny_Try_except ?_
  let xe1 : Value → Shared → Prop := fun e t1 => wpAny (model X.prog X.w) X.A (noteFrame e X.env) (fun _ t2 => wpAny (model X.prog X.w) X.A (setFlight e none) (fun _ t3 => wpAny (model X.prog X.w) X.A (handleBy e X.env (h0 :: hds)) (SP X pins D) X.xe t3) X.xe t2) X.xe t1
  have caught : Takes (X.tr (X.pn ++ pins) xe1) (wMix X.K Wo D l) := by
    intro u t0 xx
    obtain ⟨ae, Bg, tI, pins1, σ1, H1, cls, d, rfl, J0, notb, upto, sky, nae, eos, bare, w⟩ := xx
    have J1 : Inv X pins σ1 H1 tI := J0.ofTry okX
    have sky1 : Sky Bg (X.env :: X.outer) ae (Zc cls d) X.env.locals t0.heap := stk ▸ sky
    show wpAny (model X.prog X.w) X.A (noteFrame (.ref ae) X.env) _ _ _
    refine Sky.land Zc.steady frs' frm sky1 fun hA flA upA => ?_
    have JA : Inv X pins σ1 H1 { t0 with heap := hA } := J1.landed notb flA.1 (upto.trans upA) eos bare
    obtain ⟨oA, vA, eA, zA, dA⟩ := flA.there
    have outF : ae ∉ frs (X.env :: X.outer) := by
      intro hm
      obtain ⟨_, o', e', nf⟩ := (flA.2.2.1).mem hm
      rw [eA] at e'
      cases e'
      exact nf _ dA
    have outL : ae ≠ X.env.locals := fun z => outF (List.mem_filterMap.mpr ⟨X.env, List.mem_cons_self, by rw [frm, z]⟩)
    have outS : ae ∉ X.fs := by
      intro hm
      obtain ⟨ev, hev, q⟩ := List.mem_filterMap.mp hm
      exact outF (List.mem_filterMap.mpr ⟨ev, List.mem_cons_of_mem _ hev, q⟩)
    have SA := JA.suite eA dA nae outL outS
    have go : ∀ {hd1 : List ExceptHandler} {l1 : List Cl}, HdsM X hd1 l1 → wMix X.K Wo D l1 cls d σ1 H1 → wpAny (model X.prog X.w) X.A (handleBy (.ref ae) X.env hd1) (SP X pins D) X.xe { t0 with heap := hA } := by
      intro hd1 l1 hk
      have test : ∀ {x : Str} {c : Value} {p1 : Pos} {Q E : Value → Shared → Prop}, Names X x c → Q c { t0 with heap := hA } → wpAny (model X.prog X.w) (X.A.mark (some (.ref ae))) (eval (.Name x p1) X.env) Q E { t0 with heap := hA } := by
        intro x c p1 Q E nm q
        obtain ⟨k1, k2, k3 | ⟨k3, k4, k5⟩⟩ := nm
        · exact ld_glob (X := X.suite ae ((ae, oA) :: (X.pn ++ pins))) SA k1 k3 q k2
        · exact ld_blt (X := X.suite ae ((ae, oA) :: (X.pn ++ pins))) SA k1 k3 k4 q k5 k2
      have looks : PySem.W.Looks (model X.prog X.w) hA (typeOf (.ref ae)) cls := fun A Q E s1 kk q => wpAny_typeOf_ref (kk _ _ eA) (by rw [zA.1]; exact q)
      induction hk with
      | nil =>
        intro w
        refine wpAny_handleBy_nil ?_
        obtain ⟨k1, k2, k3, o2, vs2, T2, oT, ts', he, hz, hd, h1, hr⟩ := id flA
        unfold PySem.passOn
        refine wpAny_bind (wpAny_field he hd h1 ?_)
        rw [if_neg (show ¬ ((Value.ref T2 == Value.none) = true) by simp)]
        have fin : wpAny (model X.prog X.w) X.A (setFlight (.ref ae) X.env.frame) (fun _ t4 => wpAny (model X.prog X.w) X.A (throw (.ref ae) : Sem Flow) (SP X pins D) X.xe t4) X.xe { t0 with heap := hA } := by
          rw [frm]
          refine HandSPX.setFlight_upZ flA fun hB hhB upB => wpAny_throw (tk _ _ ?_)
          exact ⟨ae, Bg, tI, pins, σ1, H1, cls, d, rfl, J1, notb, (upto.trans upA).trans upB, .inr (.inr (stk.symm ▸ hhB)), nae, eos, bare, w⟩
        first
          | exact wpAny_bind (wpAny_pure (wpAny_bind fin))
          | exact wpAny_bind fin
      | @bare x c ts s0 ss p1 p2 hds2 l2 hc hsu r ih =>
        intro w
        obtain ⟨b, hb1, yes, no⟩ := w
        refine wpAny_handleBy_cons (codeAny_handlers_test ?_) (fun q => nomatch q)
        refine test hc ((PySem.W.exm_one (M := model X.prog X.w) JA.kIn looks hb1).here ?_)
        cases b with
        | false => exact ih (no rfl)
        | true =>
          refine codeAny_handlers_suite (HandSPX.lands_againZ flA fun hB flB upB => ?_)
          have JB : Inv X pins σ1 H1 { t0 with heap := hB } := J1.landed notb flB.1 ((upto.trans upA).trans upB) eos bare
          obtain ⟨oB, vB, eB, zB, dB⟩ := flB.there
          have SB := JB.suite eB dB nae outL outS
          refine wpAny_mono ((hsu ae oB cls d (X.pn ++ pins) zB ⟨_, dB⟩).run [] _ _ H1 _ SB (yes rfl ae nae)) (fun f t6 q => ?_) (fun _ _ z => False.elim z)
          cases f with
          | next => obtain ⟨σ6, H6, S6, q6⟩ := q; exact ⟨_, _, S6.unsuite okX, q6⟩
          | brk => obtain ⟨σ6, H6, S6, q6⟩ := q; exact ⟨_, _, S6.unsuite okX, q6⟩
          | cont => obtain ⟨σ6, H6, S6, q6⟩ := q; exact ⟨_, _, S6.unsuite okX, q6⟩
          | ret u => obtain ⟨v6, σ6, H6, S6, r6, q6⟩ := q; exact ⟨_, _, _, S6.unsuite okX, r6, q6⟩
      | @named x n i c ts s0 ss p1 p2 hds2 l2 hc hi hn hsu r ih =>
        intro w
        obtain ⟨b, hb1, yes, no⟩ := w
        refine wpAny_handleBy_cons (codeAny_handlers_test ?_) (fun q => nomatch q)
        refine test hc ((PySem.W.exm_one (M := model X.prog X.w) JA.kIn looks hb1).here ?_)
        cases b with
        | false => exact ih (no rfl)
        | true =>
          refine codeAny_handlers_suite_as (HandSPX.lands_againZ flA fun hB flB upB => ?_)
          have JB : Inv X pins σ1 H1 { t0 with heap := hB } := J1.landed notb flB.1 ((upto.trans upA).trans upB) eos bare
          obtain ⟨oB, vB, eB, zB, dB⟩ := flB.there
          have SB := JB.suite eB dB nae outL outS
          refine store_ok (X := X.suite ae ((ae, oB) :: (X.pn ++ pins))) (v := .ref ae) SB nd hi (.inl hn) rfl (fun t5 S5 => ?_) (.inr hn)
          refine wpAny_mono ((hsu ae oB cls d (X.pn ++ pins) zB ⟨_, dB⟩).run [] t5 _ H1 _ S5 (yes rfl ae nae)) (fun f t6 q => ?_) (fun _ _ z => False.elim z)
          have away : ∀ {σ6 : L2.St} {H6 : Hp} {Q : Shared → Prop}, Inv (X.suite ae ((ae, oB) :: (X.pn ++ pins))) [] σ6 H6 t6 → (∀ t7, Inv X pins (σ6.set i none) H6 t7 → Q t7) →
              wpAny (model X.prog X.w) X.A (do bindName X.env n .none; unbindBehindTheSuite X.env n p2) (fun _ t7 => Q t7) X.xe t6 := fun S6 hq => gone_ok (S6.unsuite okX) nd hi hn hq
          cases f with
          | next => obtain ⟨σ6, H6, S6, q6⟩ := q; exact away S6 fun t7 J7 => ⟨_, _, J7, q6⟩
          | brk => obtain ⟨σ6, H6, S6, q6⟩ := q; exact away S6 fun t7 J7 => ⟨_, _, J7, q6⟩
          | cont => obtain ⟨σ6, H6, S6, q6⟩ := q; exact away S6 fun t7 J7 => ⟨_, _, J7, q6⟩
          | ret u => obtain ⟨v6, σ6, H6, S6, r6, q6⟩ := q; exact away S6 fun t7 J7 => ⟨_, _, _, J7, r6, q6⟩
    exact go hh w
  refine wpAny_mono ((hb _ (X.pn ++ pins) xe1 caught PassesOwn.looking).run [] s σ H D (I.toTry _) hw) (fun f t1 q => ?_) (fun _ _ z => z)
  cases f with
  | next => obtain ⟨σ1, H1, J1, q1⟩ := q; exact wpAny_execs_nil ⟨σ1, H1, J1.ofTry okX, q1⟩
  | brk => obtain ⟨σ1, H1, J1, q1⟩ := q; exact ⟨σ1, H1, J1.ofTry okX, q1⟩
  | cont => obtain ⟨σ1, H1, J1, q1⟩ := q; exact ⟨σ1, H1, J1.ofTry okX, q1⟩
  | ret u => obtain ⟨v1, σ1, H1, J1, r1, q1⟩ := q; exact ⟨v1, σ1, H1, J1.ofTry okX, r1, q1⟩
end
end Pf

/-! except suites. -/
namespace Pf
open PySem PySem.Spec PyProof.Rows L2
section
variable (K : PySem.W.Frag) (g : Str → Addr)
/-- in a suite: the caught error's fields stay with the frame -/
structure SX (B : Bs) (en : En) (rs : List R) (σ : Sg) (vs : List V) (H : Hp) (ns : List Str) (fs : List D) (fv : List V) (io : Option Nat) (a : Addr) (d : Option Addr) : Prop where
  st : ST K g (B.add fs fv) en rs σ vs H
  hf : fzs fs = true
  hl : fs.length = fv.length
  hn : ns.length = fs.length
  xd : ∀ dx, d = some dx → ∃ fV, H dx = some (.xd fV) ∧ ∀ (i : Nat) (n : Str) (v : V), ns[i]? = some n → fv[i]? = some v → fV.lookup n = some v
  dn : d = none → ns = []
  nm : ∀ i, io = some i → σ[i]? = some (some (.ref a))
end
section
variable {K : PySem.W.Frag} {g : Str → Addr} {B : Bs} {en : En} {rs rs' : List R} {σ : Sg} {vs vs' : List V} {H H' : Hp} {ns : List Str} {fs : List D} {fv : List V} {io : Option Nat} {a : Addr} {d : Option Addr}
theorem SX.of (h : SX K g B en rs σ vs H ns fs fv io a d) (s : ST K g (B.add fs fv) en rs' σ vs' H) : SX K g B en rs' σ vs' H ns fs fv io a d := ⟨s, h.hf, h.hl, h.hn, h.xd, h.dn, h.nm⟩
theorem SX.grow (h : SX K g B en rs σ vs H ns fs fv io a d) {p : Addr} {o : HO} (hp : H p = none) (s : ST K g (B.add fs fv) en rs' σ vs' (upd H p o)) : SX K g B en rs' σ vs' (upd H p o) ns fs fv io a d :=
  ⟨s, h.hf, h.hl, h.hn, fun dx e => by
    obtain ⟨fV, h1, h2⟩ := h.xd dx e
    exact ⟨fV, upd_new hp h1, h2⟩, h.dn, h.nm⟩
/-- a field goes in flight -/
theorem ST.fld {j : Nat} {dd : D} (h : ST K g (B.add fs fv) en rs σ vs H) (hl : fs.length = fv.length) (hf : fzs fs = true) (hj : fs[j]? = some dd) : ∃ v, fv[j]? = some v ∧ ST K g (B.add fs fv) en (.v dd :: rs) σ (v :: vs) H := by
  obtain ⟨⟨Z, O, O1, O2, e, t, s1, s2, q, p⟩, hl'⟩ := h
  have t1 : RepT K g Z H σ ([] ++ (rs ++ (fs.map R.v ++ B.ts.map R.v))) ([] ++ (vs ++ (fv ++ B.tv))) O2 := by
    have z := t
    unfold Bs.add at z
    rw [List.map_append] at z
    exact z
  have t2 := RepT.mid (xs := []) (vs := []) t1 rfl hl'
  obtain ⟨A, C, r, _⟩ := RepT.vals (by simpa only [List.nil_append] using t2) hl
  obtain ⟨v, h1, h2⟩ := (r.none hf).get hj
  exact ⟨v, h1, ⟨Z, O, O1, O2, e, .v (O1 := AS.no) (fun _ z => z.elim) (fun _ z => ⟨z, id⟩) h2 t, s1, s2, q, p⟩, by rw [List.length_cons, List.length_cons, hl']⟩
end
section
variable (K : PySem.W.Frag) (g : Str → Addr) (G : Gb) (io : Option Nat) (a : Addr) (cls : Value) (d : Option Addr)
def tU (u : U) : TE := fun σ H Q => ∃ c ns fs fv B en rs vs k, cls = .ref (g (Str.ofString c)) ∧ G.excs c = some ns ∧ SX K g B en rs σ vs H ns fs fv io a d ∧ uv ns fs en u k ∧ ∀ dd v H', k dd → SX K g B en (.v dd :: rs) σ (v :: vs) H' ns fs fv io a d → Q v H'
def tUs (us : List U) : TA := fun σ H Q => ∃ c ns fs fv B en rs vs k, cls = .ref (g (Str.ofString c)) ∧ G.excs c = some ns ∧ SX K g B en rs σ vs H ns fs fv io a d ∧ uvs ns fs en us k ∧
  ∀ dds ws H', k dds → dds.length = ws.length → dds.length = us.length → SX K g B en (dds.map R.v ++ rs) σ (ws ++ vs) H' ns fs fv io a d → Q ws H'
end
section
variable {G : Gb} {g : Str → Addr} {k : Nat} {sc : Scope} {N : List Str} {W : WX} {X : Cx} {pn : List Nat} {io : Option Nat} {a : Addr} {cls : Value} {d : Option Addr} {oe : Obj} {pn1 : List (Addr × Obj)}
theorem Ct.suite (c : Ct G g k sc N W X) (a : Addr) (pn1 : List (Addr × Obj)) : Ct G g k sc N WF (X.suite a pn1) where
  hN := c.hN
  nd := c.nd
  sc := c.sc
  room := fun h => (nomatch h)
  hu := c.hu
  tk := fun u s' ⟨_, _, _, _, _, _, _, _, _, _, _, _, _, _, _, _, w⟩ => w.elim
  ok := c.ok
theorem u_flat {e : Expr} {u : U} {dd : Pf.D} {v : V} (p : PE X e (tC v)) (h : ∀ ns fs en k, uv ns fs en u k → k dd) (r : ∀ Z H, Rep X.K g Z H dd v AS.no) : PE X e (tU X.K g G io a cls d u) :=
  p.im fun σ H Q ⟨c, ns, fs, fv, B, en, rs, vs, k, h1, h2, h3, h4, h5⟩ => h5 _ _ _ (h _ _ _ _ h4) (h3.of (h3.st.flat fun Z => r Z H))
theorem us_len {io : Option Nat} : ∀ (us : List U) {es : List Expr}, chkUs N io us sc es = true → us.length = es.length
  | [], es, h => by
    cases es with
    | nil => rfl
    | cons _ _ => unfold chkUs at h; cases h
  | u :: us, es, h => by
    cases es with
    | nil => unfold chkUs at h; cases h
    | cons e es =>
      unfold chkUs at h
      rw [List.length_cons, List.length_cons, us_len us (and2 (and2 h).2).2]
theorem iu_tup {io : Option Nat} {us : List U} {sc : Scope} {e : Expr} (h : chkU N io (.tup us) sc e = true) : ∃ es kk p, e = .Tuple es kk p ∧ es.length ≤ 1000 ∧ chkUs N io us sc es = true := by
  unfold chkU at h
  split at h
  all_goals first | contradiction | (cases h; done) | skip
  rename_i hh
  cases hh
  exact ⟨_, _, _, rfl, of_decide_eq_true (and2 h).1, (and2 h).2⟩
theorem iu_lst {io : Option Nat} {us : List U} {sc : Scope} {e : Expr} (h : chkU N io (.lst us) sc e = true) : ∃ es p, e = .List es p ∧ es.length ≤ 1000 ∧ chkUs N io us sc es = true := by
  unfold chkU at h
  split at h
  all_goals first | contradiction | (cases h; done) | skip
  rename_i hh
  cases hh
  exact ⟨_, _, rfl, of_decide_eq_true (and2 h).1, (and2 h).2⟩
mutual
theorem u_ok (c : Ct G g k sc N W X) (hz : Zc cls d oe) (hf : ∃ vs, oe.data = .fields vs) : ∀ (u : U) {e : Expr}, chkU N io u sc e = true → PE (X.suite a ((a, oe) :: pn1)) e (tU X.K g G io a cls d u)
  | .int n, e, h => by
    unfold chkU at h
    split at h
    all_goals first | contradiction | (cases h; done) | skip
    rename_i hh
    cases hh
    cases of_decide_eq_true h
    exact u_flat (dd := .int n) pe_int (fun ns fs en k h => by unfold uv at h; exact h) fun Z H => .int n
  | .bl b, e, h => by
    unfold chkU at h
    split at h
    all_goals first | contradiction | (cases h; done) | skip
    rename_i hh
    cases hh
    have e1 := eq_of_beq h
    subst e1
    exact u_flat (dd := .bl b) pe_bl (fun ns fs en k h => by unfold uv at h; exact h) fun Z H => .bl b
  | .non, e, h => by
    unfold chkU at h
    split at h
    all_goals first | contradiction | (cases h; done) | skip
    exact u_flat (dd := .non) pe_non (fun ns fs en k h => by unfold uv at h; exact h) fun Z H => .non
  | .str x, e, h => by
    unfold chkU at h
    split at h
    all_goals first | contradiction | (cases h; done) | skip
    rename_i hh
    cases hh
    cases of_decide_eq_true h
    exact u_flat (dd := .str (Str.ofString x)) pe_str (fun ns fs en k h => by unfold uv at h; exact h) fun Z H => .str _
  | .var i, e, h => by
    unfold chkU at h
    split at h
    all_goals first | contradiction | (cases h; done) | skip
    rename_i hh
    cases hh
    refine (pe_name (c.suite a _) h).im fun σ H Q ⟨c, ns, fs, fv, B, en, rs, vs, k, h1, h2, h3, h4, h5⟩ => ?_
    unfold uv at h4
    split at h4
    · rename_i dd hd
      obtain ⟨v, e1, s⟩ := h3.st.read hd h4.1
      exact ⟨v, e1, h5 _ _ _ h4.2 (h3.of s)⟩
    · exact h4.elim
  | .fld f, e, h => by
    unfold chkU at h
    split at h
    all_goals first | contradiction | (cases h; done) | skip
    rename_i hh
    cases hh
    obtain ⟨k1, k2⟩ := and2 h
    cases of_decide_eq_true k1
    have pn := pe_name (c.suite a ((a, oe) :: pn1)) k2 (p := ?_)
    refine ⟨fun pins s σ H Q I ⟨cn, ns, fs, fv, B, en, rs, vs, k, h1, h2, h3, h4, h5⟩ => ?_⟩
    unfold uv at h4
    obtain ⟨j, dd, hj, hd, hk⟩ := h4
    have F := c.ok.exc cn ns h2
    have hne : ns ≠ [] := fun e => by rw [e] at hj; cases hj
    obtain ⟨_, T, hno, _⟩ := F.own hne
    obtain ⟨v, ev, s2⟩ := ST.fld h3.st h3.hl h3.hf hd
    cases hdx : d with
    | none => exact absurd (h3.dn hdx) hne
    | some dx =>
      obtain ⟨fV, e1, e2⟩ := h3.xd dx hdx
      refine (pe_xf (cls := cls) (d := d) (pn := pn1) (n := Str.ofString f) T (hno _ (List.mem_of_getElem? hj)) hz hf pn rfl).run pins s σ H Q I ?_
      exact ⟨.ref a, h3.nm _ rfl, rfl, h1, dx, fV, v, hdx, e1, e2 j _ v hj ev, h5 _ _ _ hk (h3.of s2)⟩
  | .tup us, e, h => by
    obtain ⟨es, kk, p, rfl, k1, k2⟩ := iu_tup h
    have hl := us_len us k2
    refine (pe_tup (us_ok c hz hf us k2)).im fun σ H Q ⟨cn, ns, fs, fv, B, en, rs, vs, k, h1, h2, h3, h4, h5⟩ => ?_
    unfold uv at h4
    exact ⟨cn, ns, fs, fv, B, en, rs, vs, _, h1, h2, h3, h4, fun dds ws H' q1 q2 q3 q4 => ⟨sizeL (by omega), fun q hq => h5 _ _ _ q1 (q4.grow hq (q4.st.tup q2 hq))⟩⟩
  | .lst us, e, h => by
    obtain ⟨es, p, rfl, k1, k2⟩ := iu_lst h
    have hl := us_len us k2
    refine (pe_lst (us_ok c hz hf us k2)).im fun σ H Q ⟨cn, ns, fs, fv, B, en, rs, vs, k, h1, h2, h3, h4, h5⟩ => ?_
    unfold uv at h4
    exact ⟨cn, ns, fs, fv, B, en, rs, vs, _, h1, h2, h3, h4, fun dds ws H' q1 q2 q3 q4 => ⟨sizeL (by omega), fun q hq => h5 _ _ _ q1 (q4.grow hq (q4.st.lst q2 hq))⟩⟩
theorem us_ok (c : Ct G g k sc N W X) (hz : Zc cls d oe) (hf : ∃ vs, oe.data = .fields vs) : ∀ (us : List U) {es : List Expr}, chkUs N io us sc es = true → PA (X.suite a ((a, oe) :: pn1)) es (tUs X.K g G io a cls d us)
  | [], es, h => by
    cases es with
    | cons _ _ => unfold chkUs at h; cases h
    | nil =>
      refine pa_nil.im fun σ H Q ⟨cn, ns, fs, fv, B, en, rs, vs, k, h1, h2, h3, h4, h5⟩ => ?_
      unfold uvs at h4
      exact h5 [] [] H h4 rfl rfl h3
  | u :: us, es, h => by
    cases es with
    | nil => unfold chkUs at h; cases h
    | cons e es =>
      unfold chkUs at h
      obtain ⟨k1, k2⟩ := and2 h
      obtain ⟨k3, k4⟩ := and2 k2
      refine (pa_cons (u_ok c hz hf u k3) (us_ok c hz hf us k4) (star_of k1)).im fun σ H Q ⟨cn, ns, fs, fv, B, en, rs, vs, k, h1, h2, h3, h4, h5⟩ => ?_
      unfold uvs at h4
      refine ⟨cn, ns, fs, fv, B, en, rs, vs, _, h1, h2, h3, h4, fun dd v H1 q1 q2 => ⟨cn, ns, fs, fv, B, en, .v dd :: rs, v :: vs, _, h1, h2, q2, q1, fun dds ws H2 p1 p2 p3 p4 => ?_⟩⟩
      exact h5 (dd :: dds) (v :: ws) H2 p1 (by rw [List.length_cons, List.length_cons, p2]) (by rw [List.length_cons, List.length_cons, p3]) (p4.of (ST.move p4.st (by rw [List.length_map]; exact p2)))
end
end
end Pf

/-! try as a statement. -/
namespace Pf
open PySem PySem.Spec PyProof.Rows L2
def tSu (K : PySem.W.Frag) (g : Str → Addr) (G : Gb) (n : Nat) (pn : List Nat) (io : Option Nat) (u : Su) : Addr → Value → Option Addr → TS := fun a cls d D σ H => ∃ c ns fs fv B en, cls = .ref (g (Str.ofString c)) ∧ G.excs c = some ns ∧ SX K g B en [] σ [] H ns fs fv io a d ∧ (∀ p ∈ B.pin, p.1 ∈ pn) ∧ match u with
  | .asg i x => uv ns fs en x fun dd => ∀ σ' H', σ'.length = n → ST K g B (en.set i (some dd)) [] σ' [] H' → D.nx σ' H'
  | .ret x => uv ns fs en x fun dd => ∀ σ' v H', ST K g B en [.v dd] σ' [v] H' → D.rt v H'
  | .pas => ∀ σ' H', σ'.length = n → ST K g B en [] σ' [] H' → D.nx σ' H'
def clOf (K : PySem.W.Frag) (g : Str → Addr) (G : Gb) (n : Nat) (pn : List Nat) : Hs → List Cl
  | .nil => []
  | .cons c io u hs => (.ref (g (Str.ofString c)), io, tSu K g G n pn io u) :: clOf K g G n pn hs
abbrev wLen (n : Nat) (W : WX) : WX := fun cls d σ H => σ.length = n → W cls d σ H
theorem takes_len {X : Cx} {W : WX} (tk : Takes X W) : Takes X (wLen X.N.length W) := fun u s' ⟨a, B, sI, pins, σ, H, cls, d, e, I, nb, up, sky, na, os, ag, w⟩ => tk u s' ⟨a, B, sI, pins, σ, H, cls, d, e, I, nb, up, sky, na, os, ag, w I.len⟩
section
variable {G : Gb} {g : Str → Addr} {k : Nat} {sc : Scope} {N : List Str} {W : WX} {X : Cx} {pn : List Nat} {el : List (String × Nat)}
theorem isu_asg {io : Option Nat} {i : Nat} {x : U} {st : Stmt} (h : chkSu N pn io (.asg i x) sc st = true) : ∃ y p1 v p, st = .Assign [.Name y p1] v p ∧ (slotIs N i y && (loc sc y && (!pn.contains i && (!isLC v && chkU N io x sc v)))) = true := by
  unfold chkSu at h
  split at h
  all_goals first | contradiction | (cases h; done) | skip
  rename_i hh
  cases hh
  exact ⟨_, _, _, _, rfl, h⟩
theorem isu_ret {io : Option Nat} {x : U} {st : Stmt} (h : chkSu N pn io (.ret x) sc st = true) : ∃ v p, st = .Return (some v) p ∧ chkU N io x sc v = true := by
  unfold chkSu at h
  split at h
  all_goals first | contradiction | (cases h; done) | skip
  rename_i hh
  cases hh
  exact ⟨_, _, rfl, h⟩
theorem isu_pas {io : Option Nat} {st : Stmt} (h : chkSu N pn io .pas sc st = true) : ∃ p, st = .Pass p := by
  unfold chkSu at h
  split at h
  all_goals first | contradiction | (cases h; done) | skip
  exact ⟨_, rfl⟩
theorem su_ok (cs : Cs X sc) (c : Ct G g k sc N W X) {io : Option Nat} {u : Su} {st : Stmt} (h : chkSu N pn io u sc st = true) : SuOk X (tSu X.K g G N.length pn io u) [st] := by
  intro a oe cls d pn1 hz hf
  have cc := c.suite a ((a, oe) :: pn1)
  have hcN : (X.suite a ((a, oe) :: pn1)).N = N := c.hN
  cases u with
  | pas =>
    obtain ⟨p, rfl⟩ := isu_pas h
    refine (pss_one ps_pass).imL fun D σ H hl ⟨cn, ns, fs, fv, B, en, h1, h2, h3, h4, h5⟩ => ?_
    rw [hcN] at hl ⊢
    exact fun hl' => h5 σ H hl (h3.st.pop h3.hl)
  | ret x =>
    obtain ⟨v, p, rfl, h⟩ := isu_ret h
    refine (pss_one (ps_ret (u_ok c hz hf x h))).imL fun D σ H hl ⟨cn, ns, fs, fv, B, en, h1, h2, h3, h4, h5⟩ => ?_
    exact ⟨cn, ns, fs, fv, B, en, [], [], _, h1, h2, h3, h5, fun dd v H' q1 q2 => q1 σ v H' (q2.st.pop q2.hl)⟩
  | asg i x =>
    obtain ⟨y, p1, v, p, rfl, h⟩ := isu_asg h
    obtain ⟨k1, k2⟩ := and2 h
    obtain ⟨k3, k4⟩ := and2 k2
    obtain ⟨k5, k6⟩ := and2 k4
    obtain ⟨k7, k8⟩ := and2 k6
    refine (pss_one (ps_set (X := X.suite a ((a, oe) :: pn1)) (by rw [hcN]; exact c.nd) (by rw [hcN]; exact of_decide_eq_true k1) (cs.loc c k3) (u_ok c hz hf x k8) (swap_no (not1 k7)) (.inl (cs.fn y)))).imL fun D σ H hl ⟨cn, ns, fs, fv, B, en, h1, h2, h3, h4, h5⟩ => ?_
    rw [hcN] at hl ⊢
    refine ⟨cn, ns, fs, fv, B, en, [], [], _, h1, h2, h3, h5, fun dd u H' q1 q2 hl' => q1 _ H' hl' ?_⟩
    have s := ST.set1 (ts := []) q2.st (i := i) (by rw [hl]; exact slot_lt k1) fun p hp e => notin k5 (e ▸ h4 p hp)
    exact s.pop q2.hl
theorem i_hs {cn : String} {io : Option Nat} {u : Su} {hs : Hs} {hds : List ExceptHandler} (h : chkHs N el pn (.cons cn io u hs) sc hds = true) : ∃ x p1 nm st p2 hds', hds = .ExceptHandler (some (.Name x p1)) nm [st] p2 :: hds' ∧ (decide (x = Str.ofString cn) && (gl sc x && (el.any (fun q => q.1 == cn) && (chkNm N pn sc io nm && (chkSu N pn io u sc st && chkHs N el pn hs sc hds'))))) = true := by
  unfold chkHs at h
  split at h
  all_goals first | contradiction | (cases h; done) | skip
  rename_i hh
  cases hh
  exact ⟨_, _, _, _, _, _, rfl, h⟩
theorem hds_ok (cs : Cs X sc) (c : Ct G g k sc N W X) (hel : ∀ q ∈ el, ∃ ns, G.excs q.1 = some ns ∧ ns.length = q.2) : ∀ {hs : Hs} {hds : List ExceptHandler}, chkHs N el pn hs sc hds = true → HdsM X hds (clOf X.K g G N.length pn hs)
  | .nil, hds, h => by
    cases hds with
    | nil => exact .nil
    | cons _ _ => unfold chkHs at h; cases h
  | .cons cn io u hs, hds, h => by
    obtain ⟨x, p1, nm, st, p2, hds', rfl, h⟩ := i_hs h
    obtain ⟨k1, k2⟩ := and2 h
    obtain ⟨k3, k4⟩ := and2 k2
    obtain ⟨k5, k6⟩ := and2 k4
    obtain ⟨k7, k8⟩ := and2 k6
    obtain ⟨k9, k10⟩ := and2 k8
    cases of_decide_eq_true k1
    obtain ⟨q, hq, e⟩ := List.any_eq_true.mp k5
    obtain ⟨ns, e1, _⟩ := hel q hq
    rw [eq_of_beq e] at e1
    have F := c.ok.exc cn ns e1
    have hN : Names X (Str.ofString cn) (.ref (g (Str.ofString cn))) := ⟨c.gl k3, F.db, .inl F.gm⟩
    have hsu := su_ok cs c k9
    have ih := hds_ok cs c hel k10
    match io, nm, k7 with
    | none, none, _ => exact .bare hN hsu ih
    | some i, some n, k7 =>
      obtain ⟨j1, j2⟩ := and2 k7
      obtain ⟨j3, j4⟩ := and2 j2
      refine .named hN (by rw [c.hN]; exact of_decide_eq_true j1) ?_ hsu ih
      show X.env.scope.names.lookup n = some .local
      rw [c.sc]
      exact of_decide_eq_true j3
theorem ST.mark {K : PySem.W.Frag} {B : Bs} {en : En} {σ : Sg} {H : Hp} {i : Nat} {x : Option V} (h : ST K g B en [] σ [] H) (hp : ∀ p ∈ B.pin, p.1 ≠ i) : ST K g B (en.set i none) [] (σ.set i x) [] H := by
  obtain ⟨⟨Z, O, O1, O2, e, t, s1, s2, q, p⟩, hl⟩ := h
  refine ⟨⟨Z, O, O1, O2, (e.off i).cong (List.length_set ..) fun j d h => ?_, RepT.any t, s1, s2, q, fun p' hp' => ?_⟩, rfl⟩
  · by_cases e : i = j
    · subst e
      rw [List.getElem?_set_self'] at h
      cases en[i]? <;> simp at h
    · rw [List.getElem?_set_ne e]
  · rw [List.getElem?_set_ne (Ne.symm (hp p' hp'))]
    exact p p' hp'
theorem ST.mark2 {K : PySem.W.Frag} {B : Bs} {en : En} {σ : Sg} {H : Hp} {i : Nat} {x : Option V} (h : ST K g B en [] σ [] H) (hp : ∀ p ∈ B.pin, p.1 ≠ i) (hn : ∀ d, en[i]? ≠ some (some d)) : ST K g B en [] (σ.set i x) [] H := by
  obtain ⟨⟨Z, O, O1, O2, e, t, s1, s2, q, p⟩, hl⟩ := h
  refine ⟨⟨Z, O, O1, O2, e.cong (List.length_set ..) fun j d h => ?_, RepT.any t, s1, s2, q, fun p' hp' => ?_⟩, rfl⟩
  · by_cases e : i = j
    · subst e
      exact absurd h (hn d)
    · rw [List.getElem?_set_ne e]
  · rw [List.getElem?_set_ne (Ne.symm (hp p' hp'))]
    exact p p' hp'
mutual
theorem uv_mono {ns : List Str} {fs : List Pf.D} {en : En} : ∀ (u : U) {k k' : Pf.D → Prop}, (∀ d, k d → k' d) → uv ns fs en u k → uv ns fs en u k'
  | .int n, k, k', h, q => by unfold uv at q ⊢; exact h _ q
  | .bl b, k, k', h, q => by unfold uv at q ⊢; exact h _ q
  | .non, k, k', h, q => by unfold uv at q ⊢; exact h _ q
  | .str x, k, k', h, q => by unfold uv at q ⊢; exact h _ q
  | .var i, k, k', h, q => by
    unfold uv at q ⊢
    split at q
    · exact ⟨q.1, h _ q.2⟩
    · exact q.elim
  | .fld f, k, k', h, q => by
    unfold uv at q ⊢
    obtain ⟨j, d, a, b, c⟩ := q
    exact ⟨j, d, a, b, h _ c⟩
  | .tup us, k, k', h, q => by
    unfold uv at q ⊢
    exact uvs_mono us (fun ds => h _) q
  | .lst us, k, k', h, q => by
    unfold uv at q ⊢
    exact uvs_mono us (fun ds => h _) q
theorem uvs_mono {ns : List Str} {fs : List Pf.D} {en : En} : ∀ (us : List U) {k k' : List Pf.D → Prop}, (∀ d, k d → k' d) → uvs ns fs en us k → uvs ns fs en us k'
  | [], k, k', h, q => by unfold uvs at q ⊢; exact h _ q
  | u :: us, k, k', h, q => by
    unfold uvs at q ⊢
    exact uv_mono u (fun d q2 => uvs_mono us (fun ds => h _) q2) q
end
theorem hnd_wish (c : Ct G g k sc N W X) {B : Bs} {P : Pt} {D : Ends} (hx : XL X.K g G B W P.ex) (hpn : ∀ p ∈ B.pin, p.1 ∈ pn) (hD : EL X.K g N.length B P D) {cn : String} {fs : List Pf.D} {en : En} {σ : L2.St} {H : Hp} {cls : Value} {d : Option Addr} (hE : EXS X.K g G B cn fs en σ H cls d) (hl : σ.length = N.length) :
    ∀ {hs : Hs} {hds : List ExceptHandler}, chkHs N el pn hs sc hds = true → hnd G hs cn fs en P → wMix X.K W (D.len N.length) (clOf X.K g G N.length pn hs) cls d σ H
  | .nil, hds, hc, h => by
    unfold hnd at h
    exact hx cn fs en σ H cls d h hE
  | .cons c' io u hs, hds, hc, h => by
    obtain ⟨x, p1, nm, st, p2, hds', rfl, hc⟩ := i_hs hc
    obtain ⟨k1, k2⟩ := and2 hc
    obtain ⟨k3, k4⟩ := and2 k2
    obtain ⟨k5, k6⟩ := and2 k4
    obtain ⟨k7, k8⟩ := and2 k6
    obtain ⟨k9, k10⟩ := and2 k8
    have hE' := hE
    obtain ⟨vs, ns, fV, s0, l0, f0, ec, en', l1, dn, xd, lk⟩ := hE
    have s : ST X.K g (B.add fs vs) en [] σ [] H := by
      obtain ⟨Z, O, O1, O2, e, t, s1, s2, q, p⟩ := s0
      refine ⟨⟨Z, O, O1, O2, e, ?_, s1, s2, q.re rfl rfl rfl, p⟩, rfl⟩
      unfold Bs.add
      rw [List.map_append]
      exact t
    have hxd : ∀ dx, d = some dx → ∃ fV, H dx = some (.xd fV) ∧ ∀ (i : Nat) (n : Str) (v : V), ns[i]? = some n → vs[i]? = some v → fV.lookup n = some v := fun dx e => ⟨fV, xd dx e, lk⟩
    unfold hnd at h
    split at h
    · rename_i ns' hm hns
      rw [en'] at hns
      cases hns
      have hb := c.ok.exm cn c' true hm
      rw [← ec] at hb
      refine ⟨true, hb, fun _ a ha => ?_, (fun e => nomatch e)⟩
      have pins : ∀ i, io = some i → i ∉ pn := fun i e => by
        subst e
        cases nm with
        | none => cases k7
        | some n => exact notin (and2 (and2 k7).2).2
      have pins' : ∀ i, io = some i → i < N.length := fun i e => by
        subst e
        cases nm with
        | none => cases k7
        | some n => exact slot_lt (and2 k7).1
      have hS : SX X.K g B (offO en io) [] (setO σ a io) [] H ns fs vs io a d := by
        cases io with
        | none => exact ⟨s, f0, l0, l1, hxd, dn, fun i e => nomatch e⟩
        | some i =>
          refine ⟨s.mark fun p hp e => pins i rfl (e ▸ hpn p hp), f0, l0, l1, hxd, dn, fun j e => ?_⟩
          cases e
          exact List.getElem?_set_self (by rw [hl]; exact pins' i rfl)
      have offN : ∀ {σ' : L2.St} {H' : Hp} {en1 : En}, σ'.length = N.length → (∀ i, io = some i → ∀ dd, en1[i]? ≠ some (some dd)) → P.nx en1 → ST X.K g B en1 [] σ' [] H' → (offD io (D.len N.length)).nx σ' H' := fun {σ' H' en1} hl' hn hp s' => by
        cases io with
        | none => exact fun _ => hD.nx _ _ _ hl' hp s'
        | some i => exact fun hl2 => hD.nx _ _ _ hl2 hp (s'.mark2 (fun p hp' e => pins i rfl (e ▸ hpn p hp')) (hn i rfl))
      have offI : ∀ i, io = some i → ∀ dd, (offO en io)[i]? ≠ some (some dd) := fun i e dd q => by
        subst e
        unfold offO at q
        rw [List.getElem?_set_self'] at q
        cases en[i]? <;> simp at q
      refine ⟨cn, ns, fs, vs, B, offO en io, ec, en', hS, hpn, ?_⟩
      cases u with
      | asg i x =>
        refine uv_mono x (fun dd hk σ' H' hl' s' => offN hl' (fun j e dd' q => ?_) hk s') h.2
        by_cases e2 : i = j
        · subst e2
          exact h.1 e
        · rw [List.getElem?_set_ne e2] at q
          exact offI j e dd' q
      | ret x =>
        refine uv_mono x (fun dd hk σ' v H' s' => ?_) h
        cases io with
        | none => exact hD.rt _ _ _ _ _ hk s'
        | some i => exact hD.rt _ _ _ _ _ hk s'
      | pas => exact fun σ' H' hl' s' => offN hl' offI h s'
    · rename_i ns' hm hns
      have hb := c.ok.exm cn c' false hm
      rw [← ec] at hb
      exact ⟨false, hb, (fun e => nomatch e), fun _ => hnd_wish c hx hpn hD hE' hl k10 h⟩
    · exact h.elim
end
end Pf

/-! Statements and blocks that the checks let pass keep their word. -/
namespace Pf
open PySem PySem.Spec PyProof.Rows L2
section
variable {G : Gb} {g : Str → Addr} {k : Nat} {sc : Scope} {N : List Str} {pn : List Nat} {fl : List String} {el : List (String × Nat)}
theorem t_try {W : WX} {X : Cx} (cs : Cs X sc) (c : Ct G g k sc N W X) (hel : ∀ q ∈ el, ∃ ns, G.excs q.1 = some ns ∧ ns.length = q.2) {b : Ss} {hs : Hs} {body : List Stmt} {h0 : ExceptHandler} {hds : List ExceptHandler} {p : Pos} (hh : chkHs N el pn hs sc (h0 :: hds) = true)
    (hb : ∀ {W : WX} {X : Cx}, Cs X sc → Ct G g k sc N W X → PSs X body (tS X.K g G W N.length pn (runs G b))) : PS X (.Try body (h0 :: hds) [] [] p) (tS X.K g G W N.length pn (run G (.tri b hs))) := by
  refine (ps_try_mix (tb := fun W1 => tS X.K g G (wLen N.length W1) N.length pn (runs G b)) cs.stk cs.frm (by rw [c.hN]; exact c.nd) c.tk (fun W1 pn1 xe1 tk1 po1 => ?_) (hds_ok cs c hel hh)).imL fun D σ H hl ⟨B, en, P, hs', hx, hpn, hr, hD⟩ => ?_
  · have cs1 : Cs (X.tr pn1 xe1) sc := ⟨cs.calm, po1, cs.fn, cs.kind, cs.stk, cs.frm⟩
    have tk2 := takes_len tk1
    have c1 : Ct G g k sc N (wLen N.length W1) (X.tr pn1 xe1) := ⟨c.hN, c.nd, c.sc, c.room, c.hu, by
      have e : (X.tr pn1 xe1).N.length = N.length := by rw [show (X.tr pn1 xe1).N = N from c.hN]
      rw [e] at tk2
      exact tk2, c.ok⟩
    exact hb cs1 c1
  · unfold run at hr
    rw [c.hN] at hl ⊢
    exact ⟨B, en, _, hs', fun cn fs en1 σ1 H1 cls d h1 hE hl1 => hnd_wish c hx hpn hD hE hl1 hh h1, hpn, hr, fun en1 σ1 H1 h1 h2 h3 _ => hD.nx en1 σ1 H1 h1 h2 h3, hD.rt, fun en1 σ1 H1 h1 h2 h3 _ => hD.bk en1 σ1 H1 h1 h2 h3, fun en1 σ1 H1 h1 h2 h3 _ => hD.ct en1 σ1 H1 h1 h2 h3⟩
end
section
variable {N : List Str} {pn : List Nat} {fl : List String} {el : List (String × Nat)} {sc : Scope} {st : Stmt}
theorem is_asg {i : Nat} {e : E} (h : chkT N fl el pn (.asg i e) sc st = true) : ∃ x p v q, st = .Assign [.Name x p] v q ∧ (slotIs N i x && (loc sc x && (!pn.contains i && ((mLC e || !isLC v) && chkE N true fl e sc v)))) = true := by
  unfold chkT at h
  split at h
  all_goals first | contradiction | (cases h; done) | skip
  rename_i hh
  cases hh
  exact ⟨_, _, _, _, rfl, h⟩
theorem is_asgT {is : List Nat} {e : E} (h : chkT N fl el pn (.asgT is e) sc st = true) : ∃ ts k p v q, st = .Assign [.Tuple ts k p] v q ∧ ((!isTup v && !isLC v) && (chkTgt N sc.names is (.Tuple ts 0 default) && (is.all (fun i => !pn.contains i) && chkE N true fl e sc v))) = true := by
  unfold chkT at h
  split at h
  all_goals first | contradiction | (cases h; done) | skip
  rename_i hh
  cases hh
  exact ⟨_, _, _, _, _, rfl, h⟩
theorem is_aug {i : Nat} {op : Operator} {e : E} (h : chkT N fl el pn (.aug i op e) sc st = true) : ∃ x p o v q, st = .AugAssign (.Name x p) o v q ∧ (slotIs N i x && (loc sc x && (!pn.contains i && (decide (op = o) && ((decide (op = .Add) || decide (op = .Sub)) && chkE N true fl e sc v))))) = true := by
  unfold chkT at h
  split at h
  all_goals first | contradiction | (cases h; done) | skip
  rename_i hh
  cases hh
  exact ⟨_, _, _, _, _, rfl, h⟩
theorem is_augL {i : Nat} {e : E} (h : chkT N fl el pn (.augL i e) sc st = true) : ∃ x p o v q, st = .AugAssign (.Name x p) o v q ∧ (slotIs N i x && (loc sc x && (!pn.contains i && (decide (o = .Add) && chkE N true fl e sc v)))) = true := by
  unfold chkT at h
  split at h
  all_goals first | contradiction | (cases h; done) | skip
  rename_i hh
  cases hh
  exact ⟨_, _, _, _, _, rfl, h⟩
theorem is_put {i : Nat} {k e : E} (h : chkT N fl el pn (.put i k e) sc st = true) : ∃ x p kx q v q2, st = .Assign [.Subscript (.Name x p) kx q] v q2 ∧ (slotIs N i x && (vis sc x && (!(x == ("__debug__" : Str)) && (!(x == ("__classdict__" : Str)) && (nsl kx && (chkE N true fl k sc kx && (!isLC v && chkE N true fl e sc v))))))) = true := by
  unfold chkT at h
  split at h
  all_goals first | contradiction | (cases h; done) | skip
  rename_i hh
  cases hh
  exact ⟨_, _, _, _, _, _, rfl, h⟩
theorem is_setf {i : Nat} {f : String} {e : E} (h : chkT N fl el pn (.setf i f e) sc st = true) : ∃ x p fn q v q2, st = .Assign [.Attribute (.Name x p) fn q] v q2 ∧ (slotIs N i x && (vis sc x && (!(x == ("__debug__" : Str)) && (!(x == ("__classdict__" : Str)) && (decide (fn = Str.ofString f) && (!isLC v && chkE N true fl e sc v)))))) = true := by
  unfold chkT at h
  split at h
  all_goals first | contradiction | (cases h; done) | skip
  rename_i hh
  cases hh
  exact ⟨_, _, _, _, _, _, rfl, h⟩
theorem is_augI {i : Nat} {op : Operator} {k e : E} (h : chkT N fl el pn (.augI i op k e) sc st = true) : ∃ x p kx q o v q2, st = .AugAssign (.Subscript (.Name x p) kx q) o v q2 ∧ (slotIs N i x && (vis sc x && (!(x == ("__debug__" : Str)) && (!(x == ("__classdict__" : Str)) && (nsl kx && (decide (op = o) && ((decide (op = .Add) || decide (op = .Sub)) && (chkE N true fl k sc kx && chkE N true fl e sc v)))))))) = true := by
  unfold chkT at h
  split at h
  all_goals first | contradiction | (cases h; done) | skip
  rename_i hh
  cases hh
  exact ⟨_, _, _, _, _, _, _, rfl, h⟩
theorem is_expr {e : E} (h : chkT N fl el pn (.expr e) sc st = true) : ∃ v q, st = .Expr v q ∧ (!isLC v && chkE N true fl e sc v) = true := by
  unfold chkT at h
  split at h
  all_goals first | contradiction | (cases h; done) | skip
  rename_i hh
  cases hh
  exact ⟨_, _, rfl, h⟩
theorem is_ret {e : E} (h : chkT N fl el pn (.ret e) sc st = true) : ∃ v q, st = .Return (some v) q ∧ chkE N true fl e sc v = true := by
  unfold chkT at h
  split at h
  all_goals first | contradiction | (cases h; done) | skip
  rename_i hh
  cases hh
  exact ⟨_, _, rfl, h⟩
theorem is_retN  (h : chkT N fl el pn (.retN) sc st = true) : ∃ q, st = .Return none q ∧ true = true := by
  unfold chkT at h
  split at h
  all_goals first | contradiction | (cases h; done) | skip
  exact ⟨_, rfl, rfl⟩
theorem is_iff {c : E} {a b : Ss} (h : chkT N fl el pn (.iff c a b) sc st = true) : ∃ x p q r, st = .If x p q r ∧ (chkE N true fl c sc x && (chkTs' N fl el pn a sc p && chkTs' N fl el pn b sc q)) = true := by
  unfold chkT at h
  split at h
  all_goals first | contradiction | (cases h; done) | skip
  rename_i hh
  cases hh
  exact ⟨_, _, _, _, rfl, h⟩
theorem is_whl {c : E} {b : Ss} (h : chkT N fl el pn (.whl c b) sc st = true) : ∃ x p r, st = .While x p [] r ∧ (chkE N true fl c sc x && chkTs' N fl el pn b sc p) = true := by
  unfold chkT at h
  split at h
  all_goals first | contradiction | (cases h; done) | skip
  rename_i hh
  cases hh
  exact ⟨_, _, _, rfl, h⟩
theorem is_forr {tg : List Nat} {src : Src} {b : Ss} (h : chkT N fl el pn (.forr tg src b) sc st = true) : ∃ t it p r, st = .For t it p [] r ∧ (chkTgt N sc.names tg t && (tg.all (fun i => !pn.contains i) && (nset it && (chkS N true fl src sc it && chkTs' N fl el pn b sc p)))) = true := by
  unfold chkT at h
  split at h
  all_goals first | contradiction | (cases h; done) | skip
  rename_i hh
  cases hh
  exact ⟨_, _, _, _, rfl, h⟩
theorem is_brk  (h : chkT N fl el pn (.brk) sc st = true) : ∃ q, st = .Break q ∧ true = true := by
  unfold chkT at h
  split at h
  all_goals first | contradiction | (cases h; done) | skip
  exact ⟨_, rfl, rfl⟩
theorem is_cnt  (h : chkT N fl el pn (.cnt) sc st = true) : ∃ q, st = .Continue q ∧ true = true := by
  unfold chkT at h
  split at h
  all_goals first | contradiction | (cases h; done) | skip
  exact ⟨_, rfl, rfl⟩
theorem is_raise {c : String} {es : Es} (h : chkT N fl el pn (.raise c es) sc st = true) : ∃ x p args q r, st = .Raise (some (.Call (.Name x p) args [] q)) none r ∧ (decide (x = Str.ofString c) && (gl sc x && (el.contains (c, args.length) && (decide (args.length ≤ 100) && chkEs N true fl es sc args)))) = true := by
  unfold chkT at h
  split at h
  all_goals first | contradiction | (cases h; done) | skip
  rename_i hh
  cases hh
  exact ⟨_, _, _, _, _, rfl, h⟩
theorem is_tri {b : Ss} {hs : Hs} (h : chkT N fl el pn (.tri b hs) sc st = true) : ∃ body h0 hds r, st = .Try body (h0 :: hds) [] [] r ∧ (chkTs' N fl el pn b sc body && chkHs N el pn hs sc (h0 :: hds)) = true := by
  unfold chkT at h
  split at h
  all_goals first | contradiction | (cases h; done) | skip
  rename_i hh
  cases hh
  exact ⟨_, _, _, _, rfl, h⟩
theorem is_pas (h : chkT N fl el pn .pas sc st = true) : (∃ p, st = .Pass p) ∨ ∃ x a p q, st = .Expr (.Constant (.str x) a p) q := by
  unfold chkT at h
  split at h
  all_goals first | contradiction | (cases h; done) | skip
  · exact .inl ⟨_, rfl⟩
  · exact .inr ⟨_, _, _, _, rfl⟩
end
section
variable {G : Gb} {g : Str → Addr} {k : Nat} {sc : Scope} {N : List Str} {pn : List Nat} {fl : List String} {el : List (String × Nat)}
mutual
theorem okT (hcal : ∀ f ∈ fl, (G.fns f).isSome = true) (hel : ∀ q ∈ el, ∃ ns, G.excs q.1 = some ns ∧ ns.length = q.2) : ∀ (m : S) {W : WX} {X : Cx} {st : Stmt}, Cs X sc → Ct G g k sc N W X → chkT N fl el pn m sc st = true → PS X st (tS X.K g G W N.length pn (run G m))
  | .asg i e, W, X, st, cs, c, h => by
    obtain ⟨x, p, v, q, rfl, h⟩ := is_asg h
    obtain ⟨h1, h⟩ := and2 h
    obtain ⟨h2, h⟩ := and2 h
    obtain ⟨h3, h⟩ := and2 h
    obtain ⟨h4, h5⟩ := and2 h
    cases hlc : mLC e with
    | false =>
      rw [hlc, Bool.false_or] at h4
      exact t_asg cs c h1 h2 h3 (not1 h4) (okE (fun _ => hcal) e c (fun _ => cs.calm) h5).pe
    | true =>
      cases e with
      | lc tg src cc elt =>
        obtain ⟨el', t, it, ifs, a, scope, p', rfl, h6⟩ := i_lc h5
        obtain ⟨_, h6⟩ := and2 h6
        obtain ⟨k4, h6⟩ := and2 h6
        obtain ⟨k6, h6⟩ := and2 h6
        obtain ⟨k8, h6⟩ := and2 h6
        obtain ⟨k10, h6⟩ := and2 h6
        obtain ⟨k12, h6⟩ := and2 h6
        obtain ⟨k14, h6⟩ := and2 h6
        obtain ⟨k16, k17⟩ := and2 h6
        cases of_decide_eq_true k4
        have hi := okI (tg := t) (fun _ => hcal) src c (fun _ => cs.calm) k12
        have hg := fun s H C cl fp => g_tg (g := g) (X := X.blk s H scope (compEnvC scope cl C X.env) fp) cs.calm c.hN c.nd (blk_k s H C cl fp) k8
        have ht := fun s H C cl fp => okTs (fun _ => hcal) cc (c.blk s H C cl fp) (fun _ => cs.calm) (of_decide_eq_true k16) k14
        have he := fun s H C cl fp => (okE (fun _ => hcal) elt (c.blk s H C cl fp) (fun _ => cs.calm) k17).pe
        exact t_asgLc cs c h1 h2 h3 k6 k10 hi hg ht he (fun σ H Q hl h => lc_im c k6 σ H Q hl h)
      | lc2 tg src cc tg1 src1 cc1 elt =>
        obtain ⟨el', t, it, ifs, a, t1, it1, ifs1, a1, scope, p', rfl, h6⟩ := i_lc2 h5
        obtain ⟨_, h6⟩ := and2 h6
        obtain ⟨k4, h6⟩ := and2 h6
        obtain ⟨k4a, k4b⟩ := and2 k4
        obtain ⟨k6, h6⟩ := and2 h6
        obtain ⟨k8, h6⟩ := and2 h6
        obtain ⟨k8a, k8b⟩ := and2 k8
        obtain ⟨k10, h6⟩ := and2 h6
        obtain ⟨k10a, k10b⟩ := and2 k10
        obtain ⟨k12, h6⟩ := and2 h6
        obtain ⟨k12a, k12b⟩ := and2 k12
        obtain ⟨k14, h6⟩ := and2 h6
        obtain ⟨k14a, k14b⟩ := and2 k14
        obtain ⟨k16, k17⟩ := and2 h6
        obtain ⟨k16a, k16b⟩ := and2 k16
        cases of_decide_eq_true k4a
        cases of_decide_eq_true k4b
        have hi := okI (tg := t) (fun _ => hcal) src c (fun _ => cs.calm) k12a
        have hg := fun s H C cl fp => g_tg (g := g) (X := X.blk s H scope (compEnvC scope cl C X.env) fp) cs.calm c.hN c.nd (blk_k s H C cl fp) k8a
        have ht := fun s H C cl fp => okTs (fun _ => hcal) cc (c.blk s H C cl fp) (fun _ => cs.calm) (of_decide_eq_true k16a) k14a
        have hi1 := fun s H C cl fp => okI (tg := t1) (fun _ => hcal) src1 (c.blk s H C cl fp) (fun _ => cs.calm) k12b
        have hg1 := fun s H C cl fp => g_tg (g := g) (X := X.blk s H scope (compEnvC scope cl C X.env) fp) cs.calm c.hN c.nd (blk_k s H C cl fp) k8b
        have ht1 := fun s H C cl fp => okTs (fun _ => hcal) cc1 (c.blk s H C cl fp) (fun _ => cs.calm) (of_decide_eq_true k16b) k14b
        have he := fun s H C cl fp => (okE (fun _ => hcal) elt (c.blk s H C cl fp) (fun _ => cs.calm) k17).pe
        exact t_asgLc2 cs c h1 h2 h3 k6 k10a k10b hi hg ht hi1 hg1 ht1 he
      | _ => cases hlc
  | .asgT is e, W, X, st, cs, c, h => by
    obtain ⟨ts, kk, p, v, q, rfl, h⟩ := is_asgT h
    obtain ⟨h1, h⟩ := and2 h
    obtain ⟨h2, h⟩ := and2 h
    obtain ⟨h3, h4⟩ := and2 h
    exact t_asgT cs c h1 h2 h3 (okE (fun _ => hcal) e c (fun _ => cs.calm) h4).pe
  | .aug i op e, W, X, st, cs, c, h => by
    obtain ⟨x, p, o, v, q, rfl, h⟩ := is_aug h
    obtain ⟨h1, h⟩ := and2 h
    obtain ⟨h2, h⟩ := and2 h
    obtain ⟨h3, h⟩ := and2 h
    obtain ⟨h4, h⟩ := and2 h
    obtain ⟨h5, h6⟩ := and2 h
    cases of_decide_eq_true h4
    rw [Bool.or_eq_true] at h5
    exact t_aug cs c h1 h2 h3 (h5.imp of_decide_eq_true of_decide_eq_true) (okE (fun _ => hcal) e c (fun _ => cs.calm) h6).pe
  | .augL i e, W, X, st, cs, c, h => by
    obtain ⟨x, p, o, v, q, rfl, h⟩ := is_augL h
    obtain ⟨h1, h⟩ := and2 h
    obtain ⟨h2, h⟩ := and2 h
    obtain ⟨h3, h⟩ := and2 h
    obtain ⟨h4, h5⟩ := and2 h
    cases of_decide_eq_true h4
    exact t_augL cs c h1 h2 h3 (okE (fun _ => hcal) e c (fun _ => cs.calm) h5).pe
  | .put i kk e, W, X, st, cs, c, h => by
    obtain ⟨x, p, kx, q, v, q2, rfl, h⟩ := is_put h
    obtain ⟨h1, h⟩ := and2 h
    obtain ⟨h2, h⟩ := and2 h
    obtain ⟨h3, h⟩ := and2 h
    obtain ⟨h4, h⟩ := and2 h
    obtain ⟨h5, h⟩ := and2 h
    obtain ⟨h6, h⟩ := and2 h
    obtain ⟨h7, h8⟩ := and2 h
    exact t_put c h1 h2 h3 h4 h5 (not1 h7) (okE (fun _ => hcal) kk c (fun _ => cs.calm) h6).pe (okE (fun _ => hcal) e c (fun _ => cs.calm) h8).pe
  | .setf i f e, W, X, st, cs, c, h => by
    obtain ⟨x, p, fn, q, v, q2, rfl, h⟩ := is_setf h
    obtain ⟨h1, h⟩ := and2 h
    obtain ⟨h2, h⟩ := and2 h
    obtain ⟨h3, h⟩ := and2 h
    obtain ⟨h4, h⟩ := and2 h
    obtain ⟨h5, h⟩ := and2 h
    obtain ⟨h6, h7⟩ := and2 h
    exact t_setf c h1 h2 h3 h4 (of_decide_eq_true h5) (not1 h6) (okE (fun _ => hcal) e c (fun _ => cs.calm) h7).pe
  | .augI i op kk e, W, X, st, cs, c, h => by
    obtain ⟨x, p, kx, q, o, v, q2, rfl, h⟩ := is_augI h
    obtain ⟨h1, h⟩ := and2 h
    obtain ⟨h2, h⟩ := and2 h
    obtain ⟨h3, h⟩ := and2 h
    obtain ⟨h4, h⟩ := and2 h
    obtain ⟨h5, h⟩ := and2 h
    obtain ⟨h6, h⟩ := and2 h
    obtain ⟨h7, h⟩ := and2 h
    obtain ⟨h8, h9⟩ := and2 h
    cases of_decide_eq_true h6
    rw [Bool.or_eq_true] at h7
    exact t_augI c h1 h2 h3 h4 h5 (h7.imp of_decide_eq_true of_decide_eq_true) (okE (fun _ => hcal) kk c (fun _ => cs.calm) h8).pe (okE (fun _ => hcal) e c (fun _ => cs.calm) h9).pe
  | .expr e, W, X, st, cs, c, h => by
    obtain ⟨v, q, rfl, h⟩ := is_expr h
    obtain ⟨h1, h2⟩ := and2 h
    exact t_expr c (not1 h1) (okE (fun _ => hcal) e c (fun _ => cs.calm) h2).pe
  | .ret e, W, X, st, cs, c, h => by
    obtain ⟨v, q, rfl, h⟩ := is_ret h
    by_cases hv : ∃ i, e = .var i
    · obtain ⟨i, rfl⟩ := hv
      obtain ⟨x, p, rfl, h1⟩ := i_var h
      exact t_retV c h1
    · exact t_ret c (fun i e => hv ⟨i, e⟩) (okE (fun _ => hcal) e c (fun _ => cs.calm) h).pe
  | .retN, W, X, st, cs, c, h => by
    obtain ⟨q, rfl, _⟩ := is_retN h
    refine ⟨fun pins s σ H D I ⟨B, en, P, hs', hx, hpn, hr, hD⟩ => ps_retN.run pins s σ H D I ?_⟩
    unfold run at hr
    exact hD.rt _ _ _ _ _ hr (hs'.flat fun Z => .non)
  | .iff cc a b, W, X, st, cs, c, h => by
    obtain ⟨x, p, q, r, rfl, h⟩ := is_iff h
    obtain ⟨h1, h⟩ := and2 h
    obtain ⟨h2, h3⟩ := and2 h
    exact t_if c (okE (fun _ => hcal) cc c (fun _ => cs.calm) h1).pt (okSs hcal hel a cs c h2) (okSs hcal hel b cs c h3)
  | .whl cc b, W, X, st, cs, c, h => by
    obtain ⟨x, p, r, rfl, h⟩ := is_whl h
    obtain ⟨h1, h2⟩ := and2 h
    exact t_while cs c (okE (fun _ => hcal) cc c (fun _ => cs.calm) h1).pt (okSs hcal hel b cs c h2)
  | .forr tg src b, W, X, st, cs, c, h => by
    obtain ⟨t, it, p, r, rfl, h⟩ := is_forr h
    obtain ⟨h1, h⟩ := and2 h
    obtain ⟨h2, h⟩ := and2 h
    obtain ⟨h3, h⟩ := and2 h
    obtain ⟨h4, h5⟩ := and2 h
    exact t_for cs c h1 h2 h3 (okI (fun _ => hcal) src c (fun _ => cs.calm) h4) (okSs hcal hel b cs c h5)
  | .brk, W, X, st, cs, c, h => by
    obtain ⟨q, rfl, _⟩ := is_brk h
    refine ps_break.imL fun D σ H hl ⟨B, en, P, hs', hx, hpn, hr, hD⟩ => ?_
    unfold run at hr
    exact fun _ => hD.bk _ _ _ (by rw [← c.hN]; exact hl) hr hs'
  | .cnt, W, X, st, cs, c, h => by
    obtain ⟨q, rfl, _⟩ := is_cnt h
    refine ps_continue.imL fun D σ H hl ⟨B, en, P, hs', hx, hpn, hr, hD⟩ => ?_
    unfold run at hr
    exact fun _ => hD.ct _ _ _ (by rw [← c.hN]; exact hl) hr hs'
  | .pas, W, X, st, cs, c, h => by
    rcases is_pas h with ⟨p, rfl⟩ | ⟨x, a, p, q, rfl⟩
    · refine ps_pass.imL fun D σ H hl ⟨B, en, P, hs', hx, hpn, hr, hD⟩ => ?_
      unfold run at hr
      exact fun _ => hD.nx _ _ _ (by rw [← c.hN]; exact hl) hr hs'
    · refine ps_doc.imL fun D σ H hl ⟨B, en, P, hs', hx, hpn, hr, hD⟩ => ?_
      unfold run at hr
      exact fun _ => hD.nx _ _ _ (by rw [← c.hN]; exact hl) hr hs'
  | .raise cn es, W, X, st, cs, c, h => by
    obtain ⟨x, p, args, q, r, rfl, h⟩ := is_raise h
    obtain ⟨h1, h⟩ := and2 h
    obtain ⟨h2, h⟩ := and2 h
    obtain ⟨h3, h⟩ := and2 h
    obtain ⟨h4, h5⟩ := and2 h
    obtain ⟨ns, e1, e2⟩ := hel (cn, args.length) (by simpa using h3)
    have hn := i_ess h5
    exact t_raise cs c e1 e2 (of_decide_eq_true h1) h2 hn.1 hn.2 (of_decide_eq_true h4) (okV (fun _ => hcal) es c (fun _ => cs.calm) h5)
  | .tri b hs, W, X, st, cs, c, h => by
    obtain ⟨body, h0, hds, r, rfl, h⟩ := is_tri h
    obtain ⟨h1, h2⟩ := and2 h
    exact t_try cs c hel h2 fun cs' c' => okSs hcal hel b cs' c' h1
theorem okSs (hcal : ∀ f ∈ fl, (G.fns f).isSome = true) (hel : ∀ q ∈ el, ∃ ns, G.excs q.1 = some ns ∧ ns.length = q.2) : ∀ (m : Ss) {W : WX} {X : Cx} {sts : List Stmt}, Cs X sc → Ct G g k sc N W X → chkTs' N fl el pn m sc sts = true → PSs X sts (tS X.K g G W N.length pn (runs G m))
  | .nil, W, X, sts, cs, c, h => by
    cases sts with
    | cons _ _ => unfold chkTs' at h; cases h
    | nil =>
      refine pss_nil.imL fun D σ H hl ⟨B, en, P, hs', hx, hpn, hr, hD⟩ => ?_
      unfold runs at hr
      exact fun _ => hD.nx _ _ _ (by rw [← c.hN]; exact hl) hr hs'
  | .cons m ms, W, X, sts, cs, c, h => by
    cases sts with
    | nil => unfold chkTs' at h; cases h
    | cons st sts =>
      unfold chkTs' at h
      obtain ⟨h1, h2⟩ := and2 h
      have k1 := okT hcal hel m cs c h1
      have k2 := okSs hcal hel ms cs c h2
      match ms, h2, k2 with
      | .nil, h2, _ =>
        cases sts with
        | cons _ _ => unfold chkTs' at h2; cases h2
        | nil =>
          refine ⟨fun pins s σ H D I ⟨B, en, P, hs', hx, hpn, hr, hD⟩ => (pss_one k1).run pins s σ H D I ?_⟩
          unfold runs at hr
          exact ⟨B, en, P, hs', hx, hpn, hr, hD⟩
      | .cons m2 ms2, h2, k2 =>
        refine ⟨fun pins s σ H D I ⟨B, en, P, hs', hx, hpn, hr, hD⟩ => (pss_cons k1 k2).run pins s σ H D I ?_⟩
        rw [runs] at hr
        · exact ⟨B, en, { P with nx := fun e1 => runs G (.cons m2 ms2) e1 P }, hs', hx, hpn, hr, fun en1 σ1 H1 _ h3 h4 => ⟨B, en1, P, h4, hx, hpn, h3, hD⟩, hD.rt, hD.bk, hD.ct⟩
        · intro z
          cases z
end
end
end Pf

/-! Functions. -/
namespace Pf
open PySem PySem.Spec PyProof.Rows L2
/-- what the caller is told of its arguments -/
def back (pn : List Nat) (en : En) : Nat → List D → List (Option D)
  | _, [] => []
  | i, d :: ds => (if pn.contains i then (en[i]?).join else if fz d then some d else none) :: back pn en (i + 1) ds
/-- a def's meaning -/
def semF (G : Gb) (n np : Nat) (pn : List Nat) (body : Ss) : FSp := fun ds q x => ds.length = np ∧
  runs G body (ds.map some ++ List.replicate (n - np) none) { nx := fun en => q .non (back pn en 0 ds), rt := fun d en => q d (back pn en 0 ds), ex := fun c fs en => x c fs (back pn en 0 ds) }
section
variable {K : PySem.W.Frag} {g : Str → Addr} {H : Hp} {Z : AS}
theorem RepE.pad : ∀ {en : En} {σ : Sg} {O : AS} (n : Nat), RepE K g Z H en σ O → RepE K g Z H (en ++ List.replicate n none) (σ ++ List.replicate n none) O
  | _, _, _, 0, .nil => .nil
  | _, _, _, n + 1, .nil => .un (RepE.pad (en := []) (σ := []) n .nil)
  | _, _, _, n, .un t => .un (RepE.pad n t)
  | _, _, _, n, .has s1 s2 r t => .has s1 s2 r (RepE.pad n t)
theorem RepE.frzn : ∀ {ds : List D} {vs : List V} {O : AS}, RepE K g Z H (ds.map some) (vs.map some) O → ∀ (i : Nat) (d : D) (v : V), ds[i]? = some d → vs[i]? = some v → fz d = true → Rep K g Z H d v AS.no
  | [], _, _, _, _, _, _, h, _, _ => by cases h
  | _ :: _, [], _, _, _, _, _, _, h, _ => by cases h
  | d :: ds, v :: vs, _, e, 0, d', v', h1, h2, hf => by
    cases h1
    cases h2
    cases e with
    | has s1 s2 r t => exact r.none hf
  | d :: ds, v :: vs, _, e, i + 1, d', v', h1, h2, hf => by
    cases e with
    | has s1 s2 r t => exact RepE.frzn t i d' v' h1 h2 hf
theorem back_ok {pn : List Nat} {en : En} {σ : Sg} {vs0 : List V} (hpin : ∀ i ∈ pn, ∀ v, vs0[i]? = some v → σ[i]? = some (some v)) : ∀ {ds : List D} {vs : List V} (i : Nat) {O : AS}, RepE K g Z H (en.drop i) (σ.drop i) O → ds.length = vs.length → (∀ j v, vs[j]? = some v → vs0[i + j]? = some v) →
    (∀ (j : Nat) (d : D) (v : V), ds[j]? = some d → vs[j]? = some v → fz d = true → Rep K g Z H d v AS.no) → RepE K g Z H (back pn en i ds) (vs.map some) O
  | [], [], _, _, _, _, _, _ => .nil
  | [], _ :: _, _, _, _, h, _, _ => by cases h
  | _ :: _, [], _, _, _, h, _, _ => by cases h
  | d :: ds, v :: vs, i, O, e, hl, h0, hf => by
    rw [back]
    have hl' : ds.length = vs.length := by simpa using hl
    have h0' : ∀ j u, vs[j]? = some u → vs0[i + 1 + j]? = some u := fun j u h => by
      have := h0 (j + 1) u h
      rw [← this]
      congr 1
      omega
    have hf' : ∀ (j : Nat) (d : D) (v : V), ds[j]? = some d → vs[j]? = some v → fz d = true → Rep K g Z H d v AS.no := fun j d v a b c => hf (j + 1) d v a b c
    have other : ∀ {O'}, RepE K g Z H (en.drop (i + 1)) (σ.drop (i + 1)) O' → (∀ b, O' b → O b) → RepE K g Z H ((if fz d then some d else none) :: back pn en (i + 1) ds) ((v :: vs).map some) O := fun {O'} t s => by
      cases hd : fz d with
      | true => exact .has (O1 := AS.no) (O2 := O) (fun _ z => z.elim) (fun _ z => ⟨z, id⟩) (hf 0 d v rfl rfl hd) ((back_ok hpin (i + 1) t hl' h0' hf').up s)
      | false => exact .un ((back_ok hpin (i + 1) t hl' h0' hf').up s)
    have lens := e.len
    by_cases hi : i < en.length
    · have hi' : i < σ.length := by
        simp only [List.length_drop] at lens
        omega
      have e1 := List.drop_eq_getElem_cons hi
      have e2 := List.drop_eq_getElem_cons hi'
      rw [e1, e2] at e
      have gj : (en[i]?).join = en[i] := by
        rw [List.getElem?_eq_getElem hi]
        rfl
      generalize en[i] = x at e gj
      generalize hy : σ[i] = y at e
      have gy : σ[i]? = some y := by rw [List.getElem?_eq_getElem hi', hy]
      by_cases hp : pn.contains i = true
      · rw [if_pos hp, gj]
        have hv := hpin i (by simpa using hp) v (h0 0 v rfl)
        rw [gy] at hv
        cases hv
        cases e with
        | un t => exact .un (back_ok hpin (i + 1) t hl' h0' hf')
        | has s1 s2 r t => exact .has s1 s2 r (back_ok hpin (i + 1) t hl' h0' hf')
      · rw [if_neg hp]
        cases e with
        | un t => exact other t fun _ z => z
        | has s1 s2 r t => exact other t fun b z => (s2 b z).1
    · have z1 : en.drop i = [] := List.drop_eq_nil_of_le (by omega)
      have z2 : σ.drop i = [] := List.drop_eq_nil_of_le (by simp only [List.length_drop] at lens; omega)
      have t : RepE K g Z H (en.drop (i + 1)) (σ.drop (i + 1)) AS.no := by
        rw [List.drop_eq_nil_of_le (by omega), List.drop_eq_nil_of_le (by simp only [List.length_drop] at lens; omega)]
        exact .nil
      by_cases hp : pn.contains i = true
      · rw [if_pos hp, List.getElem?_eq_none (by omega)]
        exact .un ((back_ok hpin (i + 1) t hl' h0' hf').up fun _ z => z.elim)
      · rw [if_neg hp]
        exact other t fun _ z => z.elim
end
def pinsOf (pn : List Nat) (vs : List V) : List (Nat × V) := pn.filterMap fun i => (vs[i]?).map fun v => (i, v)
section
variable {P : Program} {w : World} {K : PySem.W.Frag} {mg : Str → Option Value} {base : Heap} {x qual : Str} {params : Arguments} {body : List Stmt} {scope : Scope} {kws : List (Str × V)} {f : Addr} {fd : FuncData} {dvs : List V}
theorem fn_ok {G : Gb} {g : Str → Addr} {k : Nat} {N ps : List Str} {pn : List Nat} {fl : List String} {el : List (String × Nat)} {m : Ss} (F : FunD K x qual params body scope dvs kws f fd) (S : FnScope N ps scope) (ok : GOk G g k P w K mg base)
    (hcal : ∀ f ∈ fl, (G.fns f).isSome = true) (hel : ∀ q ∈ el, ∃ ns, G.excs q.1 = some ns ∧ ns.length = q.2) (hc : chkTs' N fl el pn m scope body = true) (hpn : ∀ i ∈ pn, i < ps.length) : FnOk P w K mg base (L2.CX P w) (k + 1) f fd ps (spOf K g G (semF G N.length ps.length pn m)) := by
  have hps : ps.length ≤ N.length := by
    have := congrArg List.length S.pre
    rw [List.length_take] at this
    omega
  refine F.ok S (fun vs H Q E ⟨Z, O, ds, q, x, s, h, _, _⟩ => ?_) fun cdv A outer s0 H vs Q E hr ⟨Z, O, ds, q, x', s, h, hq, hx⟩ => ⟨tS K g G (fun cls d _ H => E cls d H) N.length pn (runs G m), okSs (k := k) hcal hel m ?_ ?_ hc, ?_⟩
  · have := SR.len s
    simp only [List.length_map] at this
    rw [← this]
    exact h.1
  · exact ⟨rfl, passes_of rfl, fun _ => rfl, S.kind, rfl, rfl⟩
  · exact ⟨rfl, S.nd, rfl, fun _ => hr, by have := hr.un; show (A.deeper (envOfC qual scope s0.heap.objs.size f cdv)).units + 66 < _; omega, takes_of rfl rfl rfl rfl, ok⟩
  · have hl := SR.len s
    simp only [List.length_map] at hl
    have hnp : ds.length = ps.length := h.1
    obtain ⟨Z1, O1, A1, A2, e, t, s1, s2, q1, _⟩ := s
    have frz0 := RepE.frzn e
    have c0 : Good ⟨H, Z1, O1, pinsOf pn vs, [], []⟩ Z1 O1 H := (Good.refl q1.dj q1.trO q1.trZ).re rfl rfl rfl
    have hst : L2.start N vs = vs.map some ++ List.replicate (N.length - ps.length) none := by
      unfold L2.start
      rw [← hl, hnp]
    have hpin : ∀ i ∈ pn, ∀ v, vs[i]? = some v → (i, v) ∈ pinsOf pn vs := fun i hi v hv => List.mem_filterMap.mpr ⟨i, hi, by rw [hv]; rfl⟩
    have hpin2 : ∀ p ∈ pinsOf pn vs, p.1 ∈ pn ∧ vs[p.1]? = some p.2 := fun p hp => by
      obtain ⟨i, hi, e⟩ := List.mem_filterMap.mp hp
      cases hv : vs[i]? with
      | none => rw [hv] at e; cases e
      | some v => rw [hv] at e; cases e; exact ⟨hi, hv⟩
    have st : ST K g ⟨H, Z1, O1, pinsOf pn vs, [], []⟩ (ds.map some ++ List.replicate (N.length - ps.length) none) [] (L2.start N vs) [] H := by
      rw [hst]
      refine ⟨⟨Z1, O1, A1, AS.no, RepE.pad _ e, .nil, s1, fun _ z => z.elim, c0, fun p hp => ?_⟩, rfl⟩
      obtain ⟨_, hv⟩ := hpin2 p hp
      have hlt := (List.getElem?_eq_some_iff.mp hv).1
      rw [List.getElem?_append_left (by rw [List.length_map]; exact hlt), List.getElem?_map, hv]
      rfl
    -- back at the caller's
    have home : ∀ {en : En} {σ : Sg} {H' : Hp} {rr : List D} {vv : List V}, ST K g ⟨H, Z1, O1, pinsOf pn vs, [], []⟩ en (rr.map R.v) σ vv H' → SR K g ⟨H, Z, O, [], [], []⟩ (back pn en 0 ds) (rr.map R.v) (vs.map some) vv H' := by
      intro en σ H' rr vv s
      obtain ⟨⟨Z2, O2, B1, B2, e2, t2, b1, b2, q2, p2⟩, hl2⟩ := s
      have q2' : Good ⟨H, Z1, O1, [], [], []⟩ Z2 O2 H' := q2.re rfl rfl rfl
      obtain ⟨G1, _, _⟩ := Good.callee (Ok := AS.no) q1 (fun _ z => z) (fun _ z => z.elim) q2'
      have kp : Keep Z1 AS.no H H' := fun a y hy z => q2'.fr a y hy fun ho => by
        rcases z with z | z | z
        · exact q1.dj a ho z
        · exact z
        · obtain ⟨y', e', st'⟩ := q1.trO a ho
          rw [hy] at e'
          cases e'
          rw [z] at st'
          cases st'
      have rt : RepT K g Z2 H' (vs.map some) (rr.map R.v) vv B2 := by
        have z := t2
        simp only [List.map_nil, List.append_nil] at z
        exact RepT.any z
      refine ⟨Z2, O2, B1, B2, back_ok (vs0 := vs) (fun i hi v hv => p2 _ (hpin i hi v hv)) 0 (by simpa using e2) hl (fun j v h => by rw [Nat.zero_add]; exact h) fun j d v h1 h2 h3 => (frz0 j d v h1 h2 h3).keep q2'.zz kp, rt, b1, b2, G1.sub (fun a z => .inl z), fun p hp => by cases hp⟩
    refine ⟨_, _, _, st, ?_, fun p hp => (hpin2 p hp).1, h.2, ?_⟩
    · intro c fs en σ H' cls d h1 hE
      refine hx c fs _ cls d H' h1 ?_
      obtain ⟨ws, ns, fV, a1, a2, a3⟩ := hE
      have a1' : ST K g ⟨H, Z1, O1, pinsOf pn vs, [], []⟩ en (fs.map R.v) σ ws H' := ⟨a1, by rw [List.length_map]; exact a2⟩
      have z := home a1'
      refine ⟨ws, ns, fV, ?_, a2, a3⟩
      simpa only [List.map_nil, List.append_nil] using z
    · refine ⟨fun en σ H' _ h1 h2 => hq _ _ _ _ h1 ?_, fun d en σ v H' h1 h2 => hq _ _ _ _ h1 (home (rr := [d]) h2), fun _ _ _ _ h => h.elim, fun _ _ _ _ h => h.elim⟩
      exact home (rr := [.non]) (h2.flat fun Z => .non)
end
end Pf

/-! The package's names, one after the other. -/
namespace Pf
open PySem PySem.Spec PyProof.Rows L2
def mkP (fs : List (String × FSp)) (ms cs : List ((String × String) × FSp)) (ic : List String) (fk : List (String × String)) (ex : List (String × List Str)) (em : List ((String × String) × Bool)) (ci : List (String × Int)) : Gb :=
  { fns := fun x => fs.lookup x, excs := fun c => ex.lookup c, exm := fun a b => em.lookup (a, b), cints := fun x => ci.lookup x, mth := fun c m => ms.lookup (c, m), fok := fun c f => fk.any fun p => c == Str.ofString p.1 && f == Str.ofString p.2, cmt := fun c m => cs.lookup (c, m), isc := fun c => ic.any fun x => c == Str.ofString x }
/-! ### error classes -/
def oexB (K : PySem.W.Frag) (C : Addr) : Bool := (match K.lookup C with
  | some ⟨.type "type", _, .cls cd, sl⟩ => (match cd.mro, sl.toList with
    | .ref C1 :: bm, [_, _, _, _, some (.builtin n), _] => C1 == C && (n == "ValueError.__new__" && (!cd.hasDel && (cd.hasDict && PySem.HandSPX.refsVE bm)))
    | _, _ => false)
  | _ => false) && (decide (PySem.W.findIn K (.ref C) "__setattr__" = some (some (.builtin "object.__setattr__"))) && (decide (PySem.W.subIn K (.ref C) (.type "BaseException") = some true) && (decide (PySem.W.typeIn K (.ref C) = some (.type "type")) && PySem.W.keepIn K (.ref C))))
theorem oexB_ok {K : PySem.W.Frag} {C : Addr} (h : oexB K C = true) : OexC K C := by
  unfold oexB at h
  obtain ⟨h1, h⟩ := and2 h
  obtain ⟨h2, h⟩ := and2 h
  obtain ⟨h3, h⟩ := and2 h
  obtain ⟨h4, h5⟩ := and2 h
  refine ⟨?_, of_decide_eq_true h2, of_decide_eq_true h3, of_decide_eq_true h4, h5⟩
  split at h1
  · rename_i dd cd sl ho
    split at h1
    · rename_i C1 bm k0 k1 k2 k3 n k5 hm hs
      obtain ⟨e1, h1⟩ := and2 h1
      obtain ⟨e2, h1⟩ := and2 h1
      obtain ⟨e3, h1⟩ := and2 h1
      obtain ⟨e4, e5⟩ := and2 h1
      have q1 := eq_of_beq e1
      have q2 := eq_of_beq e2
      have q3 := not1 e3
      subst q1 q2
      obtain ⟨nm, bs, mro, ns, qn, hd, sn, sub, ab, col, del⟩ := cd
      dsimp only at hm q3 e4
      subst hm q3 e4
      have hsl : sl = #[k0, k1, k2, k3, some (.builtin "ValueError.__new__"), k5] := by
        obtain ⟨l⟩ := sl
        simp only at hs
        rw [hs]
      subst hsl
      exact ⟨nm, qn, ns, bs, bm, sn, sub, ab, col, dd, k0, k1, k2, k3, k5, ho, e5⟩
    · cases h1
  · cases h1
def exB (K : PySem.W.Frag) (c : Str) (ns : List Str) : Bool := PySem.W.keepIn K (.ref (He.ga K c)) && (decide (PySem.W.nsIn K mainGlobals c = some (some (.ref (He.ga K c)))) && (decide ((c == ("__debug__" : Str)) = false) && (decide (PySem.W.subIn K (.ref (He.ga K c)) (.type "BaseException") = some true) && (decide (PySem.W.typeIn K (.ref (He.ga K c)) = some (.type "type")) && (decide ns.Nodup &&
  (if ns.isEmpty then PySem.W.excIn K (He.ga K c) [.type "ValueError", .type "Exception", .type "BaseException", .type "object"] "ValueError.__new__" else
    oexB K (He.ga K c) && (xfB K (He.ga K c) && (ns.all (fun n => decide (PySem.W.findIn K (.ref (He.ga K c)) n = some none)) && (decide (PySem.W.findIn K (.ref (He.ga K c)) "__init__" = some (some (.ref (He.ma K (He.ga K c) "__init__")))) && decide (PySem.W.typeIn K (.ref (He.ma K (He.ga K c) "__init__")) = some (.type "function")))))))))))
/-! ### their __init__ -/
def chkIni (N : List Str) (sc : Scope) : List Str → Nat → List Stmt → Bool
  | [], _, [] => true
  | f :: fs, j, .Assign [.Attribute (.Name x _) f' _] (.Name y _) _ :: st => decide (f = f') && ((slotIs N 0 x && (vis sc x && (!(x == ("__debug__" : Str)) && !(x == ("__classdict__" : Str))))) && ((slotIs N j y && (vis sc y && (!(y == ("__debug__" : Str)) && !(y == ("__classdict__" : Str))))) && chkIni N sc fs (j + 1) st))
  | _, _, _ => false
def iniT (K : PySem.W.Frag) : List Str → Nat → TS
  | [], _ => tNext
  | f :: fs, j => tSeq (tOst K f (tVar 0) (tVar j)) (iniT K fs (j + 1))
section
variable {P : Program} {w : World} {K : PySem.W.Frag} {mg : Str → Option Value} {base : Heap}
theorem ini_ps {X : Cx} {N : List Str} (hN : X.N = N) : ∀ {ns : List Str} {j : Nat} {st : List Stmt}, chkIni N X.env.scope ns j st = true → PSs X st (iniT X.K ns j)
  | [], j, st, h => by
    cases st with
    | nil => exact pss_nil
    | cons _ _ => unfold chkIni at h; cases h
  | f :: fs, j, st, h => by
    unfold chkIni at h
    split at h
    all_goals first | contradiction | (cases h; done) | skip
    rename_i hh
    cases hh
    obtain ⟨h1, h⟩ := and2 h
    obtain ⟨h2, h⟩ := and2 h
    obtain ⟨h3, h4⟩ := and2 h
    cases of_decide_eq_true h1
    have pv : ∀ {i : Nat} {x : Str} {p : Pos}, (slotIs N i x && (vis X.env.scope x && (!(x == ("__debug__" : Str)) && !(x == ("__classdict__" : Str))))) = true → PE X (.Name x p) (tVar i) := fun {i x p} h => by
      obtain ⟨k1, h⟩ := and2 h
      obtain ⟨k2, h⟩ := and2 h
      obtain ⟨k3, k4⟩ := and2 h
      have k2' : Vis X.env.scope x := by
        unfold Pf.vis at k2
        rw [Bool.or_eq_true, Bool.or_eq_true] at k2
        exact k2.imp of_decide_eq_true fun h => h.imp of_decide_eq_true of_decide_eq_true
      exact pe_var (by rw [hN]; exact of_decide_eq_true k1) k2' (not1 k3) (not1 k4)
    exact pss_cons (ps_ost (pv h2) (pv h3) rfl) (ini_ps hN h4)
theorem ini_go {C : Addr} (T : OexC K C) {a : Addr} {σ : L2.St} (h0 : σ[0]? = some (some (.ref a))) : ∀ {ns : List Str} {j : Nat} {us : List V} {fs : List (Str × V)} {dx : Addr} {D : Ends} {H : Hp}, (∀ n ∈ ns, PySem.W.findIn K (.ref C) n = some none) → ns.length = us.length → (∀ i v, us[i]? = some v → σ[j + i]? = some (some v)) →
    H a = some (exo a C (some dx)) → H dx = some (exd dx fs) → dx ≠ a → fs.length + ns.length ≤ 900 → (∀ H', H' a = some (exo a C (some dx)) → H' dx = some (exd dx ((ns.zip us).reverse ++ fs)) → (∀ b, b ≠ a → b ≠ dx → H' b = H b) → D.nx σ H') → iniT K ns j D σ H
  | [], j, us, fs, dx, D, H, _, _, _, h1, h2, h3, _, hq => hq H h1 (by simpa using h2) fun _ _ _ => rfl
  | n :: ns, j, [], fs, dx, D, H, _, hl, _, _, _, _, _, _ => by cases hl
  | n :: ns, j, u :: us, fs, dx, D, H, hn, hl, hv, h1, h2, h3, hz, hq => by
    have e0 := hv 0 u rfl
    refine ⟨u, by simpa using e0, .ref a, h0, a, C, rfl, T, hn n List.mem_cons_self, .inr ⟨dx, fs, h1, h2, by omega, ?_⟩⟩
    refine ini_go T h0 (us := us) (fs := (n, u) :: fs) (dx := dx) (D := D) (fun m hm => hn m (List.mem_cons_of_mem _ hm)) (by simpa using hl) (fun i v h => by
      have := hv (i + 1) v h
      rw [← this]
      congr 1
      omega) ?_ upd_same h3 (by simp only [List.length_cons] at hz ⊢; omega) fun H' k1 k2 k3 => ?_
    · rw [upd_ne (Ne.symm h3)]; exact h1
    · refine hq H' k1 ?_ fun b b1 b2 => by rw [k3 b b1 b2, upd_ne b2]
      rw [k2, List.zip_cons_cons, List.reverse_cons, List.append_assoc]
      rfl
theorem zip_rev {ns : List Str} {us : List V} (nd : ns.Nodup) (hl : ns.length = us.length) {i : Nat} {n : Str} {v : V} (h1 : ns[i]? = some n) (h2 : us[i]? = some v) : (ns.zip us).reverse.lookup n = some v := by
  have key : ∀ (ns : List Str) (us : List V) (rest : List (Str × V)) (i : Nat), ns.Nodup → ns.length = us.length → ns[i]? = some n → us[i]? = some v → ((ns.zip us).reverse ++ rest).lookup n = some v := by
    intro ns
    induction ns with
    | nil => intro us rest i _ _ h _; cases h
    | cons m ns ih =>
      intro us rest i nd hl h1 h2
      cases us with
      | nil => cases hl
      | cons u us =>
        rw [List.nodup_cons] at nd
        rw [List.zip_cons_cons, List.reverse_cons, List.append_assoc]
        cases i with
        | zero =>
          cases h1
          cases h2
          have no : ∀ (l : List (Str × V)), (∀ p ∈ l, p.1 ≠ n) → ∀ r, (l ++ r).lookup n = r.lookup n := by
            intro l
            induction l with
            | nil => intro _ r; rfl
            | cons p l ih =>
              intro h r
              rw [List.cons_append, List.lookup_cons]
              have : (n == p.1) = false := by
                rw [beq_eq_false_iff_ne]
                exact fun e => h p List.mem_cons_self e.symm
              rw [this]
              exact ih (fun q hq => h q (List.mem_cons_of_mem _ hq)) r
          rw [no _ (fun p hp => by
            intro e
            have := (List.of_mem_zip (List.mem_reverse.mp hp)).1
            rw [e] at this
            exact nd.1 this)]
          show List.lookup n ((n, v) :: rest) = _
          rw [List.lookup_cons]
          simp
        | succ i => exact ih us _ i nd.2 (by simpa using hl) h1 h2
  have := key ns us [] i nd hl h1 h2
  rwa [List.append_nil] at this
theorem ini_fn {qual x : Str} {params : Arguments} {body : List Stmt} {scope : Scope} {dvs : List V} {kws : List (Str × V)} {f : Addr} {fd : FuncData} {N : List Str} {C : Addr} {ns : List Str} (F : FunD K x qual params body scope dvs kws f fd) (S : FnScope N N scope) (T : OexC K C) (nd : ns.Nodup) (hno : ∀ n ∈ ns, PySem.W.findIn K (.ref C) n = some none)
    (hne : ns ≠ []) (hl : N.length = ns.length + 1) (h100 : ns.length ≤ 100) (hc : chkIni N scope ns 1 body = true) : FnOk P w K mg base (L2.CX P w) 1 f fd N (iniSp C ns) := by
  refine F.ok S (fun vs H Q E ⟨a, us, e, l, _⟩ => ?_) fun cdv A outer s0 H vs Q E hr ⟨a, us, ev, l, ea, hq⟩ => ⟨iniT K ns 1, ini_ps rfl hc, ?_⟩
  · rw [e, List.length_cons, l, hl]
  · subst ev
    have hst : L2.start N (V.ref a :: us) = some (.ref a) :: us.map some := by
      unfold L2.start
      rw [List.length_cons, l, hl, Nat.sub_self]
      simp
    rw [hst]
    have hat : ∀ i v, us[i]? = some v → (some (V.ref a) :: us.map some)[1 + i]? = some (some v) := fun i v h => by
      rw [Nat.add_comm, List.getElem?_cons_succ, List.getElem?_map, h]
      rfl
    cases ns with
    | nil => exact absurd rfl hne
    | cons n ns =>
      cases us with
      | nil => cases l
      | cons u us =>
        refine ⟨u, rfl, .ref a, rfl, a, C, rfl, T, hno n List.mem_cons_self, .inl ⟨ea, fun dx hdx hne' => ?_⟩⟩
        refine ini_go (us := us) (fs := [(n, u)]) (dx := dx) T rfl (fun m hm => hno m (List.mem_cons_of_mem _ hm)) (by simpa using l.symm) (fun i v h => ?_) upd_same (by rw [upd_ne hne']; exact upd_same) hne' (by simp only [List.length_cons, List.length_nil] at h100 ⊢; omega) fun H' k1 k2 k3 => ?_
        · have := hat (i + 1) v h
          rw [← this]
          congr 1
          omega
        · refine hq dx H' _ hdx hne' k1 k2 (fun i m v h1 h2 => ?_) fun b b1 b2 => by rw [k3 b b1 b2, upd_ne b1, upd_ne b2]
          have := zip_rev nd (by simpa using l.symm) h1 h2
          rwa [List.zip_cons_cons, List.reverse_cons] at this
theorem lk_some {β : Type} {f : String} : ∀ {fs : List (String × β)}, f ∈ fs.map (·.1) → (fs.lookup f).isSome = true
  | [], h => by cases h
  | q :: fs, h => by
    rw [List.lookup_cons]
    cases hq : (f == q.1) with
    | true => rfl
    | false =>
      rw [List.map_cons] at h
      rcases List.mem_cons.mp h with e | h
      · rw [e] at hq
        simp at hq
      · exact lk_some h
theorem lk_mem {α β : Type} [BEq α] [LawfulBEq α] {a : α} {b : β} : ∀ {l : List (α × β)}, l.lookup a = some b → (a, b) ∈ l
  | [], h => by cases h
  | q :: l, h => by
    rw [List.lookup_cons] at h
    cases hq : (a == q.1) with
    | true =>
      rw [hq] at h
      cases h
      have e := eq_of_beq hq
      subst e
      exact List.mem_cons_self
    | false =>
      rw [hq] at h
      exact List.mem_cons_of_mem _ (lk_mem h)
theorem el_ok {ex : List (String × List Str)} {el : List (String × Nat)} (h : el.all (fun q => match ex.lookup q.1 with | some ns => ns.length == q.2 | none => false) = true) : ∀ q ∈ el, ∃ ns, ex.lookup q.1 = some ns ∧ ns.length = q.2 := fun q hq => by
  have := List.all_eq_true.mp h q hq
  split at this
  · rename_i ns e
    exact ⟨ns, e, eq_of_beq this⟩
  · cases this
/-! ### one def more -/
theorem GOk.cons {fs : List (String × FSp)} {ms cs : List ((String × String) × FSp)} {ic : List String} {fk : List (String × String)} {ex : List (String × List Str)} {em : List ((String × String) × Bool)} {ci : List (String × Int)} {g : Str → Addr} {k : Nat} (h : GOk (mkP fs ms cs ic fk ex em ci) g k P w K mg base) {x : String} {F : FSp} {f : Addr} {fd : FuncData} {ps : List Str} (hm : mg (Str.ofString x) = some (.ref f)) (hk : PySem.W.keepIn K (.ref f) = true)
    (hb : Binds K fd ps []) (hf : FnOk P w K mg base (L2.CX P w) (k + 1) f fd ps (spOf K g (mkP fs ms cs ic fk ex em ci) F)) (hd : (Str.ofString x == ("__debug__" : Str)) = false) : GOk (mkP ((x, F) :: fs) ms cs ic fk ex em ci) g (k + 1) P w K mg base where
  fn := fun y F' hy => by
    have hy' : (((x, F) :: fs) : List (String × FSp)).lookup y = some F' := hy
    rw [List.lookup_cons] at hy'
    cases hxy : (y == x) with
    | true =>
      rw [hxy] at hy'
      have e := eq_of_beq hxy
      subst e
      cases hy'
      exact ⟨f, fd, ps, hm, hk, hb, hf, hd⟩
    | false =>
      rw [hxy] at hy'
      obtain ⟨f', fd', ps', a1, a2, a3, a4, a5⟩ := h.fn y F' hy'
      exact ⟨f', fd', ps', a1, a2, a3, a4.mono (Nat.le_succ k), a5⟩
  fre := h.fre
  exc := fun c ns hc => by
    have F0 := h.exc c ns hc
    refine ⟨F0.gm, F0.kp, F0.db, F0.sub, F0.ty, F0.nd, F0.nul, fun hne => ?_⟩
    obtain ⟨a1, a2, a3, fI, fd', ps', j, b1, b2, b3, b4⟩ := F0.own hne
    exact ⟨a1, a2, a3, fI, fd', ps', j, b1, b2, by omega, b4⟩
  exm := h.exm
  mth := fun c m F' hc => by
    obtain ⟨a1, f', fd', ps', a2, a3, a4⟩ := h.mth c m F' hc
    exact ⟨a1, f', fd', ps', a2, a3, a4.mono (Nat.le_succ k)⟩
  mkc := fun c hs => by
    obtain ⟨a1, a2, a3, a4, a5⟩ := h.mkc c hs
    refine ⟨a1, a2, a3, a4, fun F' hF => ?_⟩
    obtain ⟨f', fd', ps', j, b1, b2, b3, b4⟩ := a5 F' hF
    exact ⟨f', fd', ps', j, by omega, b2, b3, b4⟩
  fok := h.fok
  cmt := fun c' m' F' hc => by
    obtain ⟨a1, a2, mc, p, f', fd', ps', b1, b2, b3, b4⟩ := h.cmt c' m' F' hc
    exact ⟨a1, a2, mc, p, f', fd', ps', b1, b2, b3, b4.mono (by omega)⟩
  isc := h.isc
  cint := h.cint
/-- a method more -/
theorem GOk.consM {fs : List (String × FSp)} {ms cs : List ((String × String) × FSp)} {ic : List String} {fk : List (String × String)} {ex : List (String × List Str)} {em : List ((String × String) × Bool)} {ci : List (String × Int)} {g : Str → Addr} {k : Nat} (h : GOk (mkP fs ms cs ic fk ex em ci) g k P w K mg base) {c m : String} {F : FSp} {f : Addr} {fd : FuncData} {ps : List Str} (hc : Cls K (g (Str.ofString c))) (hm : Meth K (g (Str.ofString c)) (Str.ofString m) f)
    (hb : Binds K fd ps []) (hf : FnOk P w K mg base (L2.CX P w) (k + 1) f fd ps (spOf K g (mkP fs ms cs ic fk ex em ci) F)) (hi : m = "__init__" → mg (Str.ofString c) = some (.ref (g (Str.ofString c))) ∧ PySem.W.makesIn K (g (Str.ofString c)) = true ∧ PySem.W.keepIn K (.ref (g (Str.ofString c))) = true ∧ (Str.ofString c == ("__debug__" : Str)) = false) : GOk (mkP fs (((c, m), F) :: ms) cs ic fk ex em ci) g (k + 2) P w K mg base where
  fn := fun y F' hy => by
    obtain ⟨f', fd', ps', a1, a2, a3, a4, a5⟩ := h.fn y F' hy
    exact ⟨f', fd', ps', a1, a2, a3, a4.mono (by omega), a5⟩
  fre := h.fre
  exc := fun c ns hc => by
    have F0 := h.exc c ns hc
    refine ⟨F0.gm, F0.kp, F0.db, F0.sub, F0.ty, F0.nd, F0.nul, fun hne => ?_⟩
    obtain ⟨a1, a2, a3, fI, fd', ps', j, b1, b2, b3, b4⟩ := F0.own hne
    exact ⟨a1, a2, a3, fI, fd', ps', j, b1, b2, by omega, b4⟩
  exm := h.exm
  mth := fun c' m' F' hc' => by
    have hy' : ((((c, m), F) :: ms) : List ((String × String) × FSp)).lookup (c', m') = some F' := hc'
    rw [List.lookup_cons] at hy'
    cases hxy : ((c', m') == (c, m)) with
    | true =>
      rw [hxy] at hy'
      have e := eq_of_beq hxy
      cases e
      cases hy'
      exact ⟨hc, f, fd, ps, hm, hb, hf.mono (by omega)⟩
    | false =>
      rw [hxy] at hy'
      obtain ⟨a1, f', fd', ps', a2, a3, a4⟩ := h.mth c' m' F' hy'
      exact ⟨a1, f', fd', ps', a2, a3, a4.mono (by omega)⟩
  mkc := fun c' hs => by
    have hs' : (((((c, m), F) :: ms) : List ((String × String) × FSp)).lookup (c', "__init__")).isSome = true := hs
    rw [List.lookup_cons] at hs'
    cases hxy : ((c', "__init__") == (c, m)) with
    | true =>
      have e := eq_of_beq hxy
      cases e
      obtain ⟨a1, a2, a3, a4⟩ := hi rfl
      refine ⟨a1, a2, a3, a4, fun F' hF => ?_⟩
      have hF' : (((((c, "__init__"), F) :: ms) : List ((String × String) × FSp)).lookup (c, "__init__")) = some F' := hF
      rw [List.lookup_cons, beq_self_eq_true] at hF'
      cases hF'
      exact ⟨f, fd, ps, k + 1, by omega, hm, hb, hf⟩
    | false =>
      rw [hxy] at hs'
      obtain ⟨a1, a2, a3, a4, a5⟩ := h.mkc c' hs'
      refine ⟨a1, a2, a3, a4, fun F' hF => ?_⟩
      have hF' : (((((c, m), F) :: ms) : List ((String × String) × FSp)).lookup (c', "__init__")) = some F' := hF
      rw [List.lookup_cons, hxy] at hF'
      obtain ⟨f', fd', ps', j, b1, b2, b3, b4⟩ := a5 F' hF'
      exact ⟨f', fd', ps', j, by omega, b2, b3, b4⟩
  fok := h.fok
  cmt := fun c' m' F' hc => by
    obtain ⟨a1, a2, mc, p, f', fd', ps', b1, b2, b3, b4⟩ := h.cmt c' m' F' hc
    exact ⟨a1, a2, mc, p, f', fd', ps', b1, b2, b3, b4.mono (by omega)⟩
  isc := h.isc
  cint := h.cint
/-- a classmethod more -/
theorem GOk.consC {fs : List (String × FSp)} {ms cs : List ((String × String) × FSp)} {ic : List String} {fk : List (String × String)} {ex : List (String × List Str)} {em : List ((String × String) × Bool)} {ci : List (String × Int)} {g : Str → Addr} {k : Nat} (h : GOk (mkP fs ms cs ic fk ex em ci) g k P w K mg base) {c m : String} {F : FSp} {f pp : Addr} {mc : Value} {fd : FuncData} {ps : List Str} (h1 : mg (Str.ofString c) = some (.ref (g (Str.ofString c)))) (h2 : (Str.ofString c == ("__debug__" : Str)) = false) (h3 : ClX.CRead K (g (Str.ofString c)) mc) (h4 : ClX.CMet K (g (Str.ofString c)) mc (Str.ofString m) pp f)
    (hb : Binds K fd ps []) (hf : FnOk P w K mg base (L2.CX P w) (k + 1) f fd ps (spOf K g (mkP fs ms cs ic fk ex em ci) F)) : GOk (mkP fs ms (((c, m), F) :: cs) ic fk ex em ci) g (k + 1) P w K mg base where
  fn := fun y F' hy => by
    obtain ⟨f', fd', ps', a1, a2, a3, a4, a5⟩ := h.fn y F' hy
    exact ⟨f', fd', ps', a1, a2, a3, a4.mono (by omega), a5⟩
  fre := h.fre
  exc := fun c ns hc => by
    have F0 := h.exc c ns hc
    refine ⟨F0.gm, F0.kp, F0.db, F0.sub, F0.ty, F0.nd, F0.nul, fun hne => ?_⟩
    obtain ⟨a1, a2, a3, fI, fd', ps', j, b1, b2, b3, b4⟩ := F0.own hne
    exact ⟨a1, a2, a3, fI, fd', ps', j, b1, b2, by omega, b4⟩
  exm := h.exm
  mth := fun c' m' F' hc' => by
    obtain ⟨a1, f', fd', ps', a2, a3, a4⟩ := h.mth c' m' F' hc'
    exact ⟨a1, f', fd', ps', a2, a3, a4.mono (by omega)⟩
  mkc := fun c' hs => by
    obtain ⟨a1, a2, a3, a4, a5⟩ := h.mkc c' hs
    refine ⟨a1, a2, a3, a4, fun F' hF => ?_⟩
    obtain ⟨f', fd', ps', j, b1, b2, b3, b4⟩ := a5 F' hF
    exact ⟨f', fd', ps', j, by omega, b2, b3, b4⟩
  fok := h.fok
  cmt := fun c' m' F' hc' => by
    have hy' : ((((c, m), F) :: cs) : List ((String × String) × FSp)).lookup (c', m') = some F' := hc'
    rw [List.lookup_cons] at hy'
    cases hxy : ((c', m') == (c, m)) with
    | true =>
      rw [hxy] at hy'
      have e := eq_of_beq hxy
      cases e
      cases hy'
      exact ⟨h1, h2, mc, pp, f, fd, ps, h3, h4, hb, hf⟩
    | false =>
      rw [hxy] at hy'
      obtain ⟨a1, a2, mc', p', f', fd', ps', b1, b2, b3, b4⟩ := h.cmt c' m' F' hy'
      exact ⟨a1, a2, mc', p', f', fd', ps', b1, b2, b3, b4.mono (by omega)⟩
  isc := h.isc
  cint := h.cint
theorem GOk.addF {fs : List (String × FSp)} {ms cs : List ((String × String) × FSp)} {ic : List String} {fk : List (String × String)} {ex : List (String × List Str)} {em : List ((String × String) × Bool)} {ci : List (String × Int)} {g : Str → Addr} {k : Nat} (h : GOk (mkP fs ms cs ic fk ex em ci) g k P w K mg base) {x : String} {qual nm : Str} {params : Arguments} {body : List Stmt} {scope : Scope} {kws : List (Str × V)} {fd : FuncData} {N ps : List Str} {pn : List Nat} {el : List (String × Nat)} {m : Ss} {f : Addr}
    (F : FunD K nm qual params body scope [] kws f fd) (S : FnScope N ps scope)
    (hb : ∀ (kV doc pm : Value) (an : Option Addr) (cdv ct : Value) (us : List Value), us.length = ps.length → bindArgs (PySem.W.fnOf nm qual params body scope .none kV doc pm an cdv ct) ⟨us, []⟩ = pure (ps.zip us))
    (hc : chkTs' N (fs.map (·.1)) el pn m scope body = true) (hel : el.all (fun q => match ex.lookup q.1 with | some ns => ns.length == q.2 | none => false) = true) (hpn : pn.all (fun i => decide (i < ps.length)) = true)
    (hm : mg (Str.ofString x) = some (.ref f)) (hd : (Str.ofString x == ("__debug__" : Str)) = false) : GOk (mkP ((x, semF (mkP fs ms cs ic fk ex em ci) N.length ps.length pn m) :: fs) ms cs ic fk ex em ci) g (k + 1) P w K mg base := by
  refine h.cons hm F.kp (F.bindsN hb) (fn_ok F S h (fun f hf => ?_) (fun q hq => ?_) hc fun i hi => of_decide_eq_true (List.all_eq_true.mp hpn i hi)) hd
  · show (fs.lookup f).isSome = true
    exact lk_some hf
  · have := List.all_eq_true.mp hel q hq
    show ∃ ns, ex.lookup q.1 = some ns ∧ _
    split at this
    · rename_i ns e
      exact ⟨ns, e, eq_of_beq this⟩
    · cases this
theorem GOk.addM {fs : List (String × FSp)} {ms cs : List ((String × String) × FSp)} {ic : List String} {fk : List (String × String)} {ex : List (String × List Str)} {em : List ((String × String) × Bool)} {ci : List (String × Int)} {g : Str → Addr} {k : Nat} (h : GOk (mkP fs ms cs ic fk ex em ci) g k P w K mg base) {cn mn : String} {qual nm : Str} {params : Arguments} {body : List Stmt} {scope : Scope} {kws : List (Str × V)} {fd : FuncData} {N ps : List Str} {pn : List Nat} {el : List (String × Nat)} {m : Ss} {f : Addr}
    (F : FunD K nm qual params body scope [] kws f fd) (S : FnScope N ps scope)
    (hb : ∀ (kV doc pm : Value) (an : Option Addr) (cdv ct : Value) (us : List Value), us.length = ps.length → bindArgs (PySem.W.fnOf nm qual params body scope .none kV doc pm an cdv ct) ⟨us, []⟩ = pure (ps.zip us))
    (hc : chkTs' N (fs.map (·.1)) el pn m scope body = true) (hel : el.all (fun q => match ex.lookup q.1 with | some ns => ns.length == q.2 | none => false) = true) (hpn : pn.all (fun i => decide (i < ps.length)) = true)
    (hcl : Cls K (g (Str.ofString cn))) (hme : Meth K (g (Str.ofString cn)) (Str.ofString mn) f) (hi : mn = "__init__" → mg (Str.ofString cn) = some (.ref (g (Str.ofString cn))) ∧ PySem.W.makesIn K (g (Str.ofString cn)) = true ∧ PySem.W.keepIn K (.ref (g (Str.ofString cn))) = true ∧ (Str.ofString cn == ("__debug__" : Str)) = false) :
    GOk (mkP fs (((cn, mn), semF (mkP fs ms cs ic fk ex em ci) N.length ps.length pn m) :: ms) cs ic fk ex em ci) g (k + 2) P w K mg base := by
  refine h.consM hcl hme (F.bindsN hb) (fn_ok F S h (fun f hf => ?_) (fun q hq => ?_) hc fun i hi => of_decide_eq_true (List.all_eq_true.mp hpn i hi)) hi
  · show (fs.lookup f).isSome = true
    exact lk_some hf
  · have := List.all_eq_true.mp hel q hq
    show ∃ ns, ex.lookup q.1 = some ns ∧ _
    split at this
    · rename_i ns e
      exact ⟨ns, e, eq_of_beq this⟩
    · cases this
theorem GOk.addC {fs : List (String × FSp)} {ms cs : List ((String × String) × FSp)} {ic : List String} {fk : List (String × String)} {ex : List (String × List Str)} {em : List ((String × String) × Bool)} {ci : List (String × Int)} {g : Str → Addr} {k : Nat} (h : GOk (mkP fs ms cs ic fk ex em ci) g k P w K mg base) {cn mn : String} {qual nm : Str} {params : Arguments} {body : List Stmt} {scope : Scope} {kws : List (Str × V)} {fd : FuncData} {N ps : List Str} {pn : List Nat} {el : List (String × Nat)} {m : Ss} {f : Addr}
    (F : FunD K nm qual params body scope [] kws f fd) (S : FnScope N ps scope)
    (hb : ∀ (kV doc pm : Value) (an : Option Addr) (cdv ct : Value) (us : List Value), us.length = ps.length → bindArgs (PySem.W.fnOf nm qual params body scope .none kV doc pm an cdv ct) ⟨us, []⟩ = pure (ps.zip us))
    (hc : chkTs' N (fs.map (·.1)) el pn m scope body = true) (hel : el.all (fun q => match ex.lookup q.1 with | some ns => ns.length == q.2 | none => false) = true) (hpn : pn.all (fun i => decide (i < ps.length)) = true)
    {pp : Addr} {mc : Value} (h1 : mg (Str.ofString cn) = some (.ref (g (Str.ofString cn)))) (h2 : (Str.ofString cn == ("__debug__" : Str)) = false) (h3 : ClX.CRead K (g (Str.ofString cn)) mc) (h4 : ClX.CMet K (g (Str.ofString cn)) mc (Str.ofString mn) pp f) :
    GOk (mkP fs ms (((cn, mn), semF (mkP fs ms cs ic fk ex em ci) N.length ps.length pn m) :: cs) ic fk ex em ci) g (k + 1) P w K mg base := by
  refine h.consC h1 h2 h3 h4 (F.bindsN hb) (fn_ok F S h (fun f hf => ?_) (fun q hq => ?_) hc fun i hi => of_decide_eq_true (List.all_eq_true.mp hpn i hi))
  · show (fs.lookup f).isSome = true
    exact lk_some hf
  · have := List.all_eq_true.mp hel q hq
    show ∃ ns, ex.lookup q.1 = some ns ∧ _
    split at this
    · rename_i ns e
      exact ⟨ns, e, eq_of_beq this⟩
    · cases this
theorem ExF.of {h : Heap} (X : K.In h) (G : h.Ns mainGlobals mg) {c : Str} {ns : List Str} (hb : exB K c ns = true) (hi : ns ≠ [] → ∃ fd ps, FnOk P w K mg base (L2.CX P w) 1 (He.ma K (He.ga K c) "__init__") fd ps (iniSp (He.ga K c) ns) ∧ Binds K fd ps []) : ExF (He.ga K) 2 P w K mg base c ns := by
  unfold exB at hb
  obtain ⟨h1, hb⟩ := and2 hb
  obtain ⟨h2, hb⟩ := and2 hb
  obtain ⟨h3, hb⟩ := and2 hb
  obtain ⟨h4, hb⟩ := and2 hb
  obtain ⟨h5, hb⟩ := and2 hb
  obtain ⟨h6, hb⟩ := and2 hb
  refine ⟨PySem.W.mg_of X G (of_decide_eq_true h2), h1, of_decide_eq_true h3, of_decide_eq_true h4, of_decide_eq_true h5, of_decide_eq_true h6, fun e => ?_, fun e => ?_⟩
  · subst e
    exact hb
  · cases ns with
    | nil => exact absurd rfl e
    | cons n ns =>
      have hb' := hb
      rw [if_neg (by simp)] at hb'
      obtain ⟨k1, hb'⟩ := and2 hb'
      obtain ⟨k2, hb'⟩ := and2 hb'
      obtain ⟨k3, hb'⟩ := and2 hb'
      obtain ⟨k4, k5⟩ := and2 hb'
      obtain ⟨fd, ps, a1, a2⟩ := hi e
      exact ⟨oexB_ok k1, xfB_ok k2, fun m hm => of_decide_eq_true (List.all_eq_true.mp k3 m hm), _, fd, ps, 1, of_decide_eq_true k4, of_decide_eq_true k5, Nat.le_refl _, a1, a2⟩
theorem exB_oex {c : Str} {ns : List Str} (hb : exB K c ns = true) (hne : ns.isEmpty = false) : OexC K (He.ga K c) ∧ ns.Nodup ∧ ∀ n ∈ ns, PySem.W.findIn K (.ref (He.ga K c)) n = some none := by
  unfold exB at hb
  obtain ⟨_, hb⟩ := and2 hb
  obtain ⟨_, hb⟩ := and2 hb
  obtain ⟨_, hb⟩ := and2 hb
  obtain ⟨_, hb⟩ := and2 hb
  obtain ⟨_, hb⟩ := and2 hb
  obtain ⟨h6, hb⟩ := and2 hb
  rw [hne, if_neg Bool.false_ne_true] at hb
  obtain ⟨k1, hb⟩ := and2 hb
  obtain ⟨_, hb⟩ := and2 hb
  obtain ⟨k3, _⟩ := and2 hb
  exact ⟨oexB_ok k1, of_decide_eq_true h6, fun m hm => of_decide_eq_true (List.all_eq_true.mp k3 m hm)⟩
end
end Pf

/-! The law's own promise. -/
namespace Pf
open PySem PySem.Spec PyProof.Rows L2
def noLst (K : PySem.W.Frag) : Bool := K.all fun p => !(p.2.cls == Value.type "list")
section
variable {P : Program} {w : World} {K : PySem.W.Frag} {mg : Str → Option Value} {base : Heap}
theorem quiet {k : Nat} {f : Addr} {fd : FuncData} {ps : List Str} {sp : Sp} (F : FnOk P w K mg base (L2.CX P w) k f fd ps sp) : FnOk P w K mg base CX0 k f fd ps (fun vs H Q _ => sp vs H Q E0) :=
  ⟨fun vs H Q E h => F.len vs H Q E0 h, fun A outer s H args us vs Q E hr e0 hb hv h => codeAny_mono (F.run A outer s H args us vs Q E0 hr e0 hb hv h) fun r s' hq => by
    cases r with
    | ok fl => cases fl <;> exact hq
    | error e =>
      obtain ⟨_, _, _, _, _, _, _, _, _, _, _, _, z⟩ := hq
      exact z.elim⟩
theorem rd_of {H : Hp} {a : Addr} {vs : List V} (hK : noLst K = true) (h : SqL K H a vs) : Rd H a (.lst vs) := by
  rcases h with h | ⟨o, its, n, h1, h2, _⟩
  · exact h
  · have := List.all_eq_true.mp hK (a, o) (lk_mem h1)
    rw [show ((a, o) : Addr × Obj).2.cls = Value.type "list" from h2] at this
    simp at this
theorem law_sp {g : Str → Addr} {G : Gb} {F : FSp} {n : Nat} (hF : ∀ ns : List Int, ns.length ≤ n → F [.lst false (ns.map D.int)] (fun d _ => d = .bl true) fun _ _ _ => False) (hK : noLst K = true) {H : Hp} {a : Addr} {ns : List Int} (hl : ns.length ≤ n) (hS : SqL K H a (ns.map V.int)) :
    spOf K g G F [.ref a] H (fun v _ => v = .bl true) E0 := by
  have rd := rd_of hK hS
  have hne : H a ≠ none := by
    rcases rd with e | ⟨o, e⟩ <;> (rw [e]; intro z; cases z)
  refine ⟨fun b => b = a, AS.no, [.lst false (ns.map D.int)], _, _, ⟨fun b => b = a, AS.no, AS.no, AS.no, .has (O1 := AS.no) (O2 := AS.no) (fun _ z => z) (fun _ z => z.elim) (.lstF rfl rd RepL.ints) .nil, .nil, fun _ z => z, fun _ z => z.elim, Good.refl (fun _ z => z.elim) (fun _ z => z.elim) (fun b z => z ▸ hne), fun p hp => by cases hp⟩, hF ns hl, fun r us v H' hr s => ?_, fun c fs us cls d H' h => h.elim⟩
  subst hr
  obtain ⟨Z, O, r, _⟩ := s.rep rfl
  cases r
  rfl
end
end Pf

/-! The head's facts: defs, classmethods, own classes. -/
namespace Pf
open PySem PySem.Spec PyProof.Rows L2
def asP (g : Addr → Option Obj) (n : Nat) : List Addr := He.asD g n ++ [cStatics]
abbrev AlP : Type := He.AlD × He.AlD × Bool
def obsPK (fa : List He.Fa) (fn : List He.DefD) (fc : List He5.DefA) (ex : PySem.W.Frag → Bool) (K : PySem.W.Frag) : AlP := (He.obsD fa fn K, (fc.all fun d => d.ok K, fc.map fun d => He5.fnA K (d.at_ K)), ex K)
def valP (fn : List He.DefD) (fc : List He5.DefA) : AlP := (He.valD fn, (true, fc.map He5.DefA.val), true)
def SaysP (fa : List He.Fa) (fn : List He.DefD) (fc : List He5.DefA) (ex : PySem.W.Frag → Bool) (K : PySem.W.Frag) : Prop := obsPK fa fn fc ex K = valP fn fc
def obsP (n : Nat) (fa : List He.Fa) (fn : List He.DefD) (fc : List He5.DefA) (ex : PySem.W.Frag → Bool) (g : Addr → Option Obj) : AlP := obsPK fa fn fc ex (He.frT g (asP g n))
def hookP (n : Nat) (fa : List He.Fa) (fn : List He.DefD) (fc : List He5.DefA) (ex : PySem.W.Frag → Bool) : PySem.W.Hook where
  α := AlP
  obs := fun s => obsP n fa fn fc ex s.heap.get?
  val := fun _ => valP fn fc
  says := fun _ h => ∃ K : PySem.W.Frag, K.In h ∧ SaysP fa fn fc ex K
  of := fun _ _ e => ⟨_, He.frT_in, e⟩
  keeps := fun _ _ _ ⟨K, hK, c⟩ k => ⟨K, PySem.W.Frag.In.keeps hK k, c⟩
theorem obsP_eq {n : Nat} {fa : List He.Fa} {fn : List He.DefD} {fc : List He5.DefA} {ex : PySem.W.Frag → Bool} {g : Addr → Option Obj} {s : Shared} (h : ∀ a, g a = s.heap.get? a) : obsP n fa fn fc ex g = (hookP n fa fn fc ex).obs s := by
  have e : g = s.heap.get? := funext h
  rw [e] <;> rfl
/-- the same, where the addresses are told -/
def obsA (as : List Addr) (fa : List He.Fa) (fn : List He.DefD) (fc : List He5.DefA) (ex : PySem.W.Frag → Bool) (g : Addr → Option Obj) : AlP := obsPK fa fn fc ex (He.frT g as)
def hookA (as : List Addr) (fa : List He.Fa) (fn : List He.DefD) (fc : List He5.DefA) (ex : PySem.W.Frag → Bool) : PySem.W.Hook where
  α := AlP
  obs := fun s => obsA as fa fn fc ex s.heap.get?
  val := fun _ => valP fn fc
  says := fun _ h => ∃ K : PySem.W.Frag, K.In h ∧ SaysP fa fn fc ex K
  of := fun _ _ e => ⟨_, He.frT_in, e⟩
  keeps := fun _ _ _ ⟨K, hK, c⟩ k => ⟨K, PySem.W.Frag.In.keeps hK k, c⟩
theorem obsA_eq {as : List Addr} {fa : List He.Fa} {fn : List He.DefD} {fc : List He5.DefA} {ex : PySem.W.Frag → Bool} {g : Addr → Option Obj} {s : Shared} (h : ∀ a, g a = s.heap.get? a) : obsA as fa fn fc ex g = (hookA as fa fn fc ex).obs s := by
  have e : g = s.heap.get? := funext h
  rw [e] <;> rfl
section
variable {fa : List He.Fa} {fn : List He.DefD} {fc : List He5.DefA} {ex : PySem.W.Frag → Bool} {K : PySem.W.Frag}
theorem SaysP.d (c : SaysP fa fn fc ex K) : He.SaysD fa fn K := congrArg (fun z : AlP => z.1) c
theorem SaysP.more (c : SaysP fa fn fc ex K) : ex K = true := congrArg (fun z : AlP => z.2.2) c
theorem SaysP.defA (c : SaysP fa fn fc ex K) (i : Nat) {d : He5.DefA} (h : fc[i]? = some d) : ∃ fd, FunD K d.name d.qual d.params d.body d.scope (d.dvs K) (d.kws K) (d.at_ K) fd := by
  have c2 : (fc.all fun d => d.ok K) = true := congrArg (fun z : AlP => z.2.1.1) c
  have e : fc.map (fun d => He5.fnA K (d.at_ K)) = fc.map He5.DefA.val := congrArg (fun z : AlP => z.2.1.2) c
  have e2 : (fc.map fun d => He5.fnA K (d.at_ K))[i]? = (fc.map He5.DefA.val)[i]? := by rw [e]
  rw [List.getElem?_map, List.getElem?_map, h] at e2
  exact He5.DefA.funD (Option.some.inj e2) (List.all_eq_true.mp c2 d (List.mem_of_getElem? h))
end
/-! ### own classes -/
def tyNs : List String := ["NoneType", "bool", "int", "str", "tuple", "list"]
def isiK (K : PySem.W.Frag) (ic : List String) (c : String) : Bool :=
  (He.eqO (PySem.W.findIn K (.ref (He.ga K (Str.ofString c))) "__class__") (some (some (.builtin "object.__class__"))) && (He.eqO (PySem.W.specialIn K (.builtin "object.__class__") "__get__") (some (some (.builtin "getset_descriptor.__get__"))) &&
    (decide (PySem.W.takesIn K (.builtin "object.__class__") = some true) && decide (PySem.W.mroIn K (He.ga K (Str.ofString c)) (.type "object") = some true)))) &&
  (tyNs.all (fun t => decide (PySem.W.kitOne K (.type t) (.ref (He.ga K (Str.ofString c))) = some false)) && ic.all fun c' => decide (PySem.W.kitOne K (.ref (He.ga K (Str.ofString c'))) (.ref (He.ga K (Str.ofString c))) = some (Str.ofString c' == Str.ofString c)))
def cmK (K : PySem.W.Frag) (c m : String) : Bool := PySem.W.readsIn K (He.ga K (Str.ofString c)) (.type "type") && (He.eqO (PySem.W.specialIn K (.ref (He.ga K (Str.ofString c))) "__getattribute__") (some (some (.builtin "type.__getattribute__"))) &&
  (He5.wrapB K (He.ga K (Str.ofString c)) "classmethod" "classmethod.__get__" (Str.ofString m) && PySem.W.fnIn K (He5.wf K (He.ga K (Str.ofString c)) "classmethod" (Str.ofString m))))
section
variable {K : PySem.W.Frag} {ic : List String} {c m : String}
theorem isiK_ok (h : isiK K ic c = true) (cl : Cls K (He.ga K (Str.ofString c))) : IsI K (He.ga K (Str.ofString c)) ∧ (∀ t ∈ tyNs, PySem.W.kitOne K (.type t) (.ref (He.ga K (Str.ofString c))) = some false) ∧
    ∀ c' ∈ ic, PySem.W.kitOne K (.ref (He.ga K (Str.ofString c'))) (.ref (He.ga K (Str.ofString c))) = some (Str.ofString c' == Str.ofString c) := by
  unfold isiK at h
  obtain ⟨h1, h2⟩ := and2 h
  obtain ⟨h3, h4⟩ := and2 h1
  obtain ⟨h5, h6⟩ := and2 h4
  obtain ⟨h7, h8⟩ := and2 h6
  obtain ⟨h9, h10⟩ := and2 h2
  exact ⟨⟨cl, He.eqO_ok h3, He.eqO_ok h5, of_decide_eq_true h7, of_decide_eq_true h8⟩, fun t ht => of_decide_eq_true (List.all_eq_true.mp h9 t ht), fun c' hc => of_decide_eq_true (List.all_eq_true.mp h10 c' hc)⟩
theorem cmK_ok (h : cmK K c m = true) : ClX.CRead K (He.ga K (Str.ofString c)) (.type "type") ∧ ClX.CMet K (He.ga K (Str.ofString c)) (.type "type") (Str.ofString m) (He.ma K (He.ga K (Str.ofString c)) (Str.ofString m)) (He5.wf K (He.ga K (Str.ofString c)) "classmethod" (Str.ofString m)) := by
  unfold cmK at h
  obtain ⟨h1, h2⟩ := and2 h
  obtain ⟨h3, h4⟩ := and2 h2
  obtain ⟨h5, h6⟩ := and2 h4
  exact ⟨⟨h1, He.eqO_ok h3⟩, He5.cmet_of h5 h6⟩
end
end Pf

/-! Plain rules: loops, comprehensions, answers. -/
namespace Pf
open PySem PySem.Spec PyProof.Rows L2
theorem runs_0 {G : Gb} {en : En} {P : Pt} : runs G .nil en P = P.nx en := by unfold runs; rfl
theorem runs_1 {G : Gb} {s : S} {en : En} {P : Pt} : runs G (.cons s .nil) en P = run G s en P := by rw [runs]
theorem runs_c {G : Gb} {s s2 : S} {ss : Ss} {en : En} {P : Pt} : runs G (.cons s (.cons s2 ss)) en P = run G s en { P with nx := fun e1 => runs G (.cons s2 ss) e1 P } := by
  rw [runs]
  intro h
  cases h
theorem run_whl {G : Gb} {c : E} {b : Ss} {en : En} {P : Pt} : run G (.whl c b) en P = ∃ n, whW (fun e1 K => ev G c e1 (fun d e2 => ∃ t, d = .bl t ∧ K t e2) P.ex) (fun e1 K => runs G b e1 { P with nx := K, ct := K, bk := P.nx }) P.nx n en := by rw [run]
theorem run_forr {G : Gb} {tg : List Nat} {src : Src} {b : Ss} {en : En} {P : Pt} : run G (.forr tg src b) en P = evSrc G src en (fun ds e1 => frW tg (fun e2 K => runs G b e2 { P with nx := K, ct := K, bk := P.nx }) P.nx ds e1) P.ex := by rw [run]
theorem run_asg {G : Gb} {i : Nat} {e : E} {en : En} {P : Pt} : run G (.asg i e) en P = ev G e en (fun d e1 => P.nx (e1.set i (some d))) P.ex := by rw [run]
theorem ev_lc {G : Gb} {tg : List Nat} {src : Src} {cs : Es} {elt : E} {en : En} {Q : D → En → Prop} {X : Xp} : ev G (.lc tg src cs elt) en Q X = evSrc G src en (fun ds e1 => lcW tg tg (fun e2 K => evTs G cs e2 K X) (fun e2 K => ev G elt e2 K (fun _ _ _ => False)) ds (offs e1 tg) [] Q) X := by rw [ev]
theorem src_it {G : Gb} {e : E} {en : En} {Q : List D → En → Prop} {X : Xp} : evSrc G (.it e) en Q X = ev G e en (fun d e1 => ∃ xs, itms d = some xs ∧ Q (frzs xs) e1) X := by rw [evSrc]
theorem ev_vf {G : Gb} {i : Nat} {d : D} {en : En} {Q : D → En → Prop} {X : Xp} (h : (en[i]?).join = some d) (hf : fz d = true) : ev G (.var i) en Q X = Q d en := by
  rw [ev, h]
  exact if_pos hf
theorem ev_vo {G : Gb} {i : Nat} {d : D} {en : En} {Q : D → En → Prop} {X : Xp} (h : (en[i]?).join = some d) (hf : fz d = false) : ev G (.var i) en Q X = Q (frz d) (en.set i (some (frz d))) := by
  rw [ev, h]
  exact if_neg (by rw [hf]; exact Bool.false_ne_true)
theorem callW_some {F : FSp} {en en2 : En} {rs : List R} {ds : List D} {Q : D → En → Prop} {X : Xp} (h : takeA en rs = some (ds, en2)) : callW (some F) rs en Q X = F ds (fun r us => Q r (putA en2 rs us)) (fun c fs us => X c fs (putA en2 rs us)) := by
  unfold callW
  rw [h]
def Ret (F : FSp) (ds : List D) (r : D) (us : List (Option D)) : Prop := ∀ q x, q r us → F ds q x
def Exc (F : FSp) (ds : List D) (c : String) (fs : List D) (us : List (Option D)) : Prop := ∀ q x, x c fs us → F ds q x
theorem fr_inv {tg : List Nat} {body : En → (En → Prop) → Prop} {fin : En → Prop} (I : List D → En → Prop) (step : ∀ d ds en K, I (d :: ds) en → (∀ e, I ds e → K e) → bindW tg d en fun e1 => body e1 K) (hf : ∀ en, I [] en → fin en) : ∀ ds en, I ds en → frW tg body fin ds en
  | [], en, h => hf en h
  | d :: ds, en, h => step d ds en _ h fun e he => fr_inv I step hf ds e he
theorem wh_inv {c : En → (Bool → En → Prop) → Prop} {b : En → (En → Prop) → Prop} {fin : En → Prop} (I : Nat → En → Prop) (step : ∀ n en K, I n en → (∀ e, (∃ m, n = m + 1 ∧ I m e) → K e) → c en fun t e1 => if t = true then b e1 K else fin e1) : ∀ n en, I n en → whW c b fin (n + 1) en
  | 0, en, h => step 0 en _ h fun e ⟨m, hm, _⟩ => by omega
  | n + 1, en, h => step (n + 1) en _ h fun e ⟨m, hm, he⟩ => by
    obtain rfl : n = m := by omega
    exact wh_inv I step n e he
theorem lc_pure {tg : List Nat} {t : En → (Bool → En → Prop) → Prop} {f : En → (D → En → Prop) → Prop} {en : En} {Q : D → En → Prop} (gd : D → Option D) : ∀ {ds acc : List D}, (∀ d ∈ ds, ∀ (Kn : En → Prop) (Ky : D → En → Prop), (gd d = none → Kn en) → (∀ y, gd d = some y → Ky y en) → bindW tg d en fun e1 => t e1 fun b e2 => if b = true then f e2 (fun y e3 => Ky y (offs e3 tg)) else Kn (offs e2 tg)) →
    acc.length + ds.length ≤ 16777216 → Q (.lst true (acc ++ ds.filterMap gd)) en → lcW tg tg t f ds en acc Q
  | [], acc, _, _, hq => by
    rw [List.filterMap_nil, List.append_nil] at hq
    exact hq
  | d :: ds, acc, h, hl, hq => by
    rw [List.length_cons] at hl
    rw [lcW]
    refine h d List.mem_cons_self (fun e => lcW tg tg t f ds e acc Q) (fun y e => acc.length < 16777216 ∧ lcW tg tg t f ds e (acc ++ [y]) Q) (fun hn => ?_) fun y hy => ⟨by omega, ?_⟩
    · refine lc_pure gd (fun d' hd' => h d' (List.mem_cons_of_mem _ hd')) (by omega) ?_
      rw [List.filterMap_cons_none hn] at hq
      exact hq
    · refine lc_pure gd (fun d' hd' => h d' (List.mem_cons_of_mem _ hd')) (by rw [List.length_append, List.length_singleton]; omega) ?_
      rw [List.filterMap_cons_some hy] at hq
      rw [List.append_assoc]
      exact hq
theorem atI_nat {α : Type} {xs : List α} {i : Nat} (h : i < xs.length) : atI xs (i : Int) = some xs[i] := by
  unfold atI ixN
  rw [if_pos (by omega), if_pos (by omega)]
  show xs[((i : Int)).toNat]? = _
  rw [Int.toNat_natCast, List.getElem?_eq_getElem h]
theorem atI_int {xs : List Int} {i : Nat} (h : i < xs.length) : atI (xs.map D.int) (i : Int) = some (.int xs[i]) := by
  rw [atI_nat (by rw [List.length_map]; exact h), List.getElem_map]
theorem atI_last {α : Type} {xs : List α} (h : xs ≠ []) : atI xs (-1) = some (xs.getLast h) := by
  have hl : 0 < xs.length := List.length_pos_iff.mpr h
  unfold atI ixN
  rw [if_neg (by omega), if_pos (by omega)]
  show xs[((-1 + (xs.length : Int))).toNat]? = _
  rw [show ((-1 + (xs.length : Int))).toNat = xs.length - 1 by omega, List.getLast_eq_getElem, List.getElem?_eq_getElem]
/-- a list (owned, or not) or a tuple of ints -/
def sq (k : Option Bool) (xs : List Int) : D := match k with
  | some o => .lst o (xs.map .int)
  | none => .tup (xs.map .int)
def fk : Option Bool → Option Bool
  | some _ => some false
  | none => none
theorem sq_some (o : Bool) (xs : List Int) : sq (some o) xs = .lst o (xs.map .int) := rfl
theorem sq_none (xs : List Int) : sq none xs = .tup (xs.map .int) := rfl
@[simp] theorem frz_sq (k : Option Bool) (xs : List Int) : frz (sq k xs) = sq (fk k) xs := by cases k <;> simp [sq, fk, frz]
@[simp] theorem itms_sq (k : Option Bool) (xs : List Int) : itms (sq k xs) = some (xs.map .int) := by cases k <;> rfl
@[simp] theorem fk_fk (k : Option Bool) : fk (fk k) = fk k := by cases k <;> rfl
@[simp] theorem fz_fk (k : Option Bool) (xs : List Int) : fz (sq (fk k) xs) = true := by cases k <;> simp [sq, fk, fz]
@[simp] theorem fz_sq_true (xs : List Int) : fz (sq (some true) xs) = false := by simp [sq, fz]
@[simp] theorem fz_sq_tup (xs : List Int) : fz (sq none xs) = true := by simp [sq, fz]
@[simp] theorem fz_sq_false (xs : List Int) : fz (sq (some false) xs) = true := by simp [sq, fz]
theorem k_cases (k : Option Bool) : k = some true ∨ ∃ k', k = fk k' := by
  rcases k with _ | _ | _
  · exact .inr ⟨none, rfl⟩
  · exact .inr ⟨some false, rfl⟩
  · exact .inl rfl
@[simp] theorem fz_tup_ints (xs : List Int) : fz (.tup (xs.map .int)) = true := by simp [fz]
@[simp] theorem fz_lst_ints (xs : List Int) : fz (.lst false (xs.map .int)) = true := by simp [fz]
@[simp] theorem fz_lst_true (xs : List D) : fz (.lst true xs) = false := by simp [fz]
theorem any_deq (xs : List Int) (a : Int) : ((xs.map D.int).any fun y => deq y (.int a)) = xs.contains a := by
  induction xs with
  | nil => rfl
  | cons x xs ih =>
    rw [List.map_cons, List.any_cons, ih, List.contains_cons, deq]
    congr 1
    exact Bool.beq_comm
@[simp] theorem any_deq2 (xs : List Int) (a : Int) : (xs.any ((fun y => deq y (D.int a)) ∘ D.int)) = decide (a ∈ xs) := by
  have h := any_deq xs a
  rw [List.any_map] at h
  rw [h, List.contains_eq_mem]
theorem filterMap_ints {α : Type} (xs : List Int) (f : Int → α) (g : D → Option α) (h : ∀ x, g (.int x) = some (f x)) : (xs.map D.int).filterMap g = xs.map f := by
  induction xs with
  | nil => rfl
  | cons x xs ih => rw [List.map_cons, List.filterMap_cons_some (h x), ih, List.map_cons]
theorem filterMap_pick (xs : List Int) (p : Int → Bool) (f : Int → Int) (g : D → Option D) (h : ∀ x, g (.int x) = if p x then some (.int (f x)) else none) : (xs.map D.int).filterMap g = ((xs.filter p).map f).map D.int := by
  induction xs with
  | nil => rfl
  | cons x xs ih =>
    cases hp : p x with
    | true => rw [List.map_cons, List.filterMap_cons_some (by rw [h, hp]; rfl), ih, List.filter_cons_of_pos hp, List.map_cons, List.map_cons]
    | false => rw [List.map_cons, List.filterMap_cons_none (by rw [h, hp]; rfl), ih, List.filter_cons_of_neg (by rw [hp]; exact Bool.false_ne_true)]
@[simp] theorem all_flat_ints (xs : List Int) : (xs.map D.int).all Pf.flat = true := by
  rw [List.all_map]
  simp [Pf.flat]
theorem deqs_ints : ∀ (xs ys : List Int), deqs (xs.map D.int) (ys.map D.int) = decide (xs = ys)
  | [], [] => by simp [deqs]
  | [], _ :: _ => by simp [deqs]
  | _ :: _, [] => by simp [deqs]
  | x :: xs, y :: ys => by
    rw [List.map_cons, List.map_cons, deqs, deqs_ints xs ys, deq]
    by_cases h : x = y <;> simp [h]
theorem dats_ints (n : Nat) : ∀ xs : List Int, dats n (xs.map D.int) = true
  | [] => by cases n <;> rfl
  | x :: xs => by
    rw [List.map_cons, dats, dats_ints n xs]
    cases n <;> rfl
theorem sortI_perm (xs : List Int) : (sortI xs).Perm xs := List.mergeSort_perm xs _
theorem sortI_len (xs : List Int) : (sortI xs).length = xs.length := (sortI_perm xs).length_eq
theorem sortI_mem {xs : List Int} {a : Int} : a ∈ sortI xs ↔ a ∈ xs := (sortI_perm xs).mem_iff
theorem sortI_pair (xs : List Int) : (sortI xs).Pairwise (· ≤ ·) := by
  have := List.pairwise_mergeSort (le := fun (a b : Int) => decide (a ≤ b)) (fun a b c x y => decide_eq_true (Int.le_trans (of_decide_eq_true x) (of_decide_eq_true y))) (fun a b => by rw [Bool.or_eq_true, decide_eq_true_eq, decide_eq_true_eq]; exact Int.le_total a b) xs
  exact this.imp fun h => of_decide_eq_true h
theorem sortI_congr {xs ys : List Int} (h : xs.Perm ys) : sortI xs = sortI ys := (sortI_of ((sortI_perm xs).trans h) (sortI_pair xs))
theorem sortI_nodup {xs : List Int} (h : xs.Nodup) : (sortI xs).Nodup := (sortI_perm xs).nodup_iff.mpr h
end Pf

/-! Plain rules that the laws share. -/
namespace Pf
open PySem PySem.Spec PyProof.Rows L2
def whole : D → Bool
  | .int _ => true
  | _ => false
def isRow : D → Bool
  | .lst _ _ => true
  | .tup _ => true
  | _ => false
def badN (low : Int) (d : D) : Prop := isiT d = true ∧ fz d = true ∧ ∀ v, d = .int v → v < low
theorem ev_k {G : Gb} {i : Nat} {k : Option Bool} {xs : List Int} {en : En} {Q : D → En → Prop} {X : Xp} (h : (en[i]?).join = some (sq k xs)) (hq : Q (sq (fk k) xs) (en.set i (some (sq (fk k) xs)))) : ev G (.var i) en Q X := by
  rcases k_cases k with rfl | ⟨k, rfl⟩
  · rw [ev_vo h (by simp)]
    simpa using hq
  · rw [ev_vf h (by simp)]
    have e : en.set i (some (sq (fk k) xs)) = en := by
      refine List.ext_getElem? fun j => ?_
      rw [List.getElem?_set]
      split
      · next e =>
        subst e
        cases hh : en[i]? with
        | none =>
          rw [hh] at h
          cases h
        | some d =>
          rw [hh] at h
          have hi := (List.getElem?_eq_some_iff.mp hh).1
          rw [if_pos hi]
          cases d with
          | none => cases h
          | some d =>
            cases h
            rfl
      · rfl
    rw [fk_fk, e] at hq
    exact hq
def LL (o : Bool) (rows : List (List Int)) : D := .lst o (rows.map fun r => .lst false (r.map .int))
theorem fz_LL (rows : List (List Int)) : fz (LL false rows) = true := by
  unfold LL
  simp [fz]
  induction rows with
  | nil => rfl
  | cons r rows ih => simp [fzs, fz, ih]
def bodyF : S → Ss
  | .forr _ _ b => b
  | _ => .nil
def nthS : Nat → Ss → S
  | _, .nil => .pas
  | 0, .cons s _ => s
  | n + 1, .cons _ ss => nthS n ss
def dropS : Nat → Ss → Ss
  | 0, ss => ss
  | _, .nil => .nil
  | n + 1, .cons _ ss => dropS n ss
theorem rgL_nat (n : Nat) : rgL 0 (n : Int) = (List.range n).map fun i : Nat => D.int (i : Int) := by
  unfold rgL
  rw [show ((n : Int) - 0).toNat = n by omega]
  refine List.map_congr_left fun i _ => ?_
  show D.int (0 + (i : Int)) = _
  rw [Int.zero_add]
theorem frzs_LL (rows : List (List Int)) : frzs (rows.map fun r => D.lst false (r.map .int)) = rows.map fun r => D.lst false (r.map .int) := frzs_of _ (by
  have := fz_LL rows
  unfold LL at this
  simpa [fz] using this)
theorem lc_mp {α : Type} {tg : List Nat} {t : En → (Bool → En → Prop) → Prop} {f : En → (D → En → Prop) → Prop} {en : En} {Q : D → En → Prop} (dm : α → D) (pick : α → Bool) (val : α → D) : ∀ {xs : List α} {acc : List D}, (∀ a ∈ xs, ∀ (Kn : En → Prop) (Ky : D → En → Prop), (pick a = false → Kn en) → (pick a = true → Ky (val a) en) → bindW tg (dm a) en fun e1 => t e1 fun b e2 => if b = true then f e2 (fun y e3 => Ky y (offs e3 tg)) else Kn (offs e2 tg)) →
    acc.length + xs.length ≤ 16777216 → Q (.lst true (acc ++ (xs.filter pick).map val)) en → lcW tg tg t f (xs.map dm) en acc Q
  | [], acc, _, _, hq => by
    simpa [lcW] using hq
  | a :: xs, acc, h, hl, hq => by
    rw [List.length_cons] at hl
    rw [List.map_cons, lcW]
    refine h a List.mem_cons_self (fun e => lcW tg tg t f (xs.map dm) e acc Q) (fun y e => acc.length < 16777216 ∧ lcW tg tg t f (xs.map dm) e (acc ++ [y]) Q) (fun hn => ?_) fun hy => ⟨by omega, ?_⟩
    · refine lc_mp dm pick val (fun a' ha' => h a' (List.mem_cons_of_mem _ ha')) (by omega) ?_
      rwa [List.filter_cons_of_neg (by rw [hn]; exact Bool.false_ne_true)] at hq
    · refine lc_mp dm pick val (fun a' ha' => h a' (List.mem_cons_of_mem _ ha')) (by rw [List.length_append, List.length_singleton]; omega) ?_
      rw [List.filter_cons_of_pos hy, List.map_cons] at hq
      rw [List.append_assoc]
      exact hq
theorem lc_all {α : Type} {tg : List Nat} {t : En → (Bool → En → Prop) → Prop} {f : En → (D → En → Prop) → Prop} {en : En} {Q : D → En → Prop} (dm : α → D) (val : α → D) {xs : List α} (h : ∀ a ∈ xs, ∀ (Kn : En → Prop) (Ky : D → En → Prop), Ky (val a) en → bindW tg (dm a) en fun e1 => t e1 fun b e2 => if b = true then f e2 (fun y e3 => Ky y (offs e3 tg)) else Kn (offs e2 tg))
    (hl : xs.length ≤ 16777216) (hq : Q (.lst true (xs.map val)) en) : lcW tg tg t f (xs.map dm) en [] Q := by
  refine lc_mp dm (fun _ => true) val (fun a ha Kn Ky _ hy => h a ha Kn Ky (hy rfl)) (by simpa using hl) ?_
  rw [List.filter_eq_self.mpr (fun _ _ => rfl), List.nil_append]
  exact hq
theorem lc_inv {tg : List Nat} {t : En → (Bool → En → Prop) → Prop} {f : En → (D → En → Prop) → Prop} {Q : D → En → Prop} (I : List D → List D → En → Prop)
    (step : ∀ d ds acc en (Kn : En → Prop) (Ky : D → En → Prop), I (d :: ds) acc en → (∀ e, I ds acc e → Kn e) → (∀ y e, I ds (acc ++ [y]) e → Ky y e) → bindW tg d en fun e1 => t e1 fun b e2 => if b = true then f e2 (fun y e3 => Ky y (offs e3 tg)) else Kn (offs e2 tg))
    (hf : ∀ acc en, I [] acc en → Q (.lst true acc) en) : ∀ ds acc en, acc.length + ds.length ≤ 16777216 → I ds acc en → lcW tg tg t f ds en acc Q
  | [], acc, en, _, h => hf acc en h
  | d :: ds, acc, en, hl, h => by
    rw [List.length_cons] at hl
    rw [lcW]
    exact step d ds acc en (fun e => lcW tg tg t f ds e acc Q) (fun y e => acc.length < 16777216 ∧ lcW tg tg t f ds e (acc ++ [y]) Q) h (fun e he => lc_inv I step hf ds acc e (by omega) he) fun y e he => ⟨by omega, lc_inv I step hf ds (acc ++ [y]) e (by rw [List.length_append, List.length_singleton]; omega) he⟩
def rgI (n : Nat) : List Int := (List.range n).map fun i : Nat => (i : Int)
theorem rgI_len (n : Nat) : (rgI n).length = n := by simp [rgI]
theorem rgI_mem {n : Nat} {x : Int} : x ∈ rgI n ↔ 0 ≤ x ∧ x < n := by
  unfold rgI
  constructor
  · intro h
    obtain ⟨i, hi, rfl⟩ := List.mem_map.mp h
    have := List.mem_range.mp hi
    omega
  · rintro ⟨h1, h2⟩
    exact List.mem_map.mpr ⟨x.toNat, List.mem_range.mpr (by omega), by omega⟩
theorem rgI_nodup (n : Nat) : (rgI n).Nodup := List.Pairwise.map (R := fun a b : Nat => a ≠ b) _ (fun a b hab e => hab (by exact_mod_cast e)) List.nodup_range
theorem rgL_I (n : Nat) : rgL 0 (n : Int) = (rgI n).map D.int := by
  rw [rgL_nat]
  unfold rgI
  rw [List.map_map]
  rfl
def takeI (ds : List Int) (m : Int) : Int := match ds.getLast? with
  | none => 0
  | some a => a % m
theorem takeI_lt (ds : List Int) {m : Int} (hm : 0 < m) : 0 ≤ takeI ds m ∧ takeI ds m < m := by
  unfold takeI
  split
  · exact ⟨Int.le_refl 0, hm⟩
  · exact ⟨Int.emod_nonneg _ (by omega), Int.emod_lt_of_pos _ hm⟩
theorem rg_map (n : Nat) : rgL 0 (n : Int) = ((List.range n).map fun i : Nat => (i : Int)).map D.int := by
  unfold rgL
  rw [show ((n : Int) - 0).toNat = n by omega, List.map_map]
  refine List.map_congr_left fun i _ => ?_
  show D.int (0 + (i : Int)) = D.int (i : Int)
  rw [Int.zero_add]
theorem ixN_nat {n : Nat} {i : Int} (h0 : 0 ≤ i) (h1 : i < n) : ixN n i = some i.toNat := by
  unfold ixN
  rw [if_pos h0, if_pos h1]
theorem ev_fv {G : Gb} {i : Nat} {d : D} {en : En} {Q : D → En → Prop} {X : Xp} (h : (en[i]?).join = some d) (hq : Q (frz d) (en.set i (some (frz d)))) : ev G (.fv i) en Q X := by
  rw [ev, h]
  dsimp only
  split
  · next hz =>
    rw [frz_of _ hz] at hq
    have e : en.set i (some d) = en := by
      refine List.ext_getElem? fun j => ?_
      rw [List.getElem?_set]
      split
      · next e =>
        subst e
        cases hh : en[i]? with
        | none => rw [hh] at h; cases h
        | some d' =>
          rw [hh] at h
          rw [if_pos (List.getElem?_eq_some_iff.mp hh).1]
          cases d' with
          | none => cases h
          | some d' => cases h; rfl
      · rfl
    rwa [e] at hq
  · exact hq
theorem putA_v {en : En} {d : D} {rs : List R} {us : List (Option D)} : putA en (.v d :: rs) us = putA en rs us.tail := by
  cases us with
  | nil => cases rs with
    | nil => simp [putA]
    | cons r rs => cases r <;> simp [putA]
  | cons u us => simp [putA]
theorem ev_call_fv {G : Gb} {f : String} {F : FSp} {i : Nat} {d : D} {en : En} {Q : D → En → Prop} {X : Xp} (hF : G.fns f = some F) (h : (en[i]?).join = some d) (hq : F [frz d] (fun r _ => Q r (en.set i (some (frz d)))) fun c fs _ => X c fs (en.set i (some (frz d)))) : ev G (.call f (.cons (.fv i) .nil)) en Q X := by
  rw [ev, evr]
  unfold asR
  refine ev_fv h ?_
  dsimp only
  rw [evr, hF, callW_some (ds := [frz d]) (en2 := en.set i (some (frz d))) rfl]
  have e : ∀ us : List (Option D), putA (en.set i (some (frz d))) [R.v (frz d)] us = en.set i (some (frz d)) := fun us => by
    rw [putA_v]
    unfold putA
    rfl
  simp only [e]
  exact hq
theorem run_iff {G : Gb} {c : E} {a b : Ss} {en : En} {P : Pt} : run G (.iff c a b) en P = ev G c en (fun d e1 => ∃ t, d = .bl t ∧ if t = true then runs G a e1 P else runs G b e1 P) P.ex := by rw [run]
theorem run_expr {G : Gb} {e : E} {en : En} {P : Pt} : run G (.expr e) en P = ev G e en (fun _ e1 => P.nx e1) P.ex := by rw [run]
theorem ev_nt {G : Gb} {a : E} {en : En} {Q : D → En → Prop} {X : Xp} : ev G (.nt a) en Q X = ev G a en (fun x e1 => ∃ b, x = .bl b ∧ Q (.bl (!b)) e1) X := by rw [ev]
theorem ev_bop1 {G : Gb} {c : Bool} {a : E} {en : En} {Q : D → En → Prop} {X : Xp} : ev G (.bop c (.cons a .nil)) en Q X = ev G a en Q X := by rw [ev, evB]
theorem ev_bopc {G : Gb} {c : Bool} {a b : E} {es : Es} {en : En} {Q : D → En → Prop} {X : Xp} : ev G (.bop c (.cons a (.cons b es))) en Q X = ev G a en (fun x e1 => ∃ t, x = .bl t ∧ if t = c then ev G (.bop c (.cons b es)) e1 Q X else Q (.bl (!c)) e1) X := by
  rw [ev, evB]
  · simp only [ev]
  · intro h
    cases h
theorem ev_call {G : Gb} {f : String} {es : Es} {en : En} {Q : D → En → Prop} {X : Xp} : ev G (.call f es) en Q X = evr G es en (fun rs e1 => callW (G.fns f) rs e1 Q X) X := by rw [ev]
theorem evr_c {G : Gb} {a : E} {es : Es} {en : En} {Q : List R → En → Prop} {X : Xp} : evr G (.cons a es) en Q X = asR a (ev G a) en (fun d e1 => evr G es e1 (fun ds e2 => Q (d :: ds) e2) X) X := by rw [evr]
theorem evr_0 {G : Gb} {en : En} {Q : List R → En → Prop} {X : Xp} : evr G .nil en Q X = Q [] en := by rw [evr]
theorem ev_bin {G : Gb} {op : Operator} {a b : E} {en : En} {Q : D → En → Prop} {X : Xp} : ev G (.bin op a b) en Q X = asR a (ev G a) en (fun r1 e1 => asR b (ev G b) e1 (fun r2 e2 => match rv e2 r1, rv e2 r2 with
    | some x, some y => bopW op x y fun d => Q d e2
    | _, _ => False) X) X := by rw [ev] <;> rfl
theorem ev_cmp {G : Gb} {op : CmpOp} {a b : E} {en : En} {Q : D → En → Prop} {X : Xp} : ev G (.cmp op a b) en Q X = asR a (ev G a) en (fun r1 e1 => asR b (ev G b) e1 (fun r2 e2 => match rv e2 r1, rv e2 r2 with
    | some x, some y => cmpW op x y fun d => Q d e2
    | _, _ => False) X) X := by rw [ev] <;> rfl
theorem ev_idx {G : Gb} {a b : E} {en : En} {Q : D → En → Prop} {X : Xp} : ev G (.idx a b) en Q X = asR a (ev G a) en (fun r1 e1 => ev G b e1 (fun y e2 => match rv e2 r1 with
    | some x => ixW x y fun d => (isS r1 = true → fz d = true) ∧ Q d e2
    | none => False) X) X := by rw [ev] <;> rfl
theorem ev_slc {G : Gb} {a : E} {lo hi : Ox} {en : En} {Q : D → En → Prop} {X : Xp} : ev G (.slc a lo hi) en Q X = asR a (ev G a) en (fun r1 e1 => evO G lo e1 (fun l e2 => evO G hi e2 (fun h e3 => match rv e3 r1 with
    | some x => slW l h x fun d => Q d e3
    | none => False) X) X) X := by rw [ev] <;> rfl
theorem ev_blt {G : Gb} {f : Bf} {es : Es} {en : En} {Q : D → En → Prop} {X : Xp} : ev G (.blt f es) en Q X = evr G es en (fun rs e1 => match rvs e1 rs with
    | some ds => bltW f ds fun d => Q d e1
    | none => False) X := by rw [ev] <;> rfl
theorem ev_tup {G : Gb} {es : Es} {en : En} {Q : D → En → Prop} {X : Xp} : ev G (.tup es) en Q X = evs G es en (fun ds e1 => Q (.tup ds) e1) X := by rw [ev]
theorem ev_lst {G : Gb} {es : Es} {en : En} {Q : D → En → Prop} {X : Xp} : ev G (.lst es) en Q X = evs G es en (fun ds e1 => Q (.lst true ds) e1) X := by rw [ev]
theorem evs_c {G : Gb} {a : E} {es : Es} {en : En} {Q : List D → En → Prop} {X : Xp} : evs G (.cons a es) en Q X = ev G a en (fun d e1 => evs G es e1 (fun ds e2 => Q (d :: ds) e2) X) X := by rw [evs]
theorem evs_0 {G : Gb} {en : En} {Q : List D → En → Prop} {X : Xp} : evs G .nil en Q X = Q [] en := by rw [evs]
theorem ev_mut {G : Gb} {m : Mm} {i : Nat} {es : Es} {en : En} {Q : D → En → Prop} {X : Xp} : ev G (.mut m i es) en Q X = ((∃ ws, (en[i]?).join = some (.lst true ws)) ∧ evs G es en (fun ds e1 => match (e1[i]?).join with
    | some (.lst true xs) => mutW m xs ds fun ys d => Q d (e1.set i (some (.lst true ys)))
    | _ => False) X) := by rw [ev] <;> rfl
theorem ev_int {G : Gb} {n : Int} {en : En} {Q : D → En → Prop} {X : Xp} : ev G (.int n) en Q X = Q (.int n) en := by rw [ev]
theorem ev_str {G : Gb} {n : String} {en : En} {Q : D → En → Prop} {X : Xp} : ev G (.str n) en Q X = Q (.str (Str.ofString n)) en := by rw [ev]
theorem ev_non {G : Gb} {en : En} {Q : D → En → Prop} {X : Xp} : ev G .non en Q X = Q .non en := by rw [ev]
theorem ev_bl {G : Gb} {b : Bool} {en : En} {Q : D → En → Prop} {X : Xp} : ev G (.bl b) en Q X = Q (.bl b) en := by rw [ev]
theorem asR_vf {i : Nat} {d : D} {f : En → (D → En → Prop) → Xp → Prop} {en : En} {Q : R → En → Prop} {X : Xp} (h : (en[i]?).join = some d) (hf : fz d = true) : asR (.var i) f en Q X = Q (.v d) en := by
  unfold asR
  dsimp only
  rw [h]
  exact if_pos hf
theorem asR_vo {i : Nat} {d : D} {f : En → (D → En → Prop) → Xp → Prop} {en : En} {Q : R → En → Prop} {X : Xp} (h : (en[i]?).join = some d) (hf : fz d = false) : asR (.var i) f en Q X = Q (.s i) en := by
  unfold asR
  dsimp only
  rw [h]
  exact if_neg (by rw [hf]; exact Bool.false_ne_true)
theorem ixW_of {S d : D} {xs : List D} {i : Int} {k : D → Prop} (hI : itms S = some xs) (ha : atI xs i = some d) (hk : k d) : ixW S (.int i) k := by
  unfold ixW
  rw [hI]
  exact ⟨d, ha, hk⟩
def noVar : E → Bool
  | .var _ => false
  | _ => true
theorem asR_n {e : E} (h : noVar e = true) {f : En → (D → En → Prop) → Xp → Prop} {en : En} {Q : R → En → Prop} {X : Xp} : asR e f en Q X = f en (fun d e => Q (.v d) e) X := by
  cases e <;> first | rfl | cases h
theorem run_ret {G : Gb} {e : E} {en : En} {P : Pt} (h : noVar e = true) : run G (.ret e) en P = ev G e en P.rt P.ex := by
  cases e <;> first | (rw [run]; done) | (rw [run]; intro i h; cases h) | cases h
theorem asR_lst {es : Es} {f : En → (D → En → Prop) → Xp → Prop} {en : En} {Q : R → En → Prop} {X : Xp} : asR (.lst es) f en Q X = f en (fun d e => Q (.v d) e) X := rfl
/-- a field of what is told -/
theorem ev_fld {G : Gb} {i : Nat} {f : String} {en : En} {c : Str} {ns : List Str} {fs : List D} {d : D} {Q : D → En → Prop} {X : Xp} (h : (en[i]?).join = some (.ins false c ns fs)) (hf : fzs fs = true) (hg : G.fok c (Str.ofString f) = true) (hd : (ns.zip fs).lookup (Str.ofString f) = some d) (hq : Q d en) : ev G (.fld (.var i) f) en Q X := by
  have hz : fz (.ins false c ns fs) = true := by rw [fz, hf]; rfl
  rw [ev]
  unfold asR
  dsimp only
  rw [h]
  dsimp only
  rw [if_pos hz]
  exact ⟨hg, d, hd, fun h => (by cases h), hq⟩
end Pf

/-! Evaluation told as a relation. -/
namespace Pf
open PySem PySem.Spec PyProof.Rows L2
theorem runs_k {G : Gb} {s : S} {ss : Ss} {en : En} {P : Pt} : runs G (.cons s ss) en P = run G s en { P with nx := fun e1 => runs G ss e1 P } := by
  cases ss with
  | nil =>
    rw [runs_1]
    have e : (fun e1 => runs G .nil e1 P) = P.nx := funext fun e => runs_0
    rw [e]
  | cons s2 ss => rw [runs_c]
theorem rgL_0 (n : Nat) : rgL 0 (n : Int) = (List.range' 0 n).map fun i : Nat => D.int (i : Int) := by
  rw [rgL_nat, List.range_eq_range']
theorem rgL_nn (a b : Nat) : rgL (a : Int) (b : Int) = (List.range' a (b - a)).map fun i : Nat => D.int (i : Int) := by
  unfold rgL
  rw [show ((b : Int) - (a : Int)).toNat = b - a by omega, List.range'_eq_map_range, List.map_map]
  refine List.map_congr_left fun i _ => ?_
  simp
theorem ev_fvf {G : Gb} {i : Nat} {d : D} {en : En} {Q : D → En → Prop} {X : Xp} (h : (en[i]?).join = some d) (hf : fz d = true) : ev G (.fv i) en Q X = Q d en := by
  rw [ev, h]
  exact if_pos hf
theorem asR_fv {i : Nat} {f : En → (D → En → Prop) → Xp → Prop} {en : En} {Q : R → En → Prop} {X : Xp} : asR (.fv i) f en Q X = f en (fun d e => Q (.v d) e) X := rfl
theorem lenW_of {S : D} {xs : List D} {k : D → Prop} (hI : itms S = some xs) : lenW S k = k (.int xs.length) := by
  cases S with
  | tup ys => cases hI; rfl
  | lst o ys => cases hI; rfl
  | _ => cases hI
theorem frz_li {o : Bool} (xs : List Int) : frz (.lst o (xs.map .int)) = .lst false (xs.map .int) := by rw [frz, frzs_of _ (by simp)]
theorem ev_new {G : Gb} {c : String} {es : Es} {en : En} {Q : D → En → Prop} {X : Xp} : ev G (.new c es) en Q X = ((G.mth c "__init__").isSome = true ∧ evr G es en (fun rs e1 => match G.mth c "__init__", takeA e1 rs with
    | some F, some (ds, en2) => F (.ins true (Str.ofString c) [] [] :: ds) (fun r us => r = .non ∧ ∃ d, us.head?.join = some d ∧ Q d (putA en2 rs us.tail)) (fun cn fs us => X cn fs (putA en2 rs us.tail))
    | _, _ => False) X) := by rw [ev] <;> rfl
theorem ev_newv {G : Gb} {i : Nat} {c : String} {es : Es} {en : En} {Q : D → En → Prop} {X : Xp} : ev G (.newv i c es) en Q X = (((en[i]?).join = some (.cls (Str.ofString c)) ∧ (G.mth c "__init__").isSome = true) ∧ evr G es en (fun rs e1 => match G.mth c "__init__", takeA e1 rs with
    | some F, some (ds, en2) => F (.ins true (Str.ofString c) [] [] :: ds) (fun r us => r = .non ∧ ∃ d, us.head?.join = some d ∧ Q d (putA en2 rs us.tail)) (fun cn fs us => X cn fs (putA en2 rs us.tail))
    | _, _ => False) X) := by rw [ev] <;> rfl
theorem ev_meth {G : Gb} {c m : String} {a : E} {es : Es} {en : En} {Q : D → En → Prop} {X : Xp} : ev G (.meth c m a es) en Q X = ((G.mth c m).isSome = true ∧ asR a (ev G a) en (fun r e1 => (∃ o ns fs, rv e1 r = some (.ins o (Str.ofString c) ns fs) ∧ ns.contains (Str.ofString m) = false) ∧ evr G es e1 (fun rs e2 => callW (G.mth c m) (r :: rs) e2 Q X) X) X) := by rw [ev] <;> rfl
theorem ev_cm {G : Gb} {c m : String} {es : Es} {en : En} {Q : D → En → Prop} {X : Xp} : ev G (.cm c m es) en Q X = ((G.cmt c m).isSome = true ∧ evr G es en (fun rs e1 => callW (G.cmt c m) (.v (.cls (Str.ofString c)) :: rs) e1 Q X) X) := by rw [ev] <;> rfl
theorem ev_oeq {G : Gb} {c : String} {a b : E} {en : En} {Q : D → En → Prop} {X : Xp} : ev G (.oeq c a b) en Q X = ((G.mth c "__eq__").isSome = true ∧ asR a (ev G a) en (fun r1 e1 => asR b (ev G b) e1 (fun r2 e2 => ((∃ o ns fs, rv e2 r1 = some (.ins o (Str.ofString c) ns fs)) ∧ ∃ o ns fs, rv e2 r2 = some (.ins o (Str.ofString c) ns fs)) ∧ callW (G.mth c "__eq__") [r1, r2] e2 (fun d e3 => ∃ t, d = .bl t ∧ Q d e3) X) X) X) := by rw [ev] <;> rfl
theorem ev_isi {G : Gb} {a : E} {ts : List String} {en : En} {Q : D → En → Prop} {X : Xp} : ev G (.isi a ts) en Q X = asR a (ev G a) en (fun r e1 => match rv e1 r with
    | some x => isiT x = true ∧ Q (.bl (ts.any (isiB x))) e1
    | none => False) X := by rw [ev] <;> rfl
theorem ev_isc {G : Gb} {a : E} {c : String} {en : En} {Q : D → En → Prop} {X : Xp} : ev G (.isc a c) en Q X = (G.isc (Str.ofString c) = true ∧ asR a (ev G a) en (fun r e1 => match rv e1 r with
    | some (.ins _ c' _ _) => G.isc c' = true ∧ Q (.bl (c' == Str.ofString c)) e1
    | some x => isiT x = true ∧ Q (.bl false) e1
    | none => False) X) := by rw [ev] <;> rfl
theorem ev_cnt {G : Gb} {a b : E} {en : En} {Q : D → En → Prop} {X : Xp} : ev G (.cnt a b) en Q X = asR a (ev G a) en (fun r1 e1 => (∃ x, rv e1 r1 = some x ∧ isLst x = true) ∧ ev G b e1 (fun y e2 => match rv e2 r1, y with
    | some x, .int n => isLst x = true ∧ ∃ ns : List Int, itms x = some (ns.map .int) ∧ Q (.int (ns.count n : Nat)) e2
    | _, _ => False) X) X := by rw [ev] <;> rfl
theorem ev_lc2 {G : Gb} {tg : List Nat} {src : Src} {cs : Es} {tg1 : List Nat} {src1 : Src} {cs1 : Es} {elt : E} {en : En} {Q : D → En → Prop} {X : Xp} : ev G (.lc2 tg src cs tg1 src1 cs1 elt) en Q X = evSrc G src en (fun ds e1 => lc2W tg (tg ++ tg1) (fun e2 K => evTs G cs e2 K X) (fun e2 K => evSrc G src1 e2 K (fun _ _ _ => False)) tg1 (fun e2 K => evTs G cs1 e2 K X) (fun e2 K => ev G elt e2 K (fun _ _ _ => False)) ds (offs e1 (tg ++ tg1)) [] Q) X := by rw [ev]
theorem ev_neg {G : Gb} {a : E} {en : En} {Q : D → En → Prop} {X : Xp} : ev G (.neg a) en Q X = ev G a en (fun x e1 => negW x fun d => Q d e1) X := by rw [ev]
theorem ev_fld2 {G : Gb} {a : E} {f : String} {en : En} {Q : D → En → Prop} {X : Xp} : ev G (.fld a f) en Q X = asR a (ev G a) en (fun r e1 => match rv e1 r with
    | some (.ins _ c ns fs) => G.fok c (Str.ofString f) = true ∧ ∃ d, (ns.zip fs).lookup (Str.ofString f) = some d ∧ (isS r = true → fz d = true) ∧ Q d e1
    | _ => False) X := by rw [ev] <;> rfl
/-- e told: its value d, the names before and behind -/
structure As (G : Gb) (e : E) (d : D) (en en1 : En) : Prop where
  r : ∀ (Q : R → En → Prop) (X : Xp), Q (.v d) en1 → asR e (ev G e) en Q X
  e : ∀ (Q : D → En → Prop) (X : Xp), Q d en1 → ev G e en Q X
/-- .. of arguments in flight, of a display's items, of a source -/
def Asr (G : Gb) (es : Es) (rs : List R) (en en1 : En) : Prop := ∀ (Q : List R → En → Prop) (X : Xp), Q rs en1 → evr G es en Q X
def Asv (G : Gb) (es : Es) (ds : List D) (en en1 : En) : Prop := ∀ (Q : List D → En → Prop) (X : Xp), Q ds en1 → evs G es en Q X
def Ass (G : Gb) (s : Src) (ds : List D) (en en1 : En) : Prop := ∀ (Q : List D → En → Prop) (X : Xp), Q ds en1 → evSrc G s en Q X
section
variable {G : Gb} {en en1 en2 en3 : En}
theorem As.of {e : E} {d : D} (hn : noVar e = true) (h : ∀ (Q : D → En → Prop) (X : Xp), Q d en1 → ev G e en Q X) : As G e d en en1 := ⟨fun Q X hq => by rw [asR_n hn]; exact h _ _ hq, h⟩
theorem as_cast {e : E} {x y : Int} (h : As G e (.int x) en en1) (hxy : x = y) : As G e (.int y) en en1 := hxy ▸ h
theorem as_castb {e : E} {x y : Bool} (h : As G e (.bl x) en en1) (hxy : x = y) : As G e (.bl y) en en1 := hxy ▸ h
theorem as_i {n : Int} : As G (.int n) (.int n) en en := .of rfl fun Q X h => by rw [ev_int]; exact h
theorem as_s {x : String} : As G (.str x) (.str (Str.ofString x)) en en := .of rfl fun Q X h => by rw [ev_str]; exact h
theorem as_n : As G .non .non en en := .of rfl fun Q X h => by rw [ev_non]; exact h
theorem as_b {b : Bool} : As G (.bl b) (.bl b) en en := .of rfl fun Q X h => by rw [ev_bl]; exact h
theorem as_v {i : Nat} {d : D} (h : (en[i]?).join = some d) (hf : fz d = true) : As G (.var i) d en en := ⟨fun Q X hq => by rw [asR_vf h hf]; exact hq, fun Q X hq => by rw [ev_vf h hf]; exact hq⟩
theorem as_fr {i : Nat} {d d' : D} (h : (en[i]?).join = some d) (hd : frz d = d') : As G (.fv i) d' en (en.set i (some d')) := .of rfl fun Q X hq => by
  subst hd
  exact ev_fv h hq
theorem as_ff {i : Nat} {d : D} (h : (en[i]?).join = some d) (hf : fz d = true) : As G (.fv i) d en en := .of rfl fun Q X hq => by
  rw [ev_fvf h hf]
  exact hq
theorem as_bin {op : Operator} {a b : E} {x y d : D} (ha : As G a x en en1) (hb : As G b y en1 en2) (h : ∀ k : D → Prop, k d → bopW op x y k) : As G (.bin op a b) d en en2 := .of rfl fun Q X hq => by
  rw [ev_bin]
  refine ha.r _ _ (hb.r _ _ ?_)
  exact h _ hq
theorem as_add {a b : E} {x y : Int} (ha : As G a (.int x) en en1) (hb : As G b (.int y) en1 en2) : As G (.bin .Add a b) (.int (x + y)) en en2 := as_bin ha hb fun k h => h
theorem as_sub {a b : E} {x y : Int} (ha : As G a (.int x) en en1) (hb : As G b (.int y) en1 en2) : As G (.bin .Sub a b) (.int (x - y)) en en2 := as_bin ha hb fun k h => h
theorem as_mod {a b : E} {x y : Int} (hy : 0 < y) (ha : As G a (.int x) en en1) (hb : As G b (.int y) en1 en2) : As G (.bin .Mod a b) (.int (x % y)) en en2 := as_bin ha hb fun k h => ⟨hy, h⟩
theorem as_mulR {a b : E} {x y : Int} (hy : -(2 ^ 64) < y ∧ y < 2 ^ 64) (ha : As G a (.int x) en en1) (hb : As G b (.int y) en1 en2) : As G (.bin .Mult a b) (.int (x * y)) en en2 := as_bin ha hb fun k h => ⟨.inr (.inl hy), h⟩
theorem as_mulL {a b : E} {x y : Int} (hy : -(2 ^ 64) < x ∧ x < 2 ^ 64) (ha : As G a (.int x) en en1) (hb : As G b (.int y) en1 en2) : As G (.bin .Mult a b) (.int (x * y)) en en2 := as_bin ha hb fun k h => ⟨.inl hy, h⟩
theorem as_fdiv {a b : E} {x y : Int} (hy : 0 < y) (hl : y.natAbs.log2 < 9000) (ha : As G a (.int x) en en1) (hb : As G b (.int y) en1 en2) : As G (.bin .FloorDiv a b) (.int (x / y)) en en2 := as_bin ha hb fun k h => ⟨⟨hy, hl⟩, h⟩
theorem as_cmp {op : CmpOp} {a b : E} {x y d : D} (ha : As G a x en en1) (hb : As G b y en1 en2) (h : ∀ k : D → Prop, k d → cmpW op x y k) : As G (.cmp op a b) d en en2 := .of rfl fun Q X hq => by
  rw [ev_cmp]
  refine ha.r _ _ (hb.r _ _ ?_)
  exact h _ hq
theorem as_eqI {a b : E} {x y : Int} (ha : As G a (.int x) en en1) (hb : As G b (.int y) en1 en2) : As G (.cmp .Eq a b) (.bl (decide (x = y))) en en2 := as_cmp ha hb fun k h => by
  simp only [cmpW, eqW, dat, deq, Bool.false_xor]
  exact ⟨⟨trivial, trivial⟩, h⟩
theorem as_neI {a b : E} {x y : Int} (ha : As G a (.int x) en en1) (hb : As G b (.int y) en1 en2) : As G (.cmp .NotEq a b) (.bl (!decide (x = y))) en en2 := as_cmp ha hb fun k h => by
  simp only [cmpW, eqW, dat, deq, Bool.true_xor]
  exact ⟨⟨trivial, trivial⟩, h⟩
theorem as_ltI {a b : E} {x y : Int} (ha : As G a (.int x) en en1) (hb : As G b (.int y) en1 en2) : As G (.cmp .Lt a b) (.bl (decide (x < y))) en en2 := as_cmp ha hb fun k h => h
theorem as_leI {a b : E} {x y : Int} (ha : As G a (.int x) en en1) (hb : As G b (.int y) en1 en2) : As G (.cmp .LtE a b) (.bl (decide (x ≤ y))) en en2 := as_cmp ha hb fun k h => h
theorem as_gtI {a b : E} {x y : Int} (ha : As G a (.int x) en en1) (hb : As G b (.int y) en1 en2) : As G (.cmp .Gt a b) (.bl (decide (y < x))) en en2 := as_cmp ha hb fun k h => h
theorem as_geI {a b : E} {x y : Int} (ha : As G a (.int x) en en1) (hb : As G b (.int y) en1 en2) : As G (.cmp .GtE a b) (.bl (decide (y ≤ x))) en en2 := as_cmp ha hb fun k h => h
theorem as_isnN {a : E} {x : D} (ha : As G a x en en1) : As G (.cmp .IsNot a .non) (.bl (!isNon x)) en en1 := as_cmp ha as_n fun k h => by
  show isW true x .non k
  cases x <;> simpa [isW] using h
theorem as_isN {a : E} {x : D} (ha : As G a x en en1) : As G (.cmp .Is a .non) (.bl (isNon x)) en en1 := as_cmp ha as_n fun k h => by
  show isW false x .non k
  cases x <;> simpa [isW] using h
theorem as_neg {a : E} {x : Int} (ha : As G a (.int x) en en1) : As G (.neg a) (.int (-x)) en en1 := .of rfl fun Q X hq => by
  rw [ev_neg]
  exact ha.e _ _ hq
theorem ev_ice {G : Gb} {a : E} {en : En} {Q : D → En → Prop} {X : Xp} : ev G (.ice a) en Q X = ev G a en (fun x e1 => Q (frz x) e1) X := by rw [ev]
theorem as_ice {a : E} {d d' : D} (ha : As G a d en en1) (hd : frz d = d') : As G (.ice a) d' en en1 := .of rfl fun Q X hq => by
  rw [ev_ice]
  exact ha.e _ _ (by rw [hd]; exact hq)
theorem as_nt {a : E} {b : Bool} (ha : As G a (.bl b) en en1) : As G (.nt a) (.bl (!b)) en en1 := .of rfl fun Q X hq => by
  rw [ev_nt]
  exact ha.e _ _ ⟨_, rfl, hq⟩
theorem as_bop1 {c : Bool} {a : E} {d : D} (ha : As G a d en en1) : As G (.bop c (.cons a .nil)) d en en1 := .of rfl fun Q X hq => by
  rw [ev_bop1]
  exact ha.e _ _ hq
/-- a and .., a or ..: a's answer settles it, or not -/
theorem as_bopS {c t : Bool} {a b : E} {es : Es} (hc : t = !c) (ha : As G a (.bl t) en en1) : As G (.bop c (.cons a (.cons b es))) (.bl t) en en1 := .of rfl fun Q X hq => by
  subst hc
  rw [ev_bopc]
  refine ha.e _ _ ⟨_, rfl, ?_⟩
  rw [if_neg (by cases c <;> simp)]
  exact hq
theorem as_bopN {c t : Bool} {a b : E} {es : Es} {d : D} (hc : t = c) (ha : As G a (.bl t) en en1) (hb : As G (.bop c (.cons b es)) d en1 en2) : As G (.bop c (.cons a (.cons b es))) d en en2 := .of rfl fun Q X hq => by
  rw [ev_bopc]
  refine ha.e _ _ ⟨_, rfl, ?_⟩
  rw [if_pos hc]
  exact hb.e _ _ hq
theorem as_ite {c a b : E} {t : Bool} {d : D} (hc : As G c (.bl t) en en1) (h1 : t = true → As G a d en1 en2) (h2 : t = false → As G b d en1 en2) : As G (.ite c a b) d en en2 := .of rfl fun Q X hq => by
  rw [ev]
  refine hc.e _ _ ⟨t, rfl, ?_⟩
  cases t with
  | true => exact (h1 rfl).e _ _ hq
  | false => exact (h2 rfl).e _ _ hq
theorem as_idx {a b : E} {x d : D} {xs : List D} {z : Int} (ha : As G a x en en1) (hb : As G b (.int z) en1 en2) (hI : itms x = some xs) (hz : atI xs z = some d) : As G (.idx a b) d en en2 := .of rfl fun Q X hq => by
  rw [ev_idx]
  refine ha.r _ _ (hb.e _ _ ?_)
  exact ixW_of hI hz ⟨fun h => (by cases h), hq⟩
theorem as_idxo {i : Nat} {b : E} {d : D} {xs ys : List D} {z : Int} (h : (en[i]?).join = some (.lst true xs)) (hb : As G b (.int z) en en1) (h1 : (en1[i]?).join = some (.lst true ys)) (hz : atI ys z = some d) (hf : fz d = true) : As G (.idx (.var i) b) d en en1 := .of rfl fun Q X hq => by
  rw [ev_idx, asR_vo h (by simp)]
  refine hb.e _ _ ?_
  simp only [rv, h1]
  exact ixW_of rfl hz ⟨fun _ => hf, hq⟩
theorem as_blt1 {f : Bf} {a : E} {x d : D} (ha : As G a x en en1) (h : ∀ k : D → Prop, k d → bltW f [x] k) : As G (.blt f (.cons a .nil)) d en en1 := .of rfl fun Q X hq => by
  rw [ev_blt, evr_c]
  refine ha.r _ _ ?_
  rw [evr_0]
  exact h _ hq
theorem as_blt1o {f : Bf} {i : Nat} {x d : D} (ha : (en[i]?).join = some x) (hf : fz x = false) (h : ∀ k : D → Prop, k d → bltW f [x] k) : As G (.blt f (.cons (.var i) .nil)) d en en := .of rfl fun Q X hq => by
  rw [ev_blt, evr_c, asR_vo ha hf, evr_0]
  simp only [rvs, rv, ha]
  exact h _ hq
theorem as_blt2 {f : Bf} {a b : E} {x y d : D} (ha : As G a x en en1) (hb : As G b y en1 en2) (h : ∀ k : D → Prop, k d → bltW f [x, y] k) : As G (.blt f (.cons a (.cons b .nil))) d en en2 := .of rfl fun Q X hq => by
  rw [ev_blt, evr_c]
  refine ha.r _ _ ?_
  rw [evr_c]
  refine hb.r _ _ ?_
  rw [evr_0]
  exact h _ hq
theorem as_min {a b : E} {x y : Int} (ha : As G a (.int x) en en1) (hb : As G b (.int y) en1 en2) : As G (.blt .min2 (.cons a (.cons b .nil))) (.int (if y < x then y else x)) en en2 := as_blt2 ha hb fun k h => h
theorem as_max {a b : E} {x y : Int} (ha : As G a (.int x) en en1) (hb : As G b (.int y) en1 en2) : As G (.blt .max2 (.cons a (.cons b .nil))) (.int (if y > x then y else x)) en en2 := as_blt2 ha hb fun k h => h
theorem as_int1 {a : E} {x : Int} (ha : As G a (.int x) en en1) : As G (.blt .int1 (.cons a .nil)) (.int x) en en1 := as_blt1 ha fun k h => h
theorem as_len {a : E} {x : D} {xs : List D} (ha : As G a x en en1) (hI : itms x = some xs) : As G (.blt .len (.cons a .nil)) (.int xs.length) en en1 := as_blt1 ha fun k h => by
  show lenW x k
  rw [lenW_of hI]
  exact h
theorem as_leno {i : Nat} {xs : List D} (ha : (en[i]?).join = some (.lst true xs)) : As G (.blt .len (.cons (.var i) .nil)) (.int xs.length) en en := as_blt1o ha (by simp) fun k h => h
theorem as_sum {a : E} {x : D} {ns : List Int} (ha : As G a x en en1) (hI : itms x = some (ns.map .int)) : As G (.blt .sum (.cons a .nil)) (.int ns.sum) en en1 := as_blt1 ha fun k h => ⟨ns, hI, h⟩
theorem as_sumo {i : Nat} {ns : List Int} (ha : (en[i]?).join = some (.lst true (ns.map .int))) : As G (.blt .sum (.cons (.var i) .nil)) (.int ns.sum) en en := as_blt1o ha (by simp) fun k h => ⟨ns, rfl, h⟩
theorem as_sorted {a : E} {x : D} {ns : List Int} (ha : As G a x en en1) (hI : itms x = some (ns.map .int)) : As G (.blt .sorted (.cons a .nil)) (.lst true ((sortI ns).map .int)) en en1 := as_blt1 ha fun k h => ⟨ns, hI, h⟩
theorem as_sortedo {i : Nat} {ns : List Int} (ha : (en[i]?).join = some (.lst true (ns.map .int))) : As G (.blt .sorted (.cons (.var i) .nil)) (.lst true ((sortI ns).map .int)) en en := as_blt1o ha (by simp) fun k h => ⟨ns, rfl, h⟩
theorem as_list {a : E} {x : D} {xs : List D} (ha : As G a x en en1) (hI : itms x = some xs) (hf : fzs xs = true) : As G (.blt .list1 (.cons a .nil)) (.lst true xs) en en1 := as_blt1 ha fun k h => ⟨xs, hI, hf, h⟩
theorem as_listo {i : Nat} {xs : List D} (ha : (en[i]?).join = some (.lst true xs)) (hf : fzs xs = true) : As G (.blt .list1 (.cons (.var i) .nil)) (.lst true xs) en en := as_blt1o ha (by simp) fun k h => ⟨xs, rfl, hf, h⟩
theorem as_tuple {a : E} {x : D} {xs : List D} (ha : As G a x en en1) (hI : itms x = some xs) (hf : fzs xs = true) : As G (.blt .tuple1 (.cons a .nil)) (.tup xs) en en1 := as_blt1 ha fun k h => ⟨xs, hI, hf, h⟩
theorem as_tupleo {i : Nat} {xs : List D} (ha : (en[i]?).join = some (.lst true xs)) (hf : fzs xs = true) : As G (.blt .tuple1 (.cons (.var i) .nil)) (.tup xs) en en := as_blt1o ha (by simp) fun k h => ⟨xs, rfl, hf, h⟩
theorem as_tup {es : Es} {ds : List D} (h : Asv G es ds en en1) : As G (.tup es) (.tup ds) en en1 := .of rfl fun Q X hq => by
  rw [ev_tup]
  exact h _ _ hq
theorem as_lst {es : Es} {ds : List D} (h : Asv G es ds en en1) : As G (.lst es) (.lst true ds) en en1 := .of rfl fun Q X hq => by
  rw [ev_lst]
  exact h _ _ hq
theorem asv_0 : Asv G .nil [] en en := fun Q X h => by
  rw [evs_0]
  exact h
theorem asv_c {a : E} {es : Es} {d : D} {ds : List D} (ha : As G a d en en1) (h : Asv G es ds en1 en2) : Asv G (.cons a es) (d :: ds) en en2 := fun Q X hq => by
  rw [evs_c]
  exact ha.e _ _ (h _ _ hq)
theorem asr_0 : Asr G .nil [] en en := fun Q X h => by
  rw [evr_0]
  exact h
theorem asr_c {a : E} {es : Es} {d : D} {rs : List R} (ha : As G a d en en1) (h : Asr G es rs en1 en2) : Asr G (.cons a es) (.v d :: rs) en en2 := fun Q X hq => by
  rw [evr_c]
  exact ha.r _ _ (h _ _ hq)
theorem asr_o {i : Nat} {es : Es} {d : D} {rs : List R} (ha : (en[i]?).join = some d) (hf : fz d = false) (h : Asr G es rs en en1) : Asr G (.cons (.var i) es) (.s i :: rs) en en1 := fun Q X hq => by
  rw [evr_c, asR_vo ha hf]
  exact h _ _ hq
theorem as_fld {a : E} {f : String} {o : Bool} {c : Str} {ns : List Str} {fs : List D} {d : D} (ha : As G a (.ins o c ns fs) en en1) (hg : G.fok c (Str.ofString f) = true) (hd : (ns.zip fs).lookup (Str.ofString f) = some d) : As G (.fld a f) d en en1 := .of rfl fun Q X hq => by
  rw [ev_fld2]
  refine ha.r _ _ ?_
  exact ⟨hg, d, hd, fun h => (by cases h), hq⟩
theorem as_fldo {i : Nat} {f : String} {c : Str} {ns : List Str} {fs : List D} {d : D} (ha : (en[i]?).join = some (.ins true c ns fs)) (hg : G.fok c (Str.ofString f) = true) (hd : (ns.zip fs).lookup (Str.ofString f) = some d) (hf : fz d = true) : As G (.fld (.var i) f) d en en := .of rfl fun Q X hq => by
  rw [ev_fld2, asR_vo ha (by simp [fz])]
  simp only [rv, ha]
  exact ⟨hg, d, hd, fun _ => hf, hq⟩
theorem as_isi {a : E} {ts : List String} {x : D} (ha : As G a x en en1) (hx : isiT x = true) : As G (.isi a ts) (.bl (ts.any (isiB x))) en en1 := .of rfl fun Q X hq => by
  rw [ev_isi]
  refine ha.r _ _ ?_
  exact ⟨hx, hq⟩
theorem as_isio {i : Nat} {ts : List String} {x : D} (ha : (en[i]?).join = some x) (hf : fz x = false) (hx : isiT x = true) : As G (.isi (.var i) ts) (.bl (ts.any (isiB x))) en en := .of rfl fun Q X hq => by
  rw [ev_isi, asR_vo ha hf]
  simp only [rv, ha]
  exact ⟨hx, hq⟩
theorem as_call {f : String} {F : FSp} {es : Es} {rs : List R} {ds : List D} {r : D} {us : List (Option D)} (hF : G.fns f = some F) (hr : Asr G es rs en en1) (ht : takeA en1 rs = some (ds, en2)) (hs : Ret F ds r us) (hp : putA en2 rs us = en3) : As G (.call f es) r en en3 := .of rfl fun Q X hq => by
  rw [ev_call]
  refine hr _ _ ?_
  rw [hF, callW_some ht]
  refine hs _ _ ?_
  rw [hp]
  exact hq
theorem as_cm {c m : String} {F : FSp} {es : Es} {rs : List R} {ds : List D} {r : D} {us : List (Option D)} (hF : G.cmt c m = some F) (hr : Asr G es rs en en1) (ht : takeA en1 rs = some (ds, en2)) (hs : Ret F (.cls (Str.ofString c) :: ds) r us) (hp : putA en2 rs us.tail = en3) : As G (.cm c m es) r en en3 := .of rfl fun Q X hq => by
  rw [ev_cm, hF]
  refine ⟨rfl, hr _ _ ?_⟩
  rw [callW_some (ds := .cls (Str.ofString c) :: ds) (en2 := en2) (by rw [takeA, ht]; rfl)]
  refine hs _ _ ?_
  rw [putA_v, hp]
  exact hq
/-- a == b by the own text -/
theorem as_oeq {c : String} {F : FSp} {a b : E} {o o' : Bool} {ns ns' : List Str} {fs fs' : List D} {t : Bool} {u u' : Option D} (hF : G.mth c "__eq__" = some F) (ha : As G a (.ins o (Str.ofString c) ns fs) en en1) (hb : As G b (.ins o' (Str.ofString c) ns' fs') en1 en2) (hs : Ret F [.ins o (Str.ofString c) ns fs, .ins o' (Str.ofString c) ns' fs'] (.bl t) [u, u']) : As G (.oeq c a b) (.bl t) en en2 := .of rfl fun Q X hq => by
  rw [ev_oeq, hF]
  refine ⟨rfl, ha.r _ _ (hb.r _ _ ⟨⟨⟨_, _, _, rfl⟩, _, _, _, rfl⟩, ?_⟩)⟩
  rw [callW_some (ds := [.ins o (Str.ofString c) ns fs, .ins o' (Str.ofString c) ns' fs']) (en2 := en2) rfl]
  exact hs _ _ ⟨t, rfl, hq⟩
/-- o.m(..) -/
theorem as_meth {c m : String} {F : FSp} {a : E} {es : Es} {rs : List R} {ds : List D} {o : Bool} {ns : List Str} {fs : List D} {r : D} {u : Option D} {us : List (Option D)} (hF : G.mth c m = some F) (ha : As G a (.ins o (Str.ofString c) ns fs) en en1) (hn : ns.contains (Str.ofString m) = false) (hr : Asr G es rs en1 en2) (ht : takeA en2 rs = some (ds, en3)) (hs : Ret F (.ins o (Str.ofString c) ns fs :: ds) r (u :: us)) {en4 : En} (hp : putA en3 rs us = en4) : As G (.meth c m a es) r en en4 := .of rfl fun Q X hq => by
  rw [ev_meth, hF]
  refine ⟨rfl, ha.r _ _ ⟨⟨_, _, _, rfl, hn⟩, hr _ _ ?_⟩⟩
  rw [callW_some (ds := .ins o (Str.ofString c) ns fs :: ds) (en2 := en3) (by rw [takeA, ht]; rfl)]
  refine hs _ _ ?_
  rw [putA_v, List.tail_cons, hp]
  exact hq
theorem as_dvm {a b : E} {x y : Int} (hy : 0 < y) (hl : y.natAbs.log2 < 9000) (ha : As G a (.int x) en en1) (hb : As G b (.int y) en1 en2) : As G (.blt .dvm (.cons a (.cons b .nil))) (.tup [.int (x / y), .int (x % y)]) en en2 := as_blt2 ha hb fun k h => ⟨⟨hy, hl⟩, h⟩
theorem as_new {c : String} {F : FSp} {es : Es} {rs : List R} {ds : List D} {d : D} {us : List (Option D)} (hF : G.mth c "__init__" = some F) (hr : Asr G es rs en en1) (ht : takeA en1 rs = some (ds, en2)) (hs : Ret F (.ins true (Str.ofString c) [] [] :: ds) .non (some d :: us)) (hp : putA en2 rs us = en3) : As G (.new c es) d en en3 := .of rfl fun Q X hq => by
  rw [ev_new, hF]
  refine ⟨rfl, hr _ _ ?_⟩
  rw [ht]
  refine hs _ _ ?_
  exact ⟨rfl, d, rfl, by rw [List.tail_cons, hp]; exact hq⟩
theorem as_newv {i : Nat} {c : String} {F : FSp} {es : Es} {rs : List R} {ds : List D} {d : D} {us : List (Option D)} (hi : (en[i]?).join = some (.cls (Str.ofString c))) (hF : G.mth c "__init__" = some F) (hr : Asr G es rs en en1) (ht : takeA en1 rs = some (ds, en2)) (hs : Ret F (.ins true (Str.ofString c) [] [] :: ds) .non (some d :: us)) (hp : putA en2 rs us = en3) : As G (.newv i c es) d en en3 := .of rfl fun Q X hq => by
  rw [ev_newv, hF]
  refine ⟨⟨hi, rfl⟩, hr _ _ ?_⟩
  rw [ht]
  refine hs _ _ ?_
  exact ⟨rfl, d, rfl, by rw [List.tail_cons, hp]; exact hq⟩
/-! sources -/
theorem ass_rg1 {a : E} {n : Nat} (hn : n ≤ 100000) (ha : As G a (.int n) en en1) : Ass G (.rng (.cons a .nil)) ((List.range' 0 n).map fun i : Nat => D.int (i : Int)) en en1 := fun Q X hq => by
  simp only [evSrc, evs]
  refine ha.e _ _ ?_
  refine ⟨by omega, ?_⟩
  rw [rgL_0]
  exact hq
theorem ass_rg2 {a b : E} {m n : Nat} (hm : m ≤ 100000) (hn : n ≤ 100000) (ha : As G a (.int m) en en1) (hb : As G b (.int n) en1 en2) : Ass G (.rng (.cons a (.cons b .nil))) ((List.range' m (n - m)).map fun i : Nat => D.int (i : Int)) en en2 := fun Q X hq => by
  simp only [evSrc, evs]
  refine ha.e _ _ (hb.e _ _ ?_)
  refine ⟨by omega, ?_⟩
  rw [rgL_nn]
  exact hq
theorem ass_it {a : E} {x : D} {xs : List D} (ha : As G a x en en1) (hI : itms x = some xs) (hf : fzs xs = true) : Ass G (.it a) xs en en1 := fun Q X hq => by
  rw [src_it]
  refine ha.e _ _ ⟨xs, hI, ?_⟩
  rw [frzs_of _ hf]
  exact hq
/-- for x in xs, xs a name's own list: it is not its own any more -/
theorem ass_ito {i : Nat} {x : D} {xs : List D} (ha : (en[i]?).join = some x) (hf : fz x = false) (hI : itms (frz x) = some xs) (hx : fzs xs = true) : Ass G (.it (.var i)) xs en (en.set i (some (frz x))) := fun Q X hq => by
  rw [src_it, ev_vo ha hf]
  refine ⟨xs, hI, ?_⟩
  rw [frzs_of _ hx]
  exact hq
/-! comprehensions -/
theorem as_map {α : Type} {j : Nat} {s : Src} {elt : E} {xs : List α} (dm val : α → D) (hs : Ass G s (xs.map dm) en en1) (hl : xs.length ≤ 100000)
    (h : ∀ a ∈ xs, As G elt (val a) ((en1.set j none).set j (some (dm a))) ((en1.set j none).set j (some (dm a)))) : As G (.lc [j] s .nil elt) (.lst true (xs.map val)) en (en1.set j none) := .of rfl fun Q X hq => by
  rw [ev_lc]
  refine hs _ _ ?_
  simp only [offs]
  refine lc_all dm val (fun a ha Kn Ky hy => ?_) (by omega) hq
  simp only [bindW, evTs, if_true]
  refine (h a ha).e _ _ ?_
  simp only [offs, List.set_set]
  exact hy
theorem as_filt {α : Type} {j : Nat} {s : Src} {c elt : E} {xs : List α} (dm : α → D) (pick : α → Bool) (val : α → D) (hs : Ass G s (xs.map dm) en en1) (hl : xs.length ≤ 100000)
    (hc : ∀ a ∈ xs, As G c (.bl (pick a)) ((en1.set j none).set j (some (dm a))) ((en1.set j none).set j (some (dm a))))
    (h : ∀ a ∈ xs, pick a = true → As G elt (val a) ((en1.set j none).set j (some (dm a))) ((en1.set j none).set j (some (dm a)))) : As G (.lc [j] s (.cons c .nil) elt) (.lst true ((xs.filter pick).map val)) en (en1.set j none) := .of rfl fun Q X hq => by
  rw [ev_lc]
  refine hs _ _ ?_
  simp only [offs]
  refine lc_mp dm pick val (fun a ha Kn Ky hn hy => ?_) (by simp; omega) (by rw [List.nil_append]; exact hq)
  simp only [bindW, evTs]
  refine (hc a ha).e _ _ ⟨_, rfl, ?_⟩
  cases hp : pick a with
  | true =>
    rw [if_pos rfl]
    refine (h a ha hp).e _ _ ?_
    simp only [offs, List.set_set]
    exact hy hp
  | false =>
    rw [if_neg Bool.false_ne_true]
    simp only [offs, List.set_set]
    exact hn hp
theorem lcI_all {α : Type} {j : Nat} {t : En → (Bool → En → Prop) → Prop} {f : En → (D → En → Prop) → Prop} {fin : En → List D → Prop} {en : En} (dm val : α → D) : ∀ {xs : List α} {acc : List D}, (∀ a ∈ xs, ∀ (Kn : En → Prop) (Ky : D → En → Prop), Ky (val a) en → bindW [j] (dm a) en fun e1 => t e1 fun b e2 => if b = true then f e2 (fun y e3 => Ky y (offs e3 [j])) else Kn (offs e2 [j])) →
    acc.length + xs.length ≤ 16777216 → fin en (acc ++ xs.map val) → lcI [j] t f fin (xs.map dm) en acc
  | [], acc, _, _, hq => by
    simpa [lcI] using hq
  | a :: xs, acc, h, hl, hq => by
    rw [List.length_cons] at hl
    rw [List.map_cons, lcI]
    refine h a List.mem_cons_self (fun e => lcI [j] t f fin (xs.map dm) e acc) (fun y e => acc.length < 16777216 ∧ lcI [j] t f fin (xs.map dm) e (acc ++ [y])) ⟨by omega, ?_⟩
    refine lcI_all dm val (fun a' ha' => h a' (List.mem_cons_of_mem _ ha')) (by rw [List.length_append, List.length_singleton]; omega) ?_
    rw [List.map_cons] at hq
    rw [List.append_assoc]
    exact hq
/-- [elt for i in s for j in s1] -/
theorem as_map2 {α β : Type} {i j : Nat} {s s1 : Src} {elt : E} {xs : List α} {ys : α → List β} (dm : α → D) (dn : β → D) (val : α → β → D) (hij : i ≠ j) (hs : Ass G s (xs.map dm) en en1) (hl : (xs.flatMap ys).length ≤ 100000)
    (h1 : ∀ a ∈ xs, Ass G s1 ((ys a).map dn) (((en1.set i none).set j none).set i (some (dm a))) (((en1.set i none).set j none).set i (some (dm a))))
    (h : ∀ a ∈ xs, ∀ b ∈ ys a, As G elt (val a b) ((((en1.set i none).set j none).set i (some (dm a))).set j (some (dn b))) ((((en1.set i none).set j none).set i (some (dm a))).set j (some (dn b)))) :
    As G (.lc2 [i] s .nil [j] s1 .nil elt) (.lst true (xs.flatMap fun a => (ys a).map (val a))) en ((en1.set i none).set j none) := .of rfl fun Q X hq => by
  rw [ev_lc2]
  refine hs _ _ ?_
  simp only [offs, List.cons_append, List.nil_append]
  generalize he : (en1.set i none).set j none = e0 at h1 h hq ⊢
  have hj : ∀ (d : Option D), (e0.set i d).set j none = e0.set i d := fun d => by
    rw [← he]
    refine List.ext_getElem? fun k => ?_
    simp only [List.getElem?_set, List.length_set]
    by_cases k1 : j = k
    · subst k1
      by_cases k2 : i = j
      · exact absurd k2 hij
      · simp [k2]
    · simp [k1]
  have hi : e0.set i none = e0 := by
    rw [← he]
    refine List.ext_getElem? fun k => ?_
    simp only [List.getElem?_set, List.length_set]
    by_cases k1 : i = k
    · subst k1
      by_cases k2 : j = i
      · exact absurd k2.symm hij
      · simp [k2]
    · simp [k1]
  have go : ∀ (xs : List α) (acc : List D), (∀ a ∈ xs, Ass G s1 ((ys a).map dn) (e0.set i (some (dm a))) (e0.set i (some (dm a)))) → (∀ a ∈ xs, ∀ b ∈ ys a, As G elt (val a b) ((e0.set i (some (dm a))).set j (some (dn b))) ((e0.set i (some (dm a))).set j (some (dn b)))) → acc.length + (xs.flatMap ys).length ≤ 16777216 → Q (.lst true (acc ++ xs.flatMap fun a => (ys a).map (val a))) e0 →
      lc2W [i] [i, j] (fun e2 K => evTs G .nil e2 K X) (fun e2 K => evSrc G s1 e2 K (fun _ _ _ => False)) [j] (fun e2 K => evTs G .nil e2 K X) (fun e2 K => ev G elt e2 K (fun _ _ _ => False)) (xs.map dm) e0 acc Q := by
    intro xs
    induction xs with
    | nil =>
      intro acc _ _ _ hq
      simpa [lc2W] using hq
    | cons a xs ih =>
      intro acc h1 h hl hq
      rw [List.flatMap_cons, List.length_append] at hl
      rw [List.map_cons, lc2W]
      simp only [bindW, evTs, if_true]
      refine h1 a List.mem_cons_self _ _ ?_
      simp only [offs]
      rw [hj]
      refine lcI_all dn (val a) (fun b hb Kn Ky hy => ?_) (by omega) ?_
      · simp only [bindW, evTs, if_true]
        refine (h a List.mem_cons_self b hb).e _ _ ?_
        simp only [offs, List.set_set]
        rw [hj]
        exact hy
      · simp only [offs, List.set_set]
        rw [hi, show e0.set j none = e0 by have := hj none; rw [hi] at this; exact this]
        refine ih _ (fun a' ha' => h1 a' (List.mem_cons_of_mem _ ha')) (fun a' ha' => h a' (List.mem_cons_of_mem _ ha')) (by rw [List.length_append, List.length_map]; omega) ?_
        rw [List.flatMap_cons] at hq
        rw [List.append_assoc]
        exact hq
  refine go xs [] h1 h (by simp only [List.length_nil]; omega) ?_
  rw [List.nil_append]
  exact hq
theorem as_cnt {a b : E} {x : D} {ns : List Int} {n : Int} (ha : As G a x en en1) (hb : As G b (.int n) en1 en2) (hl : isLst x = true) (hI : itms x = some (ns.map .int)) : As G (.cnt a b) (.int (ns.count n : Nat)) en en2 := .of rfl fun Q X hq => by
  rw [ev_cnt]
  refine ha.r _ _ ⟨⟨x, rfl, hl⟩, hb.e _ _ ?_⟩
  exact ⟨hl, ns, hI, hq⟩
theorem as_cnto {i : Nat} {b : E} {ns : List Int} {n : Int} (ha : (en[i]?).join = some (.lst true (ns.map .int))) (hb : As G b (.int n) en en1) (h1 : (en1[i]?).join = some (.lst true (ns.map .int))) : As G (.cnt (.var i) b) (.int (ns.count n : Nat)) en en1 := .of rfl fun Q X hq => by
  rw [ev_cnt, asR_vo ha (by simp)]
  refine ⟨⟨_, ha, rfl⟩, hb.e _ _ ?_⟩
  simp only [rv, h1]
  exact ⟨rfl, ns, rfl, hq⟩
/-! statements -/
variable {P : Pt} {ss : Ss}
theorem r_asg {i : Nat} {e : E} {d : D} (h : As G e d en en1) (k : runs G ss (en1.set i (some d)) P) : runs G (.cons (.asg i e) ss) en P := by
  rw [runs_k, run_asg]
  exact h.e _ _ k
theorem r_exp {e : E} {d : D} (h : As G e d en en1) (k : runs G ss en1 P) : runs G (.cons (.expr e) ss) en P := by
  rw [runs_k, run_expr]
  exact h.e _ _ k
theorem r_ifF {c : E} {A : Ss} (h : As G c (.bl false) en en1) (k : runs G ss en1 P) : runs G (.cons (.iff c A .nil) ss) en P := by
  rw [runs_k, run_iff]
  refine h.e _ _ ⟨_, rfl, ?_⟩
  rw [if_neg Bool.false_ne_true, runs_0]
  exact k
theorem r_ifE {c : E} {A B : Ss} (h : As G c (.bl false) en en1) (k : runs G B en1 { P with nx := fun e => runs G ss e P }) : runs G (.cons (.iff c A B) ss) en P := by
  rw [runs_k, run_iff]
  refine h.e _ _ ⟨_, rfl, ?_⟩
  rw [if_neg Bool.false_ne_true]
  exact k
theorem r_ifT {c : E} {A B : Ss} (h : As G c (.bl true) en en1) (k : runs G A en1 { P with nx := fun e => runs G ss e P }) : runs G (.cons (.iff c A B) ss) en P := by
  rw [runs_k, run_iff]
  refine h.e _ _ ⟨_, rfl, ?_⟩
  rw [if_pos rfl]
  exact k
theorem r_ret {e : E} {d : D} (hn : noVar e = true) (h : As G e d en en1) (k : P.rt d en1) : runs G (.cons (.ret e) ss) en P := by
  rw [runs_k, run_ret hn]
  exact h.e _ _ k
theorem r_retv {i : Nat} {d : D} (h : (en[i]?).join = some d) (k : P.rt d (if fz d = true then en else en.set i none)) : runs G (.cons (.ret (.var i)) ss) en P := by
  rw [runs_k, run]
  dsimp only
  rw [h]
  dsimp only
  split at k
  · next hf => rw [if_pos hf]; exact k
  · next hf => rw [if_neg hf]; exact k
theorem r_for {tg : List Nat} {s : Src} {B : Ss} {ds : List D} (h : Ass G s ds en en1) (k : frW tg (fun e2 K => runs G B e2 { P with nx := K, ct := K, bk := fun e => runs G ss e P }) (fun e => runs G ss e P) ds en1) : runs G (.cons (.forr tg s B) ss) en P := by
  rw [runs_k, run_forr]
  exact h _ _ k
theorem r_set {i : Nat} {f : String} {e : E} {d : D} {c : Str} {ns : List Str} {fs : List D} (h : As G e d en en1) (hi : (en1[i]?).join = some (.ins true c ns fs)) (hg : G.fok c (Str.ofString f) = true) (hc : ns.contains (Str.ofString f) = false) (hl : ns.length < 900) (k : runs G ss (en1.set i (some (.ins true c (ns ++ [Str.ofString f]) (fs ++ [d])))) P) : runs G (.cons (.setf i f e) ss) en P := by
  rw [runs_k, run]
  refine h.e _ _ ?_
  simp only [hi]
  exact ⟨hg, hc, hl, k⟩
theorem r_put {i : Nat} {kx e : E} {d : D} {xs ws : List D} {z : Int} {j : Nat} (h : As G e d en en1) (hw : (en1[i]?).join = some (.lst true ws)) (hk : As G kx (.int z) en1 en2) (hi : (en2[i]?).join = some (.lst true xs)) (hj : ixN xs.length z = some j) (k : runs G ss (en2.set i (some (.lst true (xs.set j d)))) P) : runs G (.cons (.put i kx e) ss) en P := by
  rw [runs_k, run]
  refine h.e _ _ ⟨⟨ws, hw⟩, hk.e _ _ ?_⟩
  simp only [hi]
  exact ⟨j, hj, k⟩
/-- xs.append(e) -/
theorem r_app {i : Nat} {e : E} {d : D} {xs ws : List D} (hw : (en[i]?).join = some (.lst true ws)) (h : As G e d en en1) (hi : (en1[i]?).join = some (.lst true xs)) (hl : xs.length < 16777216) (k : runs G ss (en1.set i (some (.lst true (xs ++ [d])))) P) : runs G (.cons (.expr (.mut .append i (.cons e .nil))) ss) en P := by
  rw [runs_k, run_expr, ev_mut]
  refine ⟨⟨ws, hw⟩, ?_⟩
  rw [evs_c]
  refine h.e _ _ ?_
  rw [evs_0]
  simp only [hi, mutW]
  exact ⟨hl, k⟩
theorem r_rais {c : String} {es : Es} {ds : List D} {ns : List Str} (h : Asv G es ds en en1) (hc : G.excs c = some ns) (hl : ns.length = ds.length) (k : P.ex c (frzs ds) en1) : runs G (.cons (.raise c es) ss) en P := by
  rw [runs_k, run]
  exact h _ _ ⟨⟨ns, hc, hl⟩, k⟩
end
end Pf

/-! Terms of the functions that many laws share (printed by gen3.py). -/
namespace Pf
open PySem PySem.Spec PyProof.Rows L2
def m_is_whole : Ss := (.cons (.ret (.bop true (.cons (.isi (.var 0) ["int"]) (.cons (.nt (.isi (.var 0) ["bool"])) .nil)))) .nil)
def m_is_row : Ss := (.cons (.ret (.isi (.var 0) ["list", "tuple"])) .nil)
def m_check_whole : Ss := (.cons (.iff (.nt (.call "is_whole" (.cons (.var 0) .nil))) (.cons (.raise "BadNumber" (.cons (.var 1) .nil)) .nil) .nil) (.cons (.iff (.bop true (.cons (.cmp .IsNot (.var 2) .non) (.cons (.cmp .Lt (.var 0) (.var 2)) .nil))) (.cons (.raise "BadNumber" (.cons (.var 1) .nil)) .nil) .nil) (.cons (.ret (.var 0)) .nil)))
def m_Line_init : Ss := (.cons (.iff (.bop false (.cons (.nt (.call "is_row" (.cons (.fv 1) .nil))) (.cons (.cmp .Eq (.blt .len (.cons (.fv 1) .nil)) (.int 0)) .nil))) (.cons (.raise "BadLine" (.cons (.neg (.int 1)) .nil)) .nil) .nil) (.cons (.forr [2] (.rng (.cons (.blt .len (.cons (.fv 1) .nil)) .nil)) (.cons (.iff (.bop false (.cons (.nt (.call "is_whole" (.cons (.idx (.fv 1) (.var 2)) .nil))) (.cons (.cmp .Lt (.idx (.fv 1) (.var 2)) (.int 0)) .nil))) (.cons (.raise "BadLine" (.cons (.var 2) .nil)) .nil) .nil) .nil)) (.cons (.iff (.cmp .Eq (.blt .sum (.cons (.fv 1) .nil)) (.int 0)) (.cons (.raise "BadLine" (.cons (.neg (.int 1)) .nil)) .nil) .nil) (.cons (.setf 0 "rooms" (.blt .tuple1 (.cons (.fv 1) .nil))) (.cons (.setf 0 "size" (.blt .len (.cons (.fv 1) .nil))) .nil)))))
def m_Line_single : Ss := (.cons (.expr (.call "check_whole" (.cons (.var 1) (.cons (.str "size") (.cons (.int 1) .nil))))) (.cons (.ret (.newv 0 "Line" (.cons (.bin .Mult (.lst (.cons (.int 1) .nil)) (.var 1)) .nil))) .nil))
def m_spot_row : Ss := (.cons (.expr (.call "check_whole" (.cons (.var 1) (.cons (.str "spot") (.cons .non .nil))))) (.cons (.asg 3 (.bin .Mod (.var 1) (.fld (.var 0) "size"))) (.cons (.iff (.bop false (.cons (.nt (.call "is_row" (.cons (.fv 2) .nil))) (.cons (.cmp .NotEq (.blt .len (.cons (.fv 2) .nil)) (.idx (.fld (.var 0) "rooms") (.var 3))) .nil))) (.cons (.raise "BadThrows" (.cons (.var 3) .nil)) .nil) .nil) (.cons (.forr [4] (.it (.fv 2)) (.cons (.iff (.bop false (.cons (.nt (.call "is_whole" (.cons (.var 4) .nil))) (.cons (.cmp .Lt (.var 4) (.int 0)) .nil))) (.cons (.raise "BadThrows" (.cons (.var 3) .nil)) .nil) .nil) .nil)) (.cons (.ret (.blt .tuple1 (.cons (.blt .sorted (.cons (.fv 2) .nil)) .nil))) .nil)))))
def m_full_rows : Ss := (.cons (.iff (.bop false (.cons (.nt (.call "is_row" (.cons (.fv 1) .nil))) (.cons (.cmp .NotEq (.blt .len (.cons (.fv 1) .nil)) (.fld (.var 0) "size")) .nil))) (.cons (.raise "BadThrows" (.cons (.neg (.int 1)) .nil)) .nil) .nil) (.cons (.ret (.blt .tuple1 (.cons (.lc [2] (.rng (.cons (.fld (.var 0) "size") .nil)) .nil (.call "spot_row" (.cons (.var 0) (.cons (.var 2) (.cons (.idx (.fv 1) (.var 2)) .nil))))) .nil))) .nil))
def m__came_counts : Ss := (.cons (.asg 2 (.lc2 [3] (.rng (.cons (.var 0) .nil)) .nil [4] (.it (.idx (.fv 1) (.var 3))) .nil (.bin .Mod (.bin .Add (.var 3) (.var 4)) (.var 0)))) (.cons (.ret (.lc [5] (.rng (.cons (.var 0) .nil)) .nil (.cnt (.var 2) (.var 5)))) .nil))
def m__wrong_residue : Ss := (.cons (.asg 2 (.call "_came_counts" (.cons (.fld (.var 0) "size") (.cons (.fv 1) .nil)))) (.cons (.forr [3] (.rng (.cons (.fld (.var 0) "size") .nil)) (.cons (.iff (.cmp .NotEq (.idx (.var 2) (.var 3)) (.idx (.fld (.var 0) "rooms") (.var 3))) (.cons (.ret (.var 3)) .nil) .nil) .nil)) (.cons (.ret .non) .nil)))
def m_Pattern_init : Ss := (.cons (.asg 3 (.call "full_rows" (.cons (.fv 1) (.cons (.fv 2) .nil)))) (.cons (.asg 4 (.call "_wrong_residue" (.cons (.fv 1) (.cons (.fv 3) .nil)))) (.cons (.iff (.cmp .IsNot (.var 4) .non) (.cons (.raise "NotPattern" (.cons (.var 4) .nil)) .nil) .nil) (.cons (.asg 5 (.lc2 [6] (.it (.fv 3)) .nil [7] (.it (.var 6)) .nil (.var 7))) (.cons (.setf 0 "line" (.fv 1)) (.cons (.setf 0 "rows" (.fv 3)) (.cons (.setf 0 "size" (.fld (.fv 1) "size")) (.cons (.setf 0 "props" (.bin .FloorDiv (.blt .sum (.cons (.var 5) .nil)) (.fld (.fv 1) "size"))) (.cons (.setf 0 "top" (.blt .maxL (.cons (.var 5) .nil))) .nil)))))))))
def m_Pattern_single : Ss := (.cons (.iff (.bop false (.cons (.nt (.call "is_row" (.cons (.fv 1) .nil))) (.cons (.cmp .Eq (.blt .len (.cons (.fv 1) .nil)) (.int 0)) .nil))) (.cons (.raise "BadThrows" (.cons (.neg (.int 1)) .nil)) .nil) .nil) (.cons (.ret (.newv 0 "Pattern" (.cons (.cm "Line" "single" (.cons (.blt .len (.cons (.fv 1) .nil)) .nil)) (.cons (.lc [2] (.it (.fv 1)) .nil (.lst (.cons (.var 2) .nil))) .nil)))) .nil))
def m__single_heights : Ss := (.cons (.forr [1] (.it (.fld (.fld (.fv 0) "line") "rooms")) (.cons (.iff (.cmp .NotEq (.var 1) (.int 1)) (.cons (.raise "NotSingle" .nil) .nil) .nil) .nil)) (.cons (.ret (.blt .tuple1 (.cons (.lc [2] (.it (.fld (.fv 0) "rows")) .nil (.idx (.var 2) (.int 0))) .nil))) .nil))
def m__law_whole : Ss := (.cons (.ret (.bop true (.cons (.isi (.var 0) ["int"]) (.cons (.nt (.isi (.var 0) ["bool"])) .nil)))) .nil)
def m__law_wholes : Ss := (.cons (.iff (.nt (.isi (.var 0) ["tuple"])) (.cons (.ret (.bl false)) .nil) .nil) (.cons (.forr [1] (.it (.var 0)) (.cons (.iff (.nt (.call "_law_whole" (.cons (.var 1) .nil))) (.cons (.ret (.bl false)) .nil) .nil) .nil)) (.cons (.ret (.bl true)) .nil)))
def m__law_take : Ss := (.cons (.iff (.cmp .Eq (.blt .len (.cons (.var 0) .nil)) (.int 0)) (.cons (.ret (.int 0)) .nil) .nil) (.cons (.ret (.bin .Mod (.blt .int1 (.cons (.mut .pop0 0 .nil) .nil)) (.var 1))) .nil))
def m__law_pattern : Ss := (.cons (.asg 3 (.blt .len (.cons (.fv 1) .nil))) (.cons (.asg 4 (.lst .nil)) (.cons (.forr [5] (.rng (.cons (.var 3) .nil)) (.cons (.forr [6] (.rng (.cons (.idx (.fv 1) (.var 5)) .nil)) (.cons (.expr (.mut .append 4 (.cons (.var 5) .nil))) .nil)) .nil)) (.cons (.asg 7 (.lst .nil)) (.cons (.forr [5] (.rng (.cons (.var 3) .nil)) (.cons (.asg 8 (.lst .nil)) (.cons (.forr [6] (.rng (.cons (.idx (.fv 1) (.var 5)) .nil)) (.cons (.asg 9 (.mut .pop1 4 (.cons (.call "_law_take" (.cons (.var 0) (.cons (.blt .len (.cons (.var 4) .nil)) .nil))) .nil))) (.cons (.asg 10 (.bin .Mod (.blt .int1 (.cons (.bin .Sub (.var 9) (.var 5)) .nil)) (.var 3))) (.cons (.expr (.mut .append 8 (.cons (.bin .Add (.var 10) (.bin .Mult (.var 3) (.call "_law_take" (.cons (.var 0) (.cons (.var 2) .nil))))) .nil))) .nil)))) (.cons (.expr (.mut .append 7 (.cons (.blt .sorted (.cons (.var 8) .nil)) .nil))) .nil)))) (.cons (.ret (.var 7)) .nil))))))
def m__law_draws : Ss := (.cons (.asg 1 (.lst .nil)) (.cons (.forr [2] (.rng (.cons (.blt .min2 (.cons (.blt .len (.cons (.var 0) .nil)) (.cons (.int 63) .nil))) .nil)) (.cons (.asg 3 (.blt .int1 (.cons (.idx (.var 0) (.var 2)) .nil))) (.cons (.asg 4 (.int 0)) (.cons (.iff (.cmp .Lt (.var 3) (.int 0)) (.cons (.asg 3 (.neg (.var 3))) (.cons (.asg 4 (.int 1)) .nil)) .nil) (.cons (.iff (.cmp .GtE (.var 3) (.bin .Pow (.int 10) (.int 18))) (.cons (.forr [5] (.rng (.cons (.int 48) .nil)) (.cons (.iff (.cmp .Gt (.var 3) (.int 0)) (.cons (.expr (.mut .append 1 (.cons (.bin .Mod (.blt .int1 (.cons (.var 3) .nil)) (.int 30)) .nil))) (.cons (.asg 3 (.bin .FloorDiv (.var 3) (.int 30))) .nil)) .nil) .nil)) .nil) (.cons (.asg 6 (.bin .Mod (.blt .int1 (.cons (.bin .Add (.bin .Add (.bin .Add (.bin .Mult (.var 3) (.int 7919)) (.bin .Mult (.var 2) (.int 104729))) (.bin .Mult (.var 4) (.int 31))) (.int 5)) .nil)) (.int 999983))) (.cons (.forr [5] (.rng (.cons (.int 6) .nil)) (.cons (.asg 6 (.bin .Mod (.blt .int1 (.cons (.bin .Add (.bin .Add (.bin .Add (.bin .Mult (.var 6) (.var 6)) (.bin .Mult (.var 5) (.int 613))) (.bin .Mult (.var 2) (.int 17))) (.int 1)) .nil)) (.int 1000003))) (.cons (.expr (.mut .append 1 (.cons (.var 6) .nil))) .nil))) .nil))) .nil))))) (.cons (.expr (.mut .reverse 1 .nil)) (.cons (.ret (.var 1)) .nil))))
end Pf

/-! The functions that many laws share: numbers, lines. -/
namespace Pf
open PySem PySem.Spec PyProof.Rows L2
structure LibG (G : Gb) : Prop where
  num : G.excs "BadNumber" = some [Str.ofString "name"]
  lin : G.excs "BadLine" = some [Str.ofString "place"]
  thr : G.excs "BadThrows" = some [Str.ofString "spot"]
  pat : G.excs "NotPattern" = some [Str.ofString "spot"]
  sin : G.excs "NotSingle" = some []
  f1 : G.fok (Str.ofString "Line") (Str.ofString "rooms") = true
  f2 : G.fok (Str.ofString "Line") (Str.ofString "size") = true
  f3 : G.fok (Str.ofString "Pattern") (Str.ofString "line") = true
  f4 : G.fok (Str.ofString "Pattern") (Str.ofString "rows") = true
  f5 : G.fok (Str.ofString "Pattern") (Str.ofString "size") = true
  f6 : G.fok (Str.ofString "Pattern") (Str.ofString "props") = true
  f7 : G.fok (Str.ofString "Pattern") (Str.ofString "top") = true
def rI (r : List Nat) : List Int := r.map fun x : Nat => (x : Int)
theorem rI_len (r : List Nat) : (rI r).length = r.length := by simp [rI]
theorem rI_at {r : List Nat} {i : Nat} (h : i < r.length) : atI ((rI r).map D.int) (i : Int) = some (.int (r[i] : Int)) := by
  rw [atI_int (by rw [rI_len]; exact h)]
  simp [rI]
theorem rI_sum (r : List Nat) : (rI r).sum = (r.sum : Int) := by
  unfold rI
  induction r with
  | nil => rfl
  | cons x r ih => rw [List.map_cons, List.sum_cons, List.sum_cons, ih]; push_cast; rfl
theorem rI_map (r : List Nat) : (rI r).map D.int = r.map fun x : Nat => D.int (x : Int) := by
  unfold rI
  rw [List.map_map]
  rfl
theorem rI_inj : ∀ {a b : List Nat}, rI a = rI b ↔ a = b
  | [], [] => by simp
  | [], _ :: _ => by simp [rI]
  | _ :: _, [] => by simp [rI]
  | x :: a, y :: b => by
    have ih := rI_inj (a := a) (b := b)
    unfold rI at ih ⊢
    rw [List.map_cons, List.map_cons, List.cons.injEq, List.cons.injEq, ih]
    constructor <;> rintro ⟨h1, h2⟩ <;> exact ⟨by omega, h2⟩
theorem rI_count (r : List Nat) (p : Nat) : (rI r).count (p : Int) = r.count p := by
  unfold rI
  induction r with
  | nil => rfl
  | cons x r ih =>
    rw [List.map_cons, List.count_cons, List.count_cons, ih]
    congr 1
    have : (((x : Int) == (p : Int)) = (x == p)) := by
      rw [Bool.eq_iff_iff, beq_iff_eq, beq_iff_eq]
      omega
    rw [this]
theorem fz_tupI (r : List Nat) : fz (.tup ((rI r).map .int)) = true := fz_tup_ints _
/-! loops that only look -/
theorem for_skip {j : Nat} {b : En → (En → Prop) → Prop} {fin : En → Prop} {en : En} : ∀ {ds : List D}, (∀ d ∈ ds, ∀ K : En → Prop, K (en.set j (some d)) → b (en.set j (some d)) K) → (∀ y, fin (en.set j y)) → ∀ y, frW [j] b fin ds (en.set j y)
  | [], _, hf, y => hf y
  | d :: ds, h, hf, y => by
    rw [frW]
    simp only [bindW, List.set_set]
    refine h d List.mem_cons_self _ ?_
    exact for_skip (fun d' hd => h d' (List.mem_cons_of_mem _ hd)) hf (some d)
theorem r_retf {G : Gb} {en : En} {P : Pt} {ss : Ss} {i : Nat} {d : D} (h : (en[i]?).join = some d) (hf : fz d = true) (k : P.rt d en) : runs G (.cons (.ret (.var i)) ss) en P := r_retv h (by rw [if_pos hf]; exact k)
/-! ### numbers -/
def SpWhole (F : FSp) : Prop := ∀ d, isiT d = true → Ret F [d] (.bl (whole d)) [some d]
def SpRow (F : FSp) : Prop := ∀ d, isiT d = true → Ret F [d] (.bl (isRow d)) [some d]
theorem L_is_whole {G : Gb} : SpWhole (semF G 1 1 [0] m_is_whole) := by
  intro d hT q x h
  unfold semF m_is_whole
  refine ⟨rfl, ?_⟩
  cases d <;> simp [runs, run, ev, evs, evr, evB, evTs, evO, evSrc, asR, rv, rvs, isS, bindW, setN, offs, takeA, putA, callW, bopW, cmpW, addW, subW, mulW, fdivW, modW, powW, intW, eqW, inW, isW, isNon, negW, ixW, slW, lenW, bltW, intsW, isLst, itms, isiT, isiB, mutW, fz, frz, fzs, frzs, fzs_append, dat, dats, deq, deqs, Pf.flat, back, hnd, uv, uvs, offO, sq_none, sortI_len, whole] at hT h ⊢ <;> first | exact h | (split <;> exact h)
theorem L_law_whole {G : Gb} : SpWhole (semF G 1 1 [0] m__law_whole) := by
  intro d hT q x h
  unfold semF m__law_whole
  refine ⟨rfl, ?_⟩
  cases d <;> simp [runs, run, ev, evs, evr, evB, evTs, evO, evSrc, asR, rv, rvs, isS, bindW, setN, offs, takeA, putA, callW, bopW, cmpW, addW, subW, mulW, fdivW, modW, powW, intW, eqW, inW, isW, isNon, negW, ixW, slW, lenW, bltW, intsW, isLst, itms, isiT, isiB, mutW, fz, frz, fzs, frzs, fzs_append, dat, dats, deq, deqs, Pf.flat, back, hnd, uv, uvs, offO, sq_none, sortI_len, whole] at hT h ⊢ <;> first | exact h | (split <;> exact h)
theorem L_is_row {G : Gb} : SpRow (semF G 1 1 [0] m_is_row) := by
  intro d hT q x h
  unfold semF m_is_row
  refine ⟨rfl, ?_⟩
  cases d <;> simp [runs, run, ev, evs, evr, evB, evTs, evO, evSrc, asR, rv, rvs, isS, bindW, setN, offs, takeA, putA, callW, bopW, cmpW, addW, subW, mulW, fdivW, modW, powW, intW, eqW, inW, isW, isNon, negW, ixW, slW, lenW, bltW, intsW, isLst, itms, isiT, isiB, mutW, fz, frz, fzs, frzs, fzs_append, dat, dats, deq, deqs, Pf.flat, back, hnd, uv, uvs, offO, sq_none, sortI_len, isRow] at hT h ⊢ <;> first | exact h | (split <;> exact h)
structure SpCheck (F : FSp) : Prop where
  non : ∀ (v : Int) (nm : Str), Ret F [.int v, .str nm, .non] (.int v) [some (.int v), some (.str nm), some .non]
  low : ∀ (v l : Int) (nm : Str), l ≤ v → Ret F [.int v, .str nm, .int l] (.int v) [some (.int v), some (.str nm), some (.int l)]
  bad : ∀ (d l : D) (nm : Str), isiT d = true → fz d = true → whole d = false → fz l = true → Exc F [d, .str nm, l] "BadNumber" [.str nm] [some d, some (.str nm), some l]
  low_ : ∀ (v l : Int) (nm : Str), v < l → Exc F [.int v, .str nm, .int l] "BadNumber" [.str nm] [some (.int v), some (.str nm), some (.int l)]
theorem L_check {G : Gb} {F : FSp} (LG : LibG G) (h1 : G.fns "is_whole" = some F) (s1 : SpWhole F) : SpCheck (semF G 3 3 [0, 1, 2] m_check_whole) where
  non := fun v nm q x h => by
    refine ⟨rfl, ?_⟩
    refine r_ifF (as_castb (as_nt (as_call h1 (asr_c (as_v rfl rfl) asr_0) rfl (s1 _ rfl) rfl)) rfl) ?_
    refine r_ifF (as_castb (as_bopS (t := false) rfl (as_castb (as_isnN (as_v rfl rfl)) rfl)) rfl) ?_
    exact r_retf rfl rfl h
  low := fun v l nm hl q x h => by
    refine ⟨rfl, ?_⟩
    refine r_ifF (as_castb (as_nt (as_call h1 (asr_c (as_v rfl rfl) asr_0) rfl (s1 _ rfl) rfl)) rfl) ?_
    refine r_ifF (as_bopN (t := true) rfl (as_castb (as_isnN (as_v rfl rfl)) rfl) (as_bop1 (as_castb (as_ltI (as_v rfl rfl) (as_v rfl rfl)) (decide_eq_false (by omega))))) ?_
    exact r_retf rfl rfl h
  bad := fun d l nm hT hf hw hl q x h => by
    refine ⟨rfl, ?_⟩
    refine r_ifT (as_castb (as_nt (as_call h1 (asr_c (as_v rfl hf) asr_0) rfl (s1 _ hT) rfl)) (by rw [hw]; rfl)) ?_
    refine r_rais (asv_c (as_v rfl rfl) asv_0) LG.num rfl ?_
    exact h
  low_ := fun v l nm hl q x h => by
    refine ⟨rfl, ?_⟩
    refine r_ifF (as_castb (as_nt (as_call h1 (asr_c (as_v rfl rfl) asr_0) rfl (s1 _ rfl) rfl)) rfl) ?_
    refine r_ifT (as_bopN (t := true) rfl (as_castb (as_isnN (as_v rfl rfl)) rfl) (as_bop1 (as_castb (as_ltI (as_v rfl rfl) (as_v rfl rfl)) (decide_eq_true (by omega))))) ?_
    refine r_rais (asv_c (as_v rfl rfl) asv_0) LG.num rfl ?_
    exact h
/-! ### lines -/
def liN : List Str := [Str.ofString "rooms", Str.ofString "size"]
def liV (rooms : List Nat) : List D := [.tup ((rI rooms).map .int), .int rooms.length]
def liD (o : Bool) (rooms : List Nat) : D := .ins o (Str.ofString "Line") liN (liV rooms)
theorem fzs_li (rooms : List Nat) : fzs (liV rooms) = true := by simp [liV, fzs, fz]
theorem fz_li (rooms : List Nat) : fz (liD false rooms) = true := by rw [liD, fz, fzs_li]; rfl
theorem frz_line (o : Bool) (rooms : List Nat) : frz (liD o rooms) = liD false rooms := by
  rw [liD, frz, frzs_of _ (fzs_li rooms)]
  rfl
/-- a row's value -/
structure RowD (r : List Nat) (d : D) : Prop where
  row : isRow d = true
  fz : fz d = true
  it : itms d = some ((rI r).map .int)
theorem isRow_T {d : D} (h : isRow d = true) : isiT d = true := by cases d <;> simp [isRow] at h <;> rfl
def SpLine (F : FSp) : Prop := ∀ (R0 R : D) (rooms : List Nat), frz R0 = R → RowD rooms R → 0 < rooms.sum → rooms.length ≤ 1000 → Ret F [.ins true (Str.ofString "Line") [] [], R0] .non [some (liD true rooms), some R]
theorem L_Line {G : Gb} {F1 F2 : FSp} (LG : LibG G) (h1 : G.fns "is_whole" = some F1) (s1 : SpWhole F1) (h2 : G.fns "is_row" = some F2) (s2 : SpRow F2) : SpLine (semF G 3 2 [0, 1] m_Line_init) := by
  intro R0 R rooms h0 hR hs hl q x h
  have hne : 0 < rooms.length := by
    cases rooms with
    | nil => cases hs
    | cons _ _ => simp
  have eb : m_Line_init = .cons (.iff (.bop false (.cons (.nt (.call "is_row" (.cons (.fv 1) .nil))) (.cons (.cmp .Eq (.blt .len (.cons (.fv 1) .nil)) (.int 0)) .nil))) (.cons (.raise "BadLine" (.cons (.neg (.int 1)) .nil)) .nil) .nil) (.cons (.forr [2] (.rng (.cons (.blt .len (.cons (.fv 1) .nil)) .nil)) (.cons (.iff (.bop false (.cons (.nt (.call "is_whole" (.cons (.idx (.fv 1) (.var 2)) .nil))) (.cons (.cmp .Lt (.idx (.fv 1) (.var 2)) (.int 0)) .nil))) (.cons (.raise "BadLine" (.cons (.var 2) .nil)) .nil) .nil) .nil)) (.cons (.iff (.cmp .Eq (.blt .sum (.cons (.fv 1) .nil)) (.int 0)) (.cons (.raise "BadLine" (.cons (.neg (.int 1)) .nil)) .nil) .nil) (.cons (.setf 0 "rooms" (.blt .tuple1 (.cons (.fv 1) .nil))) (.cons (.setf 0 "size" (.blt .len (.cons (.fv 1) .nil))) .nil)))) := rfl
  have ff : ∀ {a b : Option D}, As G (.fv 1) R [a, some R, b] [a, some R, b] := fun {a b} => as_ff rfl hR.fz
  have hlen : ((rI rooms).map D.int).length = rooms.length := by rw [List.length_map, rI_len]
  have len : ∀ {a b : Option D}, As G (.blt .len (.cons (.fv 1) .nil)) (.int rooms.length) [a, some R, b] [a, some R, b] := fun {a b} => as_cast (as_len ff hR.it) (by rw [hlen])
  refine ⟨rfl, ?_⟩
  rw [eb]
  refine r_ifF (as_bopN (t := false) rfl (as_castb (as_nt (as_call h2 (asr_c (as_fr (d := R0) rfl h0) asr_0) rfl (s2 _ (isRow_T hR.row)) rfl)) (by rw [hR.row]; rfl)) (as_bop1 (as_castb (as_eqI len as_i) (decide_eq_false (by omega))))) ?_
  refine r_for (ass_rg1 (by omega) len) ?_
  refine for_skip (en := [some (.ins true (Str.ofString "Line") [] []), some R, none]) (j := 2) (fun d hd K hK => ?_) (fun y => ?_) none
  · obtain ⟨i, hi, rfl⟩ := List.mem_map.mp hd
    have hi' : i < rooms.length := by have := (List.mem_range'_1.mp hi).2; omega
    have ix : As G (.idx (.fv 1) (.var 2)) (.int (rooms[i] : Int)) [some (.ins true (Str.ofString "Line") [] []), some R, some (.int (i : Int))] [some (.ins true (Str.ofString "Line") [] []), some R, some (.int (i : Int))] := as_idx ff (as_v rfl rfl) hR.it (rI_at hi')
    refine r_ifF (as_bopN (t := false) rfl (as_castb (as_nt (as_call h1 (asr_c ix asr_0) rfl (s1 _ rfl) rfl)) rfl) (as_bop1 (as_castb (as_ltI ix as_i) (decide_eq_false (by omega))))) ?_
    rw [runs_0]
    exact hK
  · refine r_ifF (as_castb (as_eqI (as_sum ff hR.it) as_i) (decide_eq_false (by rw [rI_sum]; omega))) ?_
    refine r_set (as_tuple ff hR.it (by simp)) rfl LG.f1 rfl (by decide) ?_
    refine r_set len rfl LG.f2 (by decide) (by decide) ?_
    rw [runs_0]
    exact h
def SpLineS (F : FSp) : Prop := ∀ n : Nat, 1 ≤ n → n ≤ 1000 → Ret F [.cls (Str.ofString "Line"), .int n] (liD true (List.replicate n 1)) [some (.cls (Str.ofString "Line")), some (.int n)]
theorem rep_sum : ∀ n : Nat, (List.replicate n 1).sum = n
  | 0 => rfl
  | n + 1 => by rw [List.replicate_succ, List.sum_cons, rep_sum n]; omega
theorem rep_ones : ∀ n : Nat, (List.replicate n [D.int 1]).flatten = (rI (List.replicate n 1)).map D.int
  | 0 => rfl
  | n + 1 => by
    have ih := rep_ones n
    rw [List.replicate_succ, List.flatten_cons, ih, List.replicate_succ]
    rfl
theorem L_LineS {G : Gb} {F1 F2 : FSp} (h1 : G.fns "check_whole" = some F1) (s1 : SpCheck F1) (h2 : G.mth "Line" "__init__" = some F2) (s2 : SpLine F2) : SpLineS (semF G 2 2 [0, 1] m_Line_single) := by
  intro n hn hl q x h
  have eb : m_Line_single = .cons (.expr (.call "check_whole" (.cons (.var 1) (.cons (.str "size") (.cons (.int 1) .nil))))) (.cons (.ret (.newv 0 "Line" (.cons (.bin .Mult (.lst (.cons (.int 1) .nil)) (.var 1)) .nil))) .nil) := rfl
  refine ⟨rfl, ?_⟩
  rw [eb]
  refine r_exp (as_call h1 (asr_c (as_v rfl rfl) (asr_c as_s (asr_c as_i asr_0))) rfl (s1.low _ _ _ (by omega)) rfl) ?_
  refine r_ret rfl (as_newv (d := liD true (List.replicate n 1)) (us := [some (.lst false ((rI (List.replicate n 1)).map .int))]) rfl h2 (asr_c (as_bin (d := .lst true ((rI (List.replicate n 1)).map .int)) (as_lst (asv_c as_i asv_0)) (as_v rfl rfl) fun k hk => ?_) asr_0) rfl (s2 _ _ _ (by rw [frz, frzs_of _ (by simp)]) ⟨rfl, fz_lst_ints _, rfl⟩ (by rw [rep_sum]; omega) (by rw [List.length_replicate]; omega)) rfl) h
  simp only [bopW, mulW]
  refine ⟨⟨rfl, by omega, by omega, by simp; omega⟩, ?_⟩
  rw [Int.toNat_natCast, rep_ones]
  exact hk
end Pf

/-! Rows of throws, patterns. -/
namespace Pf
open PySem PySem.Spec PyProof.Rows L2
def insN (i : Nat) : List Nat → List Nat
  | [] => [i]
  | j :: m => if i ≤ j then i :: j :: m else j :: insN i m
def isrt (r : List Nat) : List Nat := r.foldr insN []
theorem insN_perm (i : Nat) : ∀ m : List Nat, (insN i m).Perm (i :: m)
  | [] => List.Perm.refl _
  | j :: m => by
    rw [insN]
    split
    · exact List.Perm.refl _
    · exact ((insN_perm i m).cons j).trans (List.Perm.swap i j m)
theorem insN_pair (i : Nat) : ∀ m : List Nat, m.Pairwise (· ≤ ·) → (insN i m).Pairwise (· ≤ ·)
  | [], _ => by simp [insN]
  | j :: m, h => by
    rw [insN]
    have h' := List.pairwise_cons.mp h
    split
    · next hij =>
      refine List.pairwise_cons.mpr ⟨fun a ha => ?_, h⟩
      rcases List.mem_cons.mp ha with rfl | ha
      · exact hij
      · exact Nat.le_trans hij (h'.1 a ha)
    · next hij =>
      refine List.pairwise_cons.mpr ⟨fun a ha => ?_, insN_pair i m h'.2⟩
      rcases List.mem_cons.mp ((insN_perm i m).mem_iff.mp ha) with rfl | ha
      · omega
      · exact h'.1 a ha
theorem isrt_perm : ∀ r : List Nat, (isrt r).Perm r
  | [] => List.Perm.refl _
  | i :: r => (insN_perm i (isrt r)).trans ((isrt_perm r).cons i)
theorem isrt_pair : ∀ r : List Nat, (isrt r).Pairwise (· ≤ ·)
  | [] => List.Pairwise.nil
  | i :: r => insN_pair i _ (isrt_pair r)
theorem sort_isrt (r : List Nat) : sortI (rI r) = rI (isrt r) := by
  refine (sortI_of ?_ ?_).symm
  · unfold rI
    exact (isrt_perm r).map _
  · unfold rI
    rw [List.pairwise_map]
    exact (isrt_pair r).imp fun h => by omega
theorem isrt_of {r : List Nat} (h : r.Pairwise (· ≤ ·)) : isrt r = r := by
  have e : rI (isrt r) = rI r := by
    rw [← sort_isrt]
    refine (sortI_of (List.Perm.refl _) ?_).symm
    unfold rI
    rw [List.pairwise_map]
    exact h.imp fun h => by omega
  exact rI_inj.mp e
theorem isrt_len (r : List Nat) : (isrt r).length = r.length := (isrt_perm r).length_eq
def rowT (r : List Nat) : D := .tup ((rI r).map .int)
def rowsT (rows : List (List Nat)) : D := .tup (rows.map rowT)
theorem fz_rowT (r : List Nat) : fz (rowT r) = true := fz_tup_ints _
theorem fzs_rowT (rows : List (List Nat)) : fzs (rows.map rowT) = true := by
  induction rows with
  | nil => rfl
  | cons r rows ih => rw [List.map_cons, fzs, ih, fz_rowT]; rfl
theorem fz_rowsT (rows : List (List Nat)) : fz (rowsT rows) = true := by rw [rowsT, fz]; exact fzs_rowT rows
theorem rowT_D (r : List Nat) : RowD r (rowT r) := ⟨rfl, fz_rowT r, rfl⟩
structure RowsD (rows : List (List Nat)) (R : D) : Prop where
  row : isRow R = true
  fz : fz R = true
  it : ∃ ds, itms R = some ds ∧ ds.length = rows.length ∧ ∀ i (h : i < rows.length), ∃ d, ds[i]? = some d ∧ RowD rows[i] d
theorem rowsT_D (rows : List (List Nat)) : RowsD rows (rowsT rows) := ⟨rfl, fz_rowsT rows, _, rfl, by simp, fun i h => ⟨rowT rows[i], by simp [h], rowT_D _⟩⟩
theorem atI_ofN {ds : List D} {i : Nat} {d : D} (h : ds[i]? = some d) : atI ds (i : Int) = some d := by
  obtain ⟨h1, h2⟩ := List.getElem?_eq_some_iff.mp h
  rw [atI_nat h1, h2]
theorem li_at {G : Gb} (LG : LibG G) {e : E} {rooms : List Nat} {en en1 : En} (h : As G e (liD false rooms) en en1) : As G (.fld e "rooms") (rowT rooms) en en1 := as_fld h LG.f1 rfl
theorem li_sz {G : Gb} (LG : LibG G) {e : E} {rooms : List Nat} {en en1 : En} (h : As G e (liD false rooms) en en1) : As G (.fld e "size") (.int rooms.length) en en1 := as_fld h LG.f2 (by rfl)
def SpSpot (F : FSp) : Prop := ∀ (rooms : List Nat) (s : Int) (i : Nat) (H0 H : D) (r : List Nat) (hi : i < rooms.length), frz H0 = H → RowD r H → s % (rooms.length : Int) = (i : Int) → r.length = rooms[i] → r.length ≤ 1000 → Ret F [liD false rooms, .int s, H0] (rowT (isrt r)) [some (liD false rooms), some (.int s), some H]
theorem L_spot {G : Gb} {F1 F2 F3 : FSp} (LG : LibG G) (h1 : G.fns "is_whole" = some F1) (s1 : SpWhole F1) (h2 : G.fns "is_row" = some F2) (s2 : SpRow F2) (h3 : G.fns "check_whole" = some F3) (s3 : SpCheck F3) : SpSpot (semF G 5 3 [0, 1, 2] m_spot_row) := by
  intro rooms s i H0 H r hi h0 hH hs hr hl q x h
  have eb : m_spot_row = .cons (.expr (.call "check_whole" (.cons (.var 1) (.cons (.str "spot") (.cons .non .nil))))) (.cons (.asg 3 (.bin .Mod (.var 1) (.fld (.var 0) "size"))) (.cons (.iff (.bop false (.cons (.nt (.call "is_row" (.cons (.fv 2) .nil))) (.cons (.cmp .NotEq (.blt .len (.cons (.fv 2) .nil)) (.idx (.fld (.var 0) "rooms") (.var 3))) .nil))) (.cons (.raise "BadThrows" (.cons (.var 3) .nil)) .nil) .nil) (.cons (.forr [4] (.it (.fv 2)) (.cons (.iff (.bop false (.cons (.nt (.call "is_whole" (.cons (.var 4) .nil))) (.cons (.cmp .Lt (.var 4) (.int 0)) .nil))) (.cons (.raise "BadThrows" (.cons (.var 3) .nil)) .nil) .nil) .nil)) (.cons (.ret (.blt .tuple1 (.cons (.blt .sorted (.cons (.fv 2) .nil)) .nil))) .nil)))) := rfl
  have hL := fz_li rooms
  have ff : ∀ {a b c d : Option D}, As G (.fv 2) H [a, b, some H, c, d] [a, b, some H, c, d] := fun {a b c d} => as_ff rfl hH.fz
  refine ⟨rfl, ?_⟩
  rw [eb]
  refine r_exp (as_call h3 (asr_c (as_v rfl rfl) (asr_c as_s (asr_c as_n asr_0))) rfl (s3.non _ _) rfl) ?_
  refine r_asg (as_cast (as_mod (by omega) (as_v rfl rfl) (li_sz LG (as_v rfl hL))) hs) ?_
  refine r_ifF (as_bopN (t := false) rfl (as_castb (as_nt (as_call h2 (asr_c (as_fr (d := H0) rfl h0) asr_0) rfl (s2 _ (isRow_T hH.row)) rfl)) (by rw [hH.row]; rfl)) (as_bop1 (as_castb (as_neI (as_len ff hH.it) (as_idx (li_at LG (as_v rfl hL)) (as_v rfl rfl) rfl (rI_at hi))) (by rw [List.length_map, rI_len, hr]; simp)))) ?_
  refine r_for (ass_it ff hH.it (by simp)) ?_
  refine for_skip (en := [some (liD false rooms), some (.int s), some H, some (.int i), none]) (j := 4) (fun d hd K hK => ?_) (fun y => ?_) none
  · rw [rI_map] at hd
    obtain ⟨k, hk, rfl⟩ := List.mem_map.mp hd
    refine r_ifF (as_bopN (t := false) rfl (as_castb (as_nt (as_call h1 (asr_c (as_v (d := .int (k : Int)) rfl rfl) asr_0) rfl (s1 _ rfl) rfl)) rfl) (as_bop1 (as_castb (as_ltI (as_v (d := .int (k : Int)) rfl rfl) as_i) (decide_eq_false (by omega))))) ?_
    rw [runs_0]
    exact hK
  · refine r_ret rfl (as_tuple (as_sorted ff hH.it) rfl (by simp)) ?_
    rw [sort_isrt]
    exact h
def SpFull (F : FSp) : Prop := ∀ (rooms : List Nat) (rows : List (List Nat)) (R0 R : D), frz R0 = R → RowsD rows R → rows.length = rooms.length → (∀ i (h : i < rooms.length), (rows.getD i []).length = rooms[i] ∧ rooms[i] ≤ 1000) → rooms.length ≤ 1000 → Ret F [liD false rooms, R0] (rowsT (rows.map isrt)) [some (liD false rooms), some R]
theorem map_getD {α β : Type} (f : α → β) (z : α) (L : List α) : ((List.range' 0 L.length).map fun i => f (L.getD i z)) = L.map f := by
  refine List.ext_getElem (by simp) fun i h1 h2 => ?_
  have hi : i < L.length := by simpa using h2
  simp [List.getD_eq_getElem?_getD, hi]
theorem L_full {G : Gb} {F1 F2 : FSp} (LG : LibG G) (h1 : G.fns "is_row" = some F1) (s1 : SpRow F1) (h2 : G.fns "spot_row" = some F2) (s2 : SpSpot F2) : SpFull (semF G 3 2 [0, 1] m_full_rows) := by
  intro rooms rows R0 R h0 hR hl hr hz q x h
  obtain ⟨ds, hI, hd1, hd2⟩ := hR.it
  have eb : m_full_rows = .cons (.iff (.bop false (.cons (.nt (.call "is_row" (.cons (.fv 1) .nil))) (.cons (.cmp .NotEq (.blt .len (.cons (.fv 1) .nil)) (.fld (.var 0) "size")) .nil))) (.cons (.raise "BadThrows" (.cons (.neg (.int 1)) .nil)) .nil) .nil) (.cons (.ret (.blt .tuple1 (.cons (.lc [2] (.rng (.cons (.fld (.var 0) "size") .nil)) .nil (.call "spot_row" (.cons (.var 0) (.cons (.var 2) (.cons (.idx (.fv 1) (.var 2)) .nil))))) .nil))) .nil) := rfl
  have hL := fz_li rooms
  have ff : ∀ {a b : Option D}, As G (.fv 1) R [a, some R, b] [a, some R, b] := fun {a b} => as_ff rfl hR.fz
  refine ⟨rfl, ?_⟩
  rw [eb]
  refine r_ifF (as_bopN (t := false) rfl (as_castb (as_nt (as_call h1 (asr_c (as_fr (d := R0) rfl h0) asr_0) rfl (s1 _ (isRow_T hR.row)) rfl)) (by rw [hR.row]; rfl)) (as_bop1 (as_castb (as_neI (as_len ff hI) (li_sz LG (as_v rfl hL))) (by rw [hd1, hl]; simp)))) ?_
  refine r_ret rfl (as_tuple (as_map (xs := List.range' 0 rooms.length) (fun i : Nat => D.int (i : Int)) (fun i : Nat => rowT (isrt (rows.getD i []))) (ass_rg1 (by omega) (li_sz LG (as_v rfl hL))) (by rw [List.length_range']; omega) fun i hi => ?_) rfl ?_) ?_
  · have hi' : i < rooms.length := by have := (List.mem_range'_1.mp hi).2; omega
    obtain ⟨d, e1, e2⟩ := hd2 i (by omega)
    have eg : rows.getD i [] = rows[i] := by rw [List.getD_eq_getElem?_getD, List.getElem?_eq_getElem (by omega), Option.getD_some]
    refine as_call h2 (asr_c (as_v (d := liD false rooms) rfl hL) (asr_c (as_v (d := .int (i : Int)) rfl rfl) (asr_c (as_idx (d := d) (as_ff rfl hR.fz) (as_v (d := .int (i : Int)) rfl rfl) hI (atI_ofN e1)) asr_0))) rfl (s2 rooms i i d d (rows.getD i []) hi' (frz_of _ e2.fz) (by rw [eg]; exact e2) (Int.emod_eq_of_lt (by omega) (by omega)) (hr i hi').1 (by have := hr i hi'; omega)) rfl
  · rw [show ((List.range' 0 rooms.length).map fun i : Nat => rowT (isrt (rows.getD i []))) = (rows.map isrt).map rowT by rw [← hl, map_getD (fun r => rowT (isrt r)), List.map_map]; rfl]
    exact fzs_rowT _
  · rw [show ((List.range' 0 rooms.length).map fun i : Nat => rowT (isrt (rows.getD i []))) = (rows.map isrt).map rowT by rw [← hl, map_getD (fun r => rowT (isrt r)), List.map_map]; rfl]
    exact h
/-! ### what comes down -/
def landL (n : Nat) (rows : List (List Nat)) : List Nat := (List.range' 0 n).flatMap fun i => (rows.getD i []).map fun h => (i + h) % n
def cntsN (n : Nat) (rows : List (List Nat)) : List Nat := (List.range' 0 n).map fun p => (landL n rows).count p
def SpCame (F : FSp) : Prop := ∀ (n : Nat) (rows : List (List Nat)), 0 < n → n ≤ 1000 → rows.length = n → (landL n rows).length ≤ 100000 → Ret F [.int n, rowsT rows] (.lst true ((rI (cntsN n rows)).map .int)) [some (.int n), some (rowsT rows)]
theorem L_came {G : Gb} : SpCame (semF G 6 2 [0, 1] m__came_counts) := by
  intro n rows hn hz hl hb q x h
  have eb : m__came_counts = .cons (.asg 2 (.lc2 [3] (.rng (.cons (.var 0) .nil)) .nil [4] (.it (.idx (.fv 1) (.var 3))) .nil (.bin .Mod (.bin .Add (.var 3) (.var 4)) (.var 0)))) (.cons (.ret (.lc [5] (.rng (.cons (.var 0) .nil)) .nil (.cnt (.var 2) (.var 5)))) .nil) := rfl
  have hR := fz_rowsT rows
  refine ⟨rfl, ?_⟩
  rw [eb]
  have e1 : (List.range' 0 n).flatMap (fun i => (rows.getD i []).map fun h : Nat => D.int (((i + h) % n : Nat) : Int)) = (rI (landL n rows)).map .int := by
    rw [rI_map]
    unfold landL
    rw [List.map_flatMap]
    congr 1
    funext i
    rw [List.map_map]
    rfl
  have key := as_map2 (G := G) (i := 3) (j := 4) (s := .rng (.cons (.var 0) .nil)) (s1 := .it (.idx (.fv 1) (.var 3))) (elt := .bin .Mod (.bin .Add (.var 3) (.var 4)) (.var 0)) (xs := List.range' 0 n) (ys := fun i => rows.getD i []) (fun i : Nat => D.int (i : Int)) (fun h : Nat => D.int (h : Int)) (fun i h : Nat => D.int (((i + h) % n : Nat) : Int)) (by decide)
    (ass_rg1 (n := n) (by omega) (as_v (en := [some (.int n), some (rowsT rows), none, none, none, none]) rfl rfl)) (by
      have : (landL n rows).length = ((List.range' 0 n).flatMap fun i => rows.getD i []).length := by
        unfold landL
        rw [List.length_flatMap, List.length_flatMap]
        simp only [List.length_map]
      omega)
    (fun i hi => by
      have hi' : i < rows.length := by have := (List.mem_range'_1.mp hi).2; omega
      have eg : rows.getD i [] = rows[i] := by rw [List.getD_eq_getElem?_getD, List.getElem?_eq_getElem hi', Option.getD_some]
      have z : Ass G (.it (.idx (.fv 1) (.var 3))) ((rI rows[i]).map .int) [some (.int n), some (rowsT rows), none, some (.int (i : Int)), none, none] [some (.int n), some (rowsT rows), none, some (.int (i : Int)), none, none] := ass_it (as_idx (d := rowT rows[i]) (as_ff rfl hR) (as_v (d := .int (i : Int)) rfl rfl) rfl (atI_ofN (by simp [hi']))) rfl (by simp)
      rw [eg, ← rI_map]
      exact z)
    (fun i hi h' hh => as_cast (as_mod (by omega) (as_add (as_v (d := .int (i : Int)) rfl rfl) (as_v (d := .int (h' : Int)) rfl rfl)) (as_v (d := .int (n : Int)) rfl rfl)) (by push_cast; rfl))
  rw [e1] at key
  refine r_asg key ?_
  refine r_ret rfl (as_map (xs := List.range' 0 n) (fun i : Nat => D.int (i : Int)) (fun p : Nat => D.int ((landL n rows).count p : Nat)) (ass_rg1 (by omega) (as_v (d := .int (n : Int)) rfl rfl)) (by rw [List.length_range']; omega) fun p hp => ?_) ?_
  · exact as_cast (as_cnto (ns := rI (landL n rows)) rfl (as_v (d := .int (p : Int)) rfl rfl) rfl) (by rw [rI_count])
  · have e2 : ((List.range' 0 n).map fun p : Nat => D.int ((landL n rows).count p : Nat)) = (rI (cntsN n rows)).map .int := by
      rw [rI_map]
      unfold cntsN
      rw [List.map_map]
      rfl
    rw [e2]
    exact h
def SpWrong (F : FSp) : Prop := ∀ (rooms : List Nat) (rows : List (List Nat)), 0 < rooms.length → rooms.length ≤ 1000 → rows.length = rooms.length → (landL rooms.length rows).length ≤ 100000 → cntsN rooms.length rows = rooms → Ret F [liD false rooms, rowsT rows] .non [some (liD false rooms), some (rowsT rows)]
theorem L_wrong {G : Gb} {F1 : FSp} (LG : LibG G) (h1 : G.fns "_came_counts" = some F1) (s1 : SpCame F1) : SpWrong (semF G 4 2 [0, 1] m__wrong_residue) := by
  intro rooms rows hn hz hl hb hc q x h
  have eb : m__wrong_residue = .cons (.asg 2 (.call "_came_counts" (.cons (.fld (.var 0) "size") (.cons (.fv 1) .nil)))) (.cons (.forr [3] (.rng (.cons (.fld (.var 0) "size") .nil)) (.cons (.iff (.cmp .NotEq (.idx (.var 2) (.var 3)) (.idx (.fld (.var 0) "rooms") (.var 3))) (.cons (.ret (.var 3)) .nil) .nil) .nil)) (.cons (.ret .non) .nil)) := rfl
  have hL := fz_li rooms
  have hR := fz_rowsT rows
  refine ⟨rfl, ?_⟩
  rw [eb]
  refine r_asg (as_call h1 (asr_c (li_sz LG (as_v rfl hL)) (asr_c (as_ff rfl hR) asr_0)) rfl (s1 _ _ hn hz hl hb) rfl) ?_
  refine r_for (ass_rg1 (by omega) (li_sz LG (as_v rfl hL))) ?_
  rw [hc]
  refine for_skip (en := [some (liD false rooms), some (rowsT rows), some (.lst true ((rI rooms).map .int)), none]) (j := 3) (fun d hd K hK => ?_) (fun y => ?_) none
  · obtain ⟨i, hi, rfl⟩ := List.mem_map.mp hd
    have hi' : i < rooms.length := by have := (List.mem_range'_1.mp hi).2; omega
    refine r_ifF (as_castb (as_neI (as_idxo (xs := (rI rooms).map .int) rfl (as_v (d := .int (i : Int)) rfl rfl) rfl (rI_at hi') rfl) (as_idx (li_at LG (as_v rfl hL)) (as_v (d := .int (i : Int)) rfl rfl) rfl (rI_at hi'))) (by simp)) ?_
    rw [runs_0]
    exact hK
  · exact r_ret rfl as_n h
end Pf

/-! Patterns. -/
namespace Pf
open PySem PySem.Spec PyProof.Rows L2
def topN (rows : List (List Nat)) : Nat := rows.flatten.foldl max 0
def propsN (rooms : List Nat) (rows : List (List Nat)) : Nat := rows.flatten.sum / rooms.length
def paN : List Str := [Str.ofString "line", Str.ofString "rows", Str.ofString "size", Str.ofString "props", Str.ofString "top"]
def paV (rooms : List Nat) (rows : List (List Nat)) : List D := [liD false rooms, rowsT rows, .int rooms.length, .int (propsN rooms rows), .int (topN rows)]
def paD (o : Bool) (rooms : List Nat) (rows : List (List Nat)) : D := .ins o (Str.ofString "Pattern") paN (paV rooms rows)
theorem fzs_pa (rooms : List Nat) (rows : List (List Nat)) : fzs (paV rooms rows) = true := by
  unfold paV
  simp only [fzs, fz_li, fz_rowsT, fz, Bool.and_self]
theorem fz_pa (rooms : List Nat) (rows : List (List Nat)) : fz (paD false rooms rows) = true := by rw [paD, fz, fzs_pa]; rfl
theorem frz_pa (o : Bool) (rooms : List Nat) (rows : List (List Nat)) : frz (paD o rooms rows) = paD false rooms rows := by
  rw [paD, frz, frzs_of _ (fzs_pa rooms rows)]
  rfl
section
variable {G : Gb} {e : E} {rooms : List Nat} {rows : List (List Nat)} {en en1 : En} {o : Bool}
theorem pa_line (LG : LibG G) (h : As G e (paD o rooms rows) en en1) : As G (.fld e "line") (liD false rooms) en en1 := as_fld h LG.f3 rfl
theorem pa_rows (LG : LibG G) (h : As G e (paD o rooms rows) en en1) : As G (.fld e "rows") (rowsT rows) en en1 := as_fld h LG.f4 (by rfl)
theorem pa_size (LG : LibG G) (h : As G e (paD o rooms rows) en en1) : As G (.fld e "size") (.int rooms.length) en en1 := as_fld h LG.f5 (by rfl)
theorem pa_props (LG : LibG G) (h : As G e (paD o rooms rows) en en1) : As G (.fld e "props") (.int (propsN rooms rows)) en en1 := as_fld h LG.f6 (by rfl)
theorem pa_top (LG : LibG G) (h : As G e (paD o rooms rows) en en1) : As G (.fld e "top") (.int (topN rows)) en en1 := as_fld h LG.f7 (by rfl)
end
/-- such rows are a pattern's -/
structure PatOk (rooms : List Nat) (rows : List (List Nat)) : Prop where
  z : rooms.length ≤ 1000
  s : 0 < rooms.sum
  b : rooms.sum ≤ 100000
  ln : rows.length = rooms.length
  rl : ∀ i (h : i < rooms.length), (rows.getD i []).length = rooms[i] ∧ rooms[i] ≤ 1000
  cn : cntsN rooms.length rows = rooms
theorem PatOk.n {rooms : List Nat} {rows : List (List Nat)} (p : PatOk rooms rows) : 0 < rooms.length := by
  have := p.s
  cases rooms with
  | nil => cases this
  | cons _ _ => simp
theorem getD_isrt (rows : List (List Nat)) (i : Nat) : (rows.map isrt).getD i [] = isrt (rows.getD i []) := by
  rw [List.getD_eq_getElem?_getD, List.getD_eq_getElem?_getD, List.getElem?_map]
  cases rows[i]? <;> rfl
theorem flatMap_perm {α β : Type} {f g : α → List β} : ∀ {L : List α}, (∀ a ∈ L, (f a).Perm (g a)) → (L.flatMap f).Perm (L.flatMap g)
  | [], _ => List.Perm.refl _
  | a :: L, h => by
    rw [List.flatMap_cons, List.flatMap_cons]
    exact (h a List.mem_cons_self).append (flatMap_perm fun b hb => h b (List.mem_cons_of_mem _ hb))
theorem land_isrt (n : Nat) (rows : List (List Nat)) : (landL n (rows.map isrt)).Perm (landL n rows) := by
  unfold landL
  refine flatMap_perm fun i _ => ?_
  rw [getD_isrt]
  exact (isrt_perm _).map _
theorem cnts_perm {n : Nat} {rows rows' : List (List Nat)} (h : (landL n rows).Perm (landL n rows')) : cntsN n rows = cntsN n rows' := by
  unfold cntsN
  exact List.map_congr_left fun p _ => h.count_eq p
theorem sum_range (f : Nat → Nat) (L : List Nat) (h : ∀ i (hi : i < L.length), f i = L[i]) : ((List.range' 0 L.length).map f).sum = L.sum := by
  have e : (List.range' 0 L.length).map f = L := by
    refine List.ext_getElem (by simp) fun i h1 h2 => ?_
    simp [h i h2]
  rw [e]
theorem land_len {rooms : List Nat} {rows : List (List Nat)} (h : ∀ i (h : i < rooms.length), (rows.getD i []).length = rooms[i]) : (landL rooms.length rows).length = rooms.sum := by
  unfold landL
  rw [List.length_flatMap]
  simp only [List.length_map]
  exact sum_range _ rooms h
theorem PatOk.isrt {rooms : List Nat} {rows : List (List Nat)} (p : PatOk rooms rows) : PatOk rooms (rows.map isrt) := by
  refine ⟨p.z, p.s, p.b, by rw [List.length_map, p.ln], fun i h => ?_, ?_⟩
  · rw [getD_isrt, isrt_len]
    exact p.rl i h
  · rw [cnts_perm (land_isrt _ _)]
    exact p.cn
theorem PatOk.len {rooms : List Nat} {rows : List (List Nat)} (p : PatOk rooms rows) : rows.flatten.length = rooms.sum := by
  rw [List.length_flatten]
  have e : rows.map List.length = rooms := by
    refine List.ext_getElem (by simp [p.ln]) fun i h1 h2 => ?_
    have := (p.rl i h2).1
    rw [List.getD_eq_getElem?_getD, List.getElem?_eq_getElem (by rw [p.ln]; exact h2), Option.getD_some] at this
    simpa using this
  rw [e]
theorem top_ok : ∀ (L : List Nat) (z : Nat), (L.foldl max z = z ∨ L.foldl max z ∈ L) ∧ z ≤ L.foldl max z ∧ ∀ y ∈ L, y ≤ L.foldl max z
  | [], z => ⟨.inl rfl, Nat.le_refl _, fun y h => by cases h⟩
  | x :: L, z => by
    obtain ⟨h1, h2, h3⟩ := top_ok L (max z x)
    rw [List.foldl_cons]
    refine ⟨?_, by omega, fun y hy => ?_⟩
    · rcases h1 with h1 | h1
      · rw [h1]
        by_cases hz : x ≤ z
        · exact .inl (Nat.max_eq_left hz)
        · exact .inr (by rw [Nat.max_eq_right (by omega)]; exact List.mem_cons_self)
      · exact .inr (List.mem_cons_of_mem _ h1)
    · rcases List.mem_cons.mp hy with rfl | hy
      · omega
      · exact h3 y hy
theorem top_mem {rows : List (List Nat)} (h : 0 < rows.flatten.length) : topN rows ∈ rows.flatten ∧ ∀ y ∈ rows.flatten, y ≤ topN rows := by
  obtain ⟨h1, h2, h3⟩ := top_ok rows.flatten 0
  refine ⟨?_, h3⟩
  rcases h1 with h1 | h1
  · obtain ⟨y, hy⟩ := List.exists_mem_of_length_pos h
    have h4 := h3 y hy
    have : y = 0 := by omega
    unfold topN
    rw [h1, ← this]
    exact hy
  · exact h1
theorem log2_lt {n : Nat} (h : n ≤ 1000) : ((n : Int)).natAbs.log2 < 9000 := by
  rw [Int.natAbs_natCast]
  have := Nat.log2_lt (n := n) (k := 10)
  rcases Nat.eq_zero_or_pos n with rfl | hp
  · decide
  · have := (Nat.log2_lt (by omega) (k := 10)).mpr (show n < 2 ^ 10 by omega)
    omega
def SpPat (F : FSp) : Prop := ∀ (rooms : List Nat) (rows : List (List Nat)) (L0 R0 R : D), frz L0 = liD false rooms → frz R0 = R → RowsD rows R → PatOk rooms rows → Ret F [.ins true (Str.ofString "Pattern") [] [], L0, R0] .non [some (paD true rooms (rows.map isrt)), some (liD false rooms), some R]
theorem L_Pat {G : Gb} {F1 F2 : FSp} (LG : LibG G) (h1 : G.fns "full_rows" = some F1) (s1 : SpFull F1) (h2 : G.fns "_wrong_residue" = some F2) (s2 : SpWrong F2) : SpPat (semF G 8 3 [0, 1, 2] m_Pattern_init) := by
  intro rooms rows L0 R0 R hL0 hR0 hR p q x h
  have eb : m_Pattern_init = .cons (.asg 3 (.call "full_rows" (.cons (.fv 1) (.cons (.fv 2) .nil)))) (.cons (.asg 4 (.call "_wrong_residue" (.cons (.fv 1) (.cons (.fv 3) .nil)))) (.cons (.iff (.cmp .IsNot (.var 4) .non) (.cons (.raise "NotPattern" (.cons (.var 4) .nil)) .nil) .nil) (.cons (.asg 5 (.lc2 [6] (.it (.fv 3)) .nil [7] (.it (.var 6)) .nil (.var 7))) (.cons (.setf 0 "line" (.fv 1)) (.cons (.setf 0 "rows" (.fv 3)) (.cons (.setf 0 "size" (.fld (.fv 1) "size")) (.cons (.setf 0 "props" (.bin .FloorDiv (.blt .sum (.cons (.var 5) .nil)) (.fld (.fv 1) "size"))) (.cons (.setf 0 "top" (.blt .maxL (.cons (.var 5) .nil))) .nil)))))))) := rfl
  have hL := fz_li rooms
  have p2 := p.isrt
  have hT := fz_rowsT (rows.map isrt)
  have hn := p.n
  have hz := p.z
  have hlen := p2.len
  have hps := p.s
  have hpb := p.b
  have hfl : (rows.map isrt).flatMap (fun r : List Nat => r.map fun h : Nat => D.int (h : Int)) = (rI (rows.map isrt).flatten).map .int := by
    rw [rI_map, List.flatMap_def, List.map_flatten]
  refine ⟨rfl, ?_⟩
  rw [eb]
  refine r_asg (as_call h1 (asr_c (as_fr (d := L0) rfl hL0) (asr_c (as_fr (d := R0) rfl hR0) asr_0)) rfl (s1 rooms rows R R (frz_of _ hR.fz) hR p.ln p.rl hz) rfl) ?_
  refine r_asg (as_call h2 (asr_c (as_ff rfl hL) (asr_c (as_ff rfl hT) asr_0)) rfl (s2 rooms _ hn hz p2.ln (by rw [land_len fun i h => (p2.rl i h).1]; exact p.b) p2.cn) rfl) ?_
  refine r_ifF (as_castb (as_isnN (as_v rfl rfl)) rfl) ?_
  have key := as_map2 (G := G) (i := 6) (j := 7) (s := .it (.fv 3)) (s1 := .it (.var 6)) (elt := .var 7) (xs := rows.map isrt) (ys := fun r => r) rowT (fun h : Nat => D.int (h : Int)) (fun (_ : List Nat) (h : Nat) => D.int (h : Int)) (by decide)
    (ass_it (en := [some (.ins true (Str.ofString "Pattern") [] []), some (liD false rooms), some R, some (rowsT (rows.map isrt)), some .non, none, none, none]) (as_ff rfl hT) rfl (fzs_rowT _)) (by
      have e : (rows.map isrt).flatMap (fun r => r) = (rows.map isrt).flatten := by rw [List.flatMap_def, List.map_id']
      rw [e]
      omega)
    (fun r hr => by
      have z : Ass G (.it (.var 6)) ((rI r).map .int) [some (.ins true (Str.ofString "Pattern") [] []), some (liD false rooms), some R, some (rowsT (rows.map isrt)), some .non, none, some (rowT r), none] [some (.ins true (Str.ofString "Pattern") [] []), some (liD false rooms), some R, some (rowsT (rows.map isrt)), some .non, none, some (rowT r), none] := ass_it (as_v (d := rowT r) rfl (fz_rowT r)) rfl (by simp)
      rw [← rI_map]
      exact z)
    (fun r hr k hk => as_v (d := .int (k : Int)) rfl rfl)
  rw [hfl] at key
  refine r_asg key ?_
  refine r_set (as_ff (d := liD false rooms) rfl hL) rfl LG.f3 rfl (by decide) ?_
  refine r_set (as_ff (d := rowsT (rows.map isrt)) rfl hT) rfl LG.f4 (by decide) (by decide) ?_
  refine r_set (li_sz LG (as_ff (d := liD false rooms) rfl hL)) rfl LG.f5 (by decide) (by decide) ?_
  refine r_set (as_cast (as_fdiv (by omega) (log2_lt hz) (as_sumo (ns := rI (rows.map isrt).flatten) rfl) (li_sz LG (as_ff (d := liD false rooms) rfl hL))) (show _ = ((propsN rooms (rows.map isrt) : Nat) : Int) by rw [rI_sum]; unfold propsN; push_cast; rfl)) rfl LG.f6 (by decide) (by decide) ?_
  obtain ⟨t1, t2⟩ := top_mem (rows := rows.map isrt) (by omega)
  refine r_set (as_blt1o (d := .int (topN (rows.map isrt) : Int)) (x := .lst true ((rI (rows.map isrt).flatten).map .int)) rfl rfl fun k hk => ?_) rfl LG.f7 (by decide) (by decide) ?_
  · refine ⟨_, rfl, _, ⟨List.mem_map.mpr ⟨_, t1, rfl⟩, fun y hy => ?_⟩, hk⟩
    obtain ⟨y', hy', rfl⟩ := List.mem_map.mp hy
    have := t2 y' hy'
    omega
  · rw [runs_0]
    exact h
/-! ### single ones -/
def ones (n : Nat) : List Nat := List.replicate n 1
def sg (hs : List Nat) : List (List Nat) := hs.map fun h => [h]
structure SglOk (hs : List Nat) : Prop where
  n : 0 < hs.length
  z : hs.length ≤ 1000
  cn : cntsN hs.length (sg hs) = ones hs.length
theorem sg_isrt (hs : List Nat) : (sg hs).map isrt = sg hs := by
  unfold sg
  rw [List.map_map]
  rfl
theorem SglOk.pat {hs : List Nat} (p : SglOk hs) : PatOk (ones hs.length) (sg hs) := by
  have hn := p.n
  have hz := p.z
  refine ⟨by simp [ones]; omega, by unfold ones; rw [rep_sum]; exact hn, by unfold ones; rw [rep_sum]; omega, by simp [sg, ones], fun i h => ?_, ?_⟩
  · have hi : i < hs.length := by simpa [ones] using h
    simp [sg, ones, List.getD_eq_getElem?_getD, hi]
  · rw [show (ones hs.length).length = hs.length by simp [ones]]
    exact p.cn
def sgD (o : Bool) (hs : List Nat) : D := paD o (ones hs.length) (sg hs)
def SpPatS (F : FSp) : Prop := ∀ (hs : List Nat) (H0 H : D), frz H0 = H → RowD hs H → SglOk hs → Ret F [.cls (Str.ofString "Pattern"), H0] (sgD true hs) [some (.cls (Str.ofString "Pattern")), some H]
theorem L_PatS {G : Gb} {F1 F2 F3 : FSp} (LG : LibG G) (h1 : G.fns "is_row" = some F1) (s1 : SpRow F1) (h2 : G.cmt "Line" "single" = some F2) (s2 : SpLineS F2) (h3 : G.mth "Pattern" "__init__" = some F3) (s3 : SpPat F3) : SpPatS (semF G 3 2 [0, 1] m_Pattern_single) := by
  intro hs H0 H h0 hH p q x h
  have eb : m_Pattern_single = .cons (.iff (.bop false (.cons (.nt (.call "is_row" (.cons (.fv 1) .nil))) (.cons (.cmp .Eq (.blt .len (.cons (.fv 1) .nil)) (.int 0)) .nil))) (.cons (.raise "BadThrows" (.cons (.neg (.int 1)) .nil)) .nil) .nil) (.cons (.ret (.newv 0 "Pattern" (.cons (.cm "Line" "single" (.cons (.blt .len (.cons (.fv 1) .nil)) .nil)) (.cons (.lc [2] (.it (.fv 1)) .nil (.lst (.cons (.var 2) .nil))) .nil)))) .nil) := rfl
  have hn := p.n
  have hz := p.z
  have ff : ∀ {a b : Option D}, As G (.fv 1) H [a, some H, b] [a, some H, b] := fun {a b} => as_ff rfl hH.fz
  have len : ∀ {a b : Option D}, As G (.blt .len (.cons (.fv 1) .nil)) (.int hs.length) [a, some H, b] [a, some H, b] := fun {a b} => as_cast (as_len ff hH.it) (by rw [List.length_map, rI_len])
  refine ⟨rfl, ?_⟩
  rw [eb]
  refine r_ifF (as_bopN (t := false) rfl (as_castb (as_nt (as_call h1 (asr_c (as_fr (d := H0) rfl h0) asr_0) rfl (s1 _ (isRow_T hH.row)) rfl)) (by rw [hH.row]; rfl)) (as_bop1 (as_castb (as_eqI len as_i) (decide_eq_false (by omega))))) ?_
  have src : Ass G (.it (.fv 1)) (hs.map fun h : Nat => D.int (h : Int)) [some (.cls (Str.ofString "Pattern")), some H, none] [some (.cls (Str.ofString "Pattern")), some H, none] := by
    rw [← rI_map]
    exact ass_it ff hH.it (by simp)
  have rows := as_map (G := G) (j := 2) (elt := .lst (.cons (.var 2) .nil)) (xs := hs) (fun h : Nat => D.int (h : Int)) (fun h : Nat => D.lst true [.int (h : Int)]) src (by omega) (fun a ha => as_lst (asv_c (as_v (d := .int (a : Int)) rfl rfl) asv_0))
  have fr : frz (.lst true (hs.map fun h : Nat => D.lst true [.int (h : Int)])) = .lst false (hs.map fun h : Nat => D.lst false [.int (h : Int)]) := by
    rw [frz]
    congr 1
    clear rows src p h hH hn hz len ff
    induction hs with
    | nil => rfl
    | cons k hs ih => rw [List.map_cons, frzs, ih, List.map_cons]; rfl
  have hR : RowsD (sg hs) (.lst false (hs.map fun h : Nat => D.lst false [.int (h : Int)])) := by
    refine ⟨rfl, ?_, _, rfl, by simp [sg], fun i hi => ?_⟩
    · rw [fz]
      show fzs _ = true
      clear rows src p h hH hn hz len ff fr
      induction hs with
      | nil => rfl
      | cons k hs ih => rw [List.map_cons, fzs, ih]; rfl
    · have hi' : i < hs.length := by simpa [sg] using hi
      refine ⟨.lst false [.int (hs[i] : Int)], by simp [hi'], ?_⟩
      have e : (sg hs)[i] = [hs[i]] := by simp [sg]
      rw [e]
      exact ⟨rfl, rfl, rfl⟩
  have sp := s3 (ones hs.length) (sg hs) (liD true (ones hs.length)) _ _ (frz_line _ _) fr hR p.pat
  rw [sg_isrt] at sp
  exact r_ret rfl (as_newv rfl h3 (asr_c (as_cm h2 (asr_c len asr_0) rfl (s2 _ hn hz) rfl) (asr_c rows asr_0)) rfl sp rfl) h
structure SpHts (F : FSp) : Prop where
  ok : ∀ (hs : List Nat) (P0 : D), frz P0 = sgD false hs → hs.length ≤ 1000 → Ret F [P0] (rowT hs) [some (sgD false hs)]
  no : ∀ (rooms : List Nat) (rows : List (List Nat)) (P0 : D), frz P0 = paD false rooms rows → (∃ r ∈ rooms, r ≠ 1) → Exc F [P0] "NotSingle" [] [some (paD false rooms rows)]
theorem L_hts {G : Gb} (LG : LibG G) : SpHts (semF G 3 1 [0] m__single_heights) := by
  have eb : m__single_heights = .cons (.forr [1] (.it (.fld (.fld (.fv 0) "line") "rooms")) (.cons (.iff (.cmp .NotEq (.var 1) (.int 1)) (.cons (.raise "NotSingle" .nil) .nil) .nil) .nil)) (.cons (.ret (.blt .tuple1 (.cons (.lc [2] (.it (.fld (.fv 0) "rows")) .nil (.idx (.var 2) (.int 0))) .nil))) .nil) := rfl
  refine ⟨fun hs P0 h0 hz q x h => ?_, fun rooms rows P0 h0 hr q x h => ?_⟩
  · have hP : fz (sgD false hs) = true := fz_pa _ _
    refine ⟨rfl, ?_⟩
    rw [eb]
    refine r_for (ass_it (li_at LG (pa_line LG (as_fr (d := P0) rfl h0))) rfl (by simp)) ?_
    refine for_skip (en := [some (sgD false hs), none, none]) (j := 1) (fun d hd K hK => ?_) (fun y => ?_) none
    · rw [rI_map] at hd
      obtain ⟨k, hk, rfl⟩ := List.mem_map.mp hd
      have : k = 1 := List.eq_of_mem_replicate hk
      subst this
      refine r_ifF (as_castb (as_neI (as_v (d := .int (1 : Nat)) rfl rfl) as_i) (by simp)) ?_
      rw [runs_0]
      exact hK
    · refine r_ret rfl (as_tuple (as_map (xs := sg hs) rowT (fun r : List Nat => D.int (r.getD 0 0 : Nat)) (ass_it (pa_rows LG (as_ff (d := sgD false hs) rfl hP)) rfl (fzs_rowT _)) (by simp [sg]; omega) fun r hr => ?_) rfl ?_) ?_
      · obtain ⟨k, hk, rfl⟩ := List.mem_map.mp hr
        exact as_idx (as_v (d := rowT [k]) rfl (fz_rowT _)) as_i rfl rfl
      · unfold sg
        rw [List.map_map]
        have e : (hs.map ((fun r : List Nat => D.int (r.getD 0 0 : Nat)) ∘ fun h => [h])) = (rI hs).map .int := by rw [rI_map]; rfl
        rw [e]
        simp
      · unfold sg
        rw [List.map_map]
        have e : (hs.map ((fun r : List Nat => D.int (r.getD 0 0 : Nat)) ∘ fun h => [h])) = (rI hs).map .int := by rw [rI_map]; rfl
        rw [e]
        exact h
  · have hP : fz (paD false rooms rows) = true := fz_pa _ _
    refine ⟨rfl, ?_⟩
    rw [eb]
    refine r_for (ass_it (li_at LG (pa_line LG (as_fr (d := P0) rfl h0))) rfl (by simp)) ?_
    rw [rI_map]
    have go : ∀ (L : List Nat) (y : Option D), (∃ r ∈ L, r ≠ 1) → ∀ {fin : En → Prop} {rt : D → En → Prop} {bk : En → Prop}, frW [1] (fun e2 K => runs G (.cons (.iff (.cmp .NotEq (.var 1) (.int 1)) (.cons (.raise "NotSingle" .nil) .nil) .nil) .nil) e2 { nx := K, rt := rt, bk := bk, ct := K, ex := fun c fs en => x c fs (back [0] en 0 [P0]) }) fin (L.map fun x : Nat => D.int (x : Int)) [some (paD false rooms rows), y, none] := by
      intro L
      induction L with
      | nil =>
        rintro y ⟨r, hr, _⟩
        cases hr
      | cons k L ih =>
        rintro y ⟨r, hr, hne⟩ fin rt bk
        rw [List.map_cons, frW]
        simp only [bindW, List.set_cons_succ, List.set_cons_zero]
        by_cases hk : k = 1
        · refine r_ifF (as_castb (as_neI (as_v (d := .int (k : Int)) rfl rfl) as_i) (by rw [hk]; rfl)) ?_
          rw [runs_0]
          refine ih _ ⟨r, ?_, hne⟩
          rcases List.mem_cons.mp hr with rfl | hr
          · exact absurd hk hne
          · exact hr
        · refine r_ifT (as_castb (as_neI (as_v (d := .int (k : Int)) rfl rfl) as_i) (by simp; omega)) ?_
          exact r_rais asv_0 LG.sin rfl h
    exact go rooms none hr
end Pf

/-! What the laws share: draws, drawn patterns. -/
namespace Pf
open PySem PySem.Spec PyProof.Rows L2
def SpWholes (F : FSp) : Prop := ∀ ns : List Int, Ret F [.tup (ns.map .int)] (.bl true) [some (.tup (ns.map .int))]
theorem L_wholes {G : Gb} {F1 : FSp} (h1 : G.fns "_law_whole" = some F1) (s1 : SpWhole F1) : SpWholes (semF G 2 1 [0] m__law_wholes) := by
  intro ns q x h
  have eb : m__law_wholes = .cons (.iff (.nt (.isi (.var 0) ["tuple"])) (.cons (.ret (.bl false)) .nil) .nil) (.cons (.forr [1] (.it (.var 0)) (.cons (.iff (.nt (.call "_law_whole" (.cons (.var 1) .nil))) (.cons (.ret (.bl false)) .nil) .nil) .nil)) (.cons (.ret (.bl true)) .nil)) := rfl
  have hz := fz_tup_ints ns
  refine ⟨rfl, ?_⟩
  rw [eb]
  refine r_ifF (as_castb (as_nt (as_isi (as_v rfl hz) rfl)) rfl) ?_
  refine r_for (ass_it (as_v rfl hz) rfl (by simp)) ?_
  refine for_skip (en := [some (.tup (ns.map .int)), none]) (j := 1) (fun d hd K hK => ?_) (fun y => ?_) none
  · obtain ⟨k, hk, rfl⟩ := List.mem_map.mp hd
    refine r_ifF (as_castb (as_nt (as_call h1 (asr_c (as_v (d := .int k) rfl rfl) asr_0) rfl (s1 _ rfl) rfl)) rfl) ?_
    rw [runs_0]
    exact hK
  · exact r_ret rfl as_b h
def SpTake (F : FSp) : Prop := ∀ (ds : List Int) (m : Int), 0 < m → Ret F [.lst true (ds.map .int), .int m] (.int (takeI ds m)) [some (.lst true (ds.dropLast.map .int)), some (.int m)]
theorem L_take {G : Gb} : SpTake (semF G 2 2 [0, 1] m__law_take) := by
  intro ds m hm q x h
  unfold semF m__law_take
  refine ⟨rfl, ?_⟩
  rcases List.eq_nil_or_concat ds with rfl | ⟨ys, a, rfl⟩
  · simp [runs, run, ev, evs, evr, evB, evTs, evO, evSrc, asR, rv, rvs, isS, bindW, setN, offs, takeA, putA, callW, bopW, cmpW, addW, subW, mulW, fdivW, modW, powW, intW, eqW, inW, isW, isNon, negW, ixW, slW, lenW, bltW, intsW, isLst, itms, isiT, isiB, mutW, fz, frz, fzs, frzs, fzs_append, dat, dats, deq, deqs, Pf.flat, back, hnd, uv, uvs, offO, sq_none, sortI_len]
    exact h
  · simp [takeI] at h
    simp [runs, run, ev, evs, evr, evB, evTs, evO, evSrc, asR, rv, rvs, isS, bindW, setN, offs, takeA, putA, callW, bopW, cmpW, addW, subW, mulW, fdivW, modW, powW, intW, eqW, inW, isW, isNon, negW, ixW, slW, lenW, bltW, intsW, isLst, itms, isiT, isiB, mutW, fz, frz, fzs, frzs, fzs_append, dat, dats, deq, deqs, Pf.flat, back, hnd, uv, uvs, offO, sq_none, sortI_len]
    rw [if_neg (by omega)]
    exact ⟨hm, h⟩
theorem take_nat (ds : List Int) {m : Int} (hm : 0 < m) : ∃ k : Nat, takeI ds m = (k : Int) ∧ (k : Int) < m := by
  have h := takeI_lt ds hm
  exact ⟨(takeI ds m).toNat, by omega, by omega⟩
/-- the draws stand in slot i -/
theorem as_take {G : Gb} {F : FSp} {i : Nat} {e : E} {ds : List Int} {m : Int} {en : En} (hF : G.fns "_law_take" = some F) (sF : SpTake F) (hm : 0 < m) (hi : (en[i]?).join = some (.lst true (ds.map .int))) (he : As G e (.int m) en en) : As G (.call "_law_take" (.cons (.var i) (.cons e .nil))) (.int (takeI ds m)) en (en.set i (some (.lst true (ds.dropLast.map .int)))) := by
  refine as_call (rs := [.s i, .v (.int m)]) (ds := [.lst true (ds.map .int), .int m]) (en2 := en.set i none) (us := [some (.lst true (ds.dropLast.map .int)), some (.int m)]) hF (asr_o hi (by simp) (asr_c he asr_0)) ?_ (sF ds m hm) ?_
  · simp only [takeA, hi, Option.map]
  · simp only [putA, List.set_set]
theorem as_take0 {G : Gb} {F : FSp} {i : Nat} {e : E} {ds : List Int} {m : Int} {en en2 : En} (hF : G.fns "_law_take" = some F) (sF : SpTake F) (hm : 0 < m) (hi : (en[i]?).join = some (.lst true (ds.map .int))) (he : As G e (.int m) en en) (h2 : en.set i (some (.lst true (ds.dropLast.map .int))) = en2) : As G (.call "_law_take" (.cons (.var i) (.cons e .nil))) (.int (takeI ds m)) en en2 := by
  rw [← h2]
  exact as_take hF sF hm hi he
/-! ### a pattern by a drawn matching -/
def landF (n : Nat) : Nat → List (List Nat) → List Nat
  | _, [] => []
  | s, r :: rs => r.map (fun h => (s + h) % n) ++ landF n (s + 1) rs
theorem landF_app (n : Nat) : ∀ (rs : List (List Nat)) (s : Nat) (r : List Nat), landF n s (rs ++ [r]) = landF n s rs ++ r.map (fun h => (s + rs.length + h) % n)
  | [], s, r => by simp [landF]
  | q :: rs, s, r => by
    rw [List.cons_append, landF, landF, landF_app n rs (s + 1) r, List.append_assoc]
    congr 2
    refine List.map_congr_left fun h _ => ?_
    rw [List.length_cons]
    congr 1
    omega
theorem landF_eq (n : Nat) : ∀ (rs pre : List (List Nat)), (List.range' pre.length rs.length).flatMap (fun i => ((pre ++ rs).getD i []).map fun h => (i + h) % n) = landF n pre.length rs
  | [], pre => by simp [landF]
  | r :: rs, pre => by
    rw [List.length_cons, List.range'_succ, List.flatMap_cons, landF]
    have e1 : (pre ++ r :: rs).getD pre.length [] = r := by simp [List.getD_eq_getElem?_getD]
    rw [e1]
    have ih := landF_eq n rs (pre ++ [r])
    rw [List.length_append, List.length_singleton, List.append_assoc] at ih
    congr 1
theorem land_F {n : Nat} {rows : List (List Nat)} (h : rows.length = n) : landL n rows = landF n 0 rows := by
  subst h
  exact landF_eq rows.length rows []
def leftF : Nat → List Nat → List Nat
  | _, [] => []
  | s, k :: rooms => List.replicate k s ++ leftF (s + 1) rooms
theorem left_count (p : Nat) : ∀ (rooms : List Nat) (s : Nat), (leftF s rooms).count p = if s ≤ p ∧ p < s + rooms.length then rooms.getD (p - s) 0 else 0
  | [], s => by
    rw [leftF, if_neg (by rw [List.length_nil]; omega)]
    rfl
  | k :: rooms, s => by
    rw [leftF, List.count_append, left_count p rooms (s + 1), List.count_replicate]
    rw [List.length_cons]
    by_cases h1 : s = p
    · subst h1
      rw [if_pos (by simp), if_neg (by omega), if_pos (by omega), Nat.sub_self]
      rfl
    · rw [if_neg (by simpa using h1)]
      by_cases h2 : s ≤ p ∧ p < s + (rooms.length + 1)
      · rw [if_pos h2, if_pos (by omega), Nat.zero_add]
        obtain ⟨d, hd⟩ : ∃ d, p - s = d + 1 := ⟨p - s - 1, by omega⟩
        rw [hd, show p - (s + 1) = d by omega]
        rfl
      · rw [if_neg h2, if_neg (by omega)]
theorem left_len : ∀ (rooms : List Nat) (s : Nat), (leftF s rooms).length = rooms.sum
  | [], _ => rfl
  | k :: rooms, s => by rw [leftF, List.length_append, List.length_replicate, left_len rooms, List.sum_cons]
theorem left_app : ∀ (a b : List Nat) (s : Nat), leftF s (a ++ b) = leftF s a ++ leftF (s + a.length) b
  | [], b, s => by simp [leftF]
  | k :: a, b, s => by
    rw [List.cons_append, leftF, leftF, left_app a b (s + 1), List.append_assoc, List.length_cons]
    congr 3
    omega
theorem left_lt : ∀ (rooms : List Nat) (s p : Nat), p ∈ leftF s rooms → p < s + rooms.length
  | [], _, _, h => by cases h
  | k :: rooms, s, p, h => by
    rw [leftF] at h
    rw [List.length_cons]
    rcases List.mem_append.mp h with h | h
    · have := List.eq_of_mem_replicate h
      omega
    · have := left_lt rooms (s + 1) p h
      omega
theorem erase_perm {α : Type} : ∀ (l : List α) (i : Nat) (h : i < l.length), (l[i] :: l.eraseIdx i).Perm l
  | a :: l, 0, _ => List.Perm.refl _
  | a :: l, i + 1, h => by
    have := erase_perm l i (by simpa using h)
    exact (List.Perm.swap _ _ _).trans (this.cons a)
theorem mod_land {n s g k : Nat} (hn : 0 < n) (hg : g < n) : (s + (((((g : Int) - (s : Int)) % (n : Int)).toNat) + n * k)) % n = g := by
  have h1 := Int.emod_nonneg ((g : Int) - (s : Int)) (show (n : Int) ≠ 0 by omega)
  have h2 : ((s + (((((g : Int) - (s : Int)) % (n : Int)).toNat) + n * k) : Nat) : Int) % (n : Int) = (g : Int) := by
    push_cast
    rw [Int.toNat_of_nonneg h1, ← Int.add_assoc, Int.add_mul_emod_self_left, Int.add_emod, Int.emod_emod_of_dvd _ (Int.dvd_refl _), ← Int.add_emod, show (s : Int) + ((g : Int) - (s : Int)) = g by omega]
    exact Int.emod_eq_of_lt (by omega) (by omega)
  exact_mod_cast h2
theorem td_sum (L : List Nat) (s : Nat) : (L.take s).sum + (L.drop s).sum = L.sum := by
  have h : (L.take s ++ L.drop s).sum = L.sum := by rw [List.take_append_drop]
  rw [List.sum_append] at h
  exact h
theorem as_pop1 {G : Gb} {i : Nat} {e : E} {z : Int} {ws xs : List D} {j : Nat} {d : D} {en en1 : En} (hw : (en[i]?).join = some (.lst true ws)) (he : As G e (.int z) en en1) (hi : (en1[i]?).join = some (.lst true xs)) (hf : fzs xs = true) (hl : xs.length ≤ 16777216) (hj : ixN xs.length z = some j) (hd : xs[j]? = some d) : As G (.mut .pop1 i (.cons e .nil)) d en (en1.set i (some (.lst true (xs.eraseIdx j)))) := .of rfl fun Q X hq => by
  rw [ev_mut]
  refine ⟨⟨ws, hw⟩, ?_⟩
  rw [evs_c]
  refine he.e _ _ ?_
  rw [evs_0]
  simp only [hi, mutW]
  exact ⟨⟨hf, hl⟩, j, d, hj, hd, hq⟩
theorem er_rI : ∀ (L : List Nat) (j : Nat), ((rI L).map D.int).eraseIdx j = (rI (L.eraseIdx j)).map .int
  | [], _ => rfl
  | a :: L, 0 => rfl
  | a :: L, j + 1 => by
    have := er_rI L j
    simp only [rI, List.map_cons, List.eraseIdx_cons_succ] at this ⊢
    rw [this]
section
variable {G : Gb} {fin : En → Prop} {rt : D → En → Prop} {bk : En → Prop} {ex : Xp}
def pB1 : Ss := .cons (.expr (.mut .append 4 (.cons (.var 5) .nil))) .nil
def pB2 : Ss := .cons (.asg 9 (.mut .pop1 4 (.cons (.call "_law_take" (.cons (.var 0) (.cons (.blt .len (.cons (.var 4) .nil)) .nil))) .nil))) (.cons (.asg 10 (.bin .Mod (.blt .int1 (.cons (.bin .Sub (.var 9) (.var 5)) .nil)) (.var 3))) (.cons (.expr (.mut .append 8 (.cons (.bin .Add (.var 10) (.bin .Mult (.var 3) (.call "_law_take" (.cons (.var 0) (.cons (.var 2) .nil))))) .nil))) .nil))
theorem fill_in {A0 A1 A2 A3 A7 A8 A9 A10 : Option D} {s : Nat} : ∀ (ds : List D) (Z : List D) (y6 : Option D), Z.length + ds.length ≤ 200000 → (∀ y6, fin [A0, A1, A2, A3, some (.lst true (Z ++ List.replicate ds.length (.int (s : Int)))), some (.int (s : Int)), y6, A7, A8, A9, A10]) →
    frW [6] (fun e2 K => runs G pB1 e2 { nx := K, rt := rt, bk := bk, ct := K, ex := ex }) fin ds [A0, A1, A2, A3, some (.lst true Z), some (.int (s : Int)), y6, A7, A8, A9, A10]
  | [], Z, y6, _, hf => by
    have := hf y6
    simp only [List.length_nil, List.replicate_zero, List.append_nil] at this
    exact this
  | d :: ds, Z, y6, hl, hf => by
    rw [List.length_cons] at hl
    rw [frW]
    simp only [bindW, List.set_cons_succ, List.set_cons_zero]
    refine r_app (xs := Z) (ws := Z) rfl (as_v (d := .int (s : Int)) rfl rfl) rfl (by omega) ?_
    rw [runs_0]
    refine fill_in ds (Z ++ [.int (s : Int)]) _ (by rw [List.length_append, List.length_singleton]; omega) fun y6 => ?_
    have := hf y6
    rw [List.length_cons, List.replicate_succ] at this
    rw [List.append_assoc]
    exact this
theorem fill_out {A0 A2 A3 A7 A8 A9 A10 : Option D} {R : D} {rooms : List Nat} (hR : RowD rooms R) (hb : ∀ r ∈ rooms, r ≤ 1000) (hs : rooms.sum ≤ 100000) (hf : ∀ y5 y6, fin [A0, some R, A2, A3, some (.lst true ((rI (leftF 0 rooms)).map .int)), y5, y6, A7, A8, A9, A10]) : ∀ (n s : Nat) (y5 y6 : Option D), s + n = rooms.length →
    frW [5] (fun e2 K => runs G (.cons (.forr [6] (.rng (.cons (.idx (.fv 1) (.var 5)) .nil)) pB1) .nil) e2 { nx := K, rt := rt, bk := bk, ct := K, ex := ex }) fin ((List.range' s n).map fun i : Nat => D.int (i : Int)) [A0, some R, A2, A3, some (.lst true ((rI (leftF 0 (rooms.take s))).map .int)), y5, y6, A7, A8, A9, A10]
  | 0, s, y5, y6, hn => by
    rw [List.take_of_length_le (by omega)]
    exact hf y5 y6
  | n + 1, s, y5, y6, hn => by
    have hlt : s < rooms.length := by omega
    rw [List.range'_succ, List.map_cons, frW]
    simp only [bindW, List.set_cons_succ, List.set_cons_zero]
    have hk := hb rooms[s] (List.getElem_mem _)
    have e1 : leftF 0 (rooms.take (s + 1)) = leftF 0 (rooms.take s) ++ List.replicate rooms[s] s := by
      rw [List.take_succ_eq_append_getElem hlt, left_app, List.length_take_of_le (by omega), Nat.zero_add]
      simp [leftF]
    have hlen : (leftF 0 (rooms.take s)).length ≤ 100000 := by
      rw [left_len]
      have := td_sum rooms s
      omega
    refine r_for (ass_rg1 (n := rooms[s]) (by omega) (as_idx (d := .int (rooms[s] : Int)) (as_ff (d := R) rfl hR.fz) (as_v (d := .int (s : Int)) rfl rfl) hR.it (rI_at hlt))) ?_
    refine fill_in _ _ _ (by rw [List.length_map, rI_len, List.length_map, List.length_range']; omega) fun y6 => ?_
    rw [runs_0, List.length_map, List.length_range']
    have ih := fill_out (A0 := A0) (A2 := A2) (A3 := A3) (A7 := A7) (A8 := A8) (A9 := A9) (A10 := A10) hR hb hs hf n (s + 1) (some (.int (s : Int))) y6 (by omega)
    rw [e1] at ih
    have e2 : (rI (leftF 0 (rooms.take s) ++ List.replicate rooms[s] s)).map D.int = (rI (leftF 0 (rooms.take s))).map .int ++ List.replicate rooms[s] (.int (s : Int)) := by
      unfold rI
      rw [List.map_append, List.map_append, List.map_replicate, List.map_replicate]
    rw [e2] at ih
    exact ih
theorem deal_in {F : FSp} (hF : G.fns "_law_take" = some F) (sF : SpTake F) {A1 A7 : Option D} {n laps s : Nat} (hn : 0 < n) (hn2 : n ≤ 1000) (hl : 0 < laps) : ∀ (m c : Nat) (ds : List Int) (L row : List Nat) (y6 y9 y10 : Option D), m ≤ L.length → L.length ≤ 100000 → row.length + m ≤ 100000 → (∀ p ∈ L, p < n) →
    (∀ (ds' : List Int) (L' row' : List Nat) (y6 y9 y10 : Option D), L'.length + m = L.length → row'.length = row.length + m → (∀ p ∈ L', p < n) → ((row'.map fun h => (s + h) % n) ++ L').Perm ((row.map fun h => (s + h) % n) ++ L) → (∀ h ∈ row', h ∈ row ∨ h < laps * n) → fin [some (.lst true (ds'.map .int)), A1, some (.int laps), some (.int n), some (.lst true ((rI L').map .int)), some (.int (s : Int)), y6, A7, some (.lst true ((rI row').map .int)), y9, y10]) →
    frW [6] (fun e2 K => runs G pB2 e2 { nx := K, rt := rt, bk := bk, ct := K, ex := ex }) fin ((List.range' c m).map fun i : Nat => D.int (i : Int)) [some (.lst true (ds.map .int)), A1, some (.int laps), some (.int n), some (.lst true ((rI L).map .int)), some (.int (s : Int)), y6, A7, some (.lst true ((rI row).map .int)), y9, y10]
  | 0, c, ds, L, row, y6, y9, y10, _, _, _, hp, hf => hf ds L row y6 y9 y10 rfl rfl hp (List.Perm.refl _) fun h hh => .inl hh
  | m + 1, c, ds, L, row, y6, y9, y10, hm, hL, hr, hp, hf => by
    rw [List.range'_succ, List.map_cons, frW]
    simp only [bindW, List.set_cons_succ, List.set_cons_zero]
    obtain ⟨j, hj, hj'⟩ := take_nat ds (m := (L.length : Int)) (by omega)
    have hjL : j < L.length := by omega
    have hxs : ((rI L).map D.int).length = L.length := by rw [List.length_map, rI_len]
    have hg := hp L[j] (List.getElem_mem _)
    have z1 := Int.emod_nonneg ((L[j] : Int) - (s : Int)) (show (n : Int) ≠ 0 by omega)
    have z2 := Int.emod_lt_of_pos ((L[j] : Int) - (s : Int)) (show 0 < (n : Int) by omega)
    obtain ⟨k, hk, hk'⟩ := take_nat ds.dropLast (m := (laps : Int)) (by omega)
    refine r_asg (as_pop1 (ws := (rI L).map .int) (xs := (rI L).map .int) (j := j) (d := .int (L[j] : Int)) rfl (as_cast (as_take0 hF sF (m := (L.length : Int)) (by omega) rfl (as_cast (as_leno rfl) (by rw [hxs])) rfl) hj) rfl (by simp) (by rw [hxs]; omega) (by rw [hxs]; exact ixN_nat (by omega) (by omega)) (by simp [rI, hjL])) ?_
    rw [er_rI]
    refine r_asg (as_mod (by omega) (as_int1 (as_sub (as_v (d := .int (L[j] : Int)) rfl rfl) (as_v (d := .int (s : Int)) rfl rfl))) (as_v (d := .int (n : Int)) rfl rfl)) ?_
    refine r_app (xs := (rI row).map .int) (ws := (rI row).map .int) rfl (as_add (as_v (d := .int (((L[j] : Int) - (s : Int)) % (n : Int))) rfl rfl) (as_mulL (by omega) (as_v (d := .int (n : Int)) rfl rfl) (as_cast (as_take0 hF sF (m := (laps : Int)) (by omega) rfl (as_v (d := .int (laps : Int)) rfl rfl) rfl) hk))) rfl (by rw [List.length_map, rI_len]; omega) ?_
    rw [runs_0]
    have hh : (((L[j] : Int) - (s : Int)) % (n : Int)) + (n : Int) * (k : Int) = ((((((L[j] : Int) - (s : Int)) % (n : Int)).toNat) + n * k : Nat) : Int) := by
      push_cast
      rw [Int.toNat_of_nonneg z1]
    rw [hh]
    have el := mod_land (k := k) (s := s) hn hg
    generalize hH : ((((L[j] : Int) - (s : Int)) % (n : Int)).toNat) + n * k = hv at el
    have hlt : hv < laps * n := by
      have : n * k + n ≤ n * laps := by
        rw [← Nat.mul_succ]
        exact Nat.mul_le_mul_left n (by omega)
      rw [Nat.mul_comm laps n]
      omega
    have e3 : (rI row).map D.int ++ [.int (hv : Int)] = (rI (row ++ [hv])).map .int := by simp [rI]
    simp only [List.set_cons_succ, List.set_cons_zero]
    rw [e3]
    have pe := erase_perm L j hjL
    refine deal_in hF sF hn hn2 hl m (c + 1) _ _ _ _ _ _ ?_ ?_ ?_ (fun p hp' => hp p (List.mem_of_mem_eraseIdx hp')) fun ds' L' row' y6 y9 y10 q1 q2 q3 q4 q5 => hf ds' L' row' y6 y9 y10 ?_ ?_ q3 ?_ ?_
    · rw [List.length_eraseIdx_of_lt hjL]; omega
    · rw [List.length_eraseIdx_of_lt hjL]; omega
    · rw [List.length_append, List.length_singleton]; omega
    · rw [List.length_eraseIdx_of_lt hjL] at q1; omega
    · rw [q2, List.length_append, List.length_singleton]; omega
    · refine q4.trans ?_
      rw [List.map_append, List.append_assoc]
      refine List.Perm.append_left _ ?_
      show ((s + hv) % n :: L.eraseIdx j).Perm L
      rw [el]
      exact pe
    · intro h' hh'
      rcases q5 h' hh' with q | q
      · rcases List.mem_append.mp q with q | q
        · exact .inl q
        · rw [List.mem_singleton] at q
          subst q
          exact .inr hlt
      · exact .inr q
end
/-- what the drawn rows are -/
structure Drawn (rooms : List Nat) (laps : Nat) (rows : List (List Nat)) : Prop where
  ln : rows.length = rooms.length
  rl : ∀ i (h : i < rooms.length), (rows.getD i []).length = rooms[i]
  so : ∀ r ∈ rows, r.Pairwise (· ≤ ·)
  lt : ∀ r ∈ rows, ∀ h ∈ r, h < laps * rooms.length
  cn : cntsN rooms.length rows = rooms
def lstR (rows : List (List Nat)) : List D := rows.map fun r => D.lst true ((rI r).map .int)
end Pf

/-! Drawn patterns, draws. -/
namespace Pf
open PySem PySem.Spec PyProof.Rows L2
structure DealI (rooms : List Nat) (laps s : Nat) (L : List Nat) (rows : List (List Nat)) : Prop where
  ln : rows.length = s
  rl : ∀ i (h : i < rooms.length), i < s → (rows.getD i []).length = rooms[i]
  so : ∀ r ∈ rows, r.Pairwise (· ≤ ·)
  lt : ∀ r ∈ rows, ∀ h ∈ r, h < laps * rooms.length
  pm : (landF rooms.length 0 rows ++ L).Perm (leftF 0 rooms)
  ll : L.length = (rooms.drop s).sum
  lp : ∀ p ∈ L, p < rooms.length
def pB3 : Ss := .cons (.asg 8 (.lst .nil)) (.cons (.forr [6] (.rng (.cons (.idx (.fv 1) (.var 5)) .nil)) pB2) (.cons (.expr (.mut .append 7 (.cons (.blt .sorted (.cons (.var 8) .nil)) .nil))) .nil))
section
variable {G : Gb} {fin : En → Prop} {rt : D → En → Prop} {bk : En → Prop} {ex : Xp}
theorem deal_out {F : FSp} (hF : G.fns "_law_take" = some F) (sF : SpTake F) {R : D} {rooms : List Nat} {laps : Nat} (hR : RowD rooms R) (hb : ∀ r ∈ rooms, r ≤ 1000) (hs : rooms.sum ≤ 100000) (hz : rooms.length ≤ 1000) (hl : 0 < laps)
    (hf : ∀ (ds : List Int) (L : List Nat) (rows : List (List Nat)) (y5 y6 y8 y9 y10 : Option D), DealI rooms laps rooms.length L rows → fin [some (.lst true (ds.map .int)), some R, some (.int laps), some (.int rooms.length), some (.lst true ((rI L).map .int)), y5, y6, some (.lst true (lstR rows)), y8, y9, y10]) : ∀ (m s : Nat) (ds : List Int) (L : List Nat) (rows : List (List Nat)) (y5 y6 y8 y9 y10 : Option D), s + m = rooms.length → DealI rooms laps s L rows →
    frW [5] (fun e2 K => runs G pB3 e2 { nx := K, rt := rt, bk := bk, ct := K, ex := ex }) fin ((List.range' s m).map fun i : Nat => D.int (i : Int)) [some (.lst true (ds.map .int)), some R, some (.int laps), some (.int rooms.length), some (.lst true ((rI L).map .int)), y5, y6, some (.lst true (lstR rows)), y8, y9, y10]
  | 0, s, ds, L, rows, y5, y6, y8, y9, y10, hn, I => by
    obtain rfl : s = rooms.length := by omega
    exact hf _ _ _ _ _ _ _ _ I
  | m + 1, s, ds, L, rows, y5, y6, y8, y9, y10, hn, I => by
    have hlt : s < rooms.length := by omega
    have hk := hb rooms[s] (List.getElem_mem _)
    have hd : (rooms.drop s).sum = rooms[s] + (rooms.drop (s + 1)).sum := by rw [List.drop_eq_getElem_cons hlt, List.sum_cons]
    have hts := td_sum rooms s
    have hLl := I.ll
    rw [List.range'_succ, List.map_cons, frW]
    simp only [bindW, List.set_cons_succ, List.set_cons_zero]
    refine r_asg (as_lst asv_0) ?_
    refine r_for (ass_rg1 (n := rooms[s]) (by omega) (as_idx (d := .int (rooms[s] : Int)) (as_ff (d := R) rfl hR.fz) (as_v (d := .int (s : Int)) rfl rfl) hR.it (rI_at hlt))) ?_
    refine deal_in hF sF (s := s) (row := []) (by omega) hz hl rooms[s] 0 ds L _ y9 y10 (by omega) (by omega) (by simp; omega) I.lp fun ds' L' row' y6 y9 y10 q1 q2 q3 q4 q5 => ?_
    refine r_app (xs := lstR rows) (ws := lstR rows) rfl (as_sortedo (ns := rI row') rfl) rfl (by unfold lstR; rw [List.length_map, I.ln]; omega) ?_
    rw [runs_0, sort_isrt]
    have e1 : lstR rows ++ [.lst true ((rI (isrt row')).map .int)] = lstR (rows ++ [isrt row']) := by simp [lstR]
    simp only [List.set_cons_succ, List.set_cons_zero]
    rw [e1]
    rw [List.length_nil, Nat.zero_add] at q2
    rw [List.map_nil, List.nil_append] at q4
    refine deal_out hF sF hR hb hs hz hl hf m (s + 1) ds' L' (rows ++ [isrt row']) _ _ _ _ _ (by omega) ⟨?_, ?_, ?_, ?_, ?_, ?_, q3⟩
    · rw [List.length_append, List.length_singleton, I.ln]
    · intro i hi his
      by_cases h2 : i < s
      · have := I.rl i hi h2
        rw [List.getD_eq_getElem?_getD, List.getElem?_append_left (by rw [I.ln]; exact h2), ← List.getD_eq_getElem?_getD]
        exact this
      · obtain rfl : i = s := by omega
        rw [List.getD_eq_getElem?_getD, List.getElem?_append_right (by rw [I.ln]; omega), I.ln, Nat.sub_self]
        simp [isrt_len, q2]
    · intro r hr
      rcases List.mem_append.mp hr with hr | hr
      · exact I.so r hr
      · rw [List.mem_singleton] at hr
        subst hr
        exact isrt_pair _
    · intro r hr h hh
      rcases List.mem_append.mp hr with hr | hr
      · exact I.lt r hr h hh
      · rw [List.mem_singleton] at hr
        subst hr
        rcases q5 h ((isrt_perm row').mem_iff.mp hh) with z | z
        · cases z
        · exact z
    · rw [landF_app, I.ln, Nat.zero_add, List.append_assoc]
      refine List.Perm.trans (List.Perm.append_left _ ?_) I.pm
      refine List.Perm.trans (List.Perm.append_right _ ((isrt_perm row').map _)) q4
    · omega
end
def SpLawPat (F : FSp) : Prop := ∀ (ds : List Int) (rooms : List Nat) (R0 R : D) (laps : Nat), frz R0 = R → RowD rooms R → 0 < laps → 0 < rooms.length → rooms.length ≤ 1000 → (∀ r ∈ rooms, r ≤ 1000) → rooms.sum ≤ 100000 →
  ∀ (q : D → List (Option D) → Prop) (x : String → List D → List (Option D) → Prop), (∀ (rows : List (List Nat)) (ds' : List Int), Drawn rooms laps rows → q (.lst true (lstR rows)) [some (.lst true (ds'.map .int)), some R, some (.int laps)]) → F [.lst true (ds.map .int), R0, .int laps] q x
theorem L_lawpat {G : Gb} {F : FSp} (hF : G.fns "_law_take" = some F) (sF : SpTake F) : SpLawPat (semF G 11 3 [0, 1, 2] m__law_pattern) := by
  intro ds rooms R0 R laps h0 hR hl hn hz hb hs q x h
  have eb : m__law_pattern = .cons (.asg 3 (.blt .len (.cons (.fv 1) .nil))) (.cons (.asg 4 (.lst .nil)) (.cons (.forr [5] (.rng (.cons (.var 3) .nil)) (.cons (.forr [6] (.rng (.cons (.idx (.fv 1) (.var 5)) .nil)) pB1) .nil)) (.cons (.asg 7 (.lst .nil)) (.cons (.forr [5] (.rng (.cons (.var 3) .nil)) pB3) (.cons (.ret (.var 7)) .nil))))) := rfl
  refine ⟨rfl, ?_⟩
  rw [eb]
  refine r_asg (as_cast (as_len (as_fr (d := R0) rfl h0) hR.it) (by rw [List.length_map, rI_len])) ?_
  refine r_asg (as_lst asv_0) ?_
  refine r_for (ass_rg1 (n := rooms.length) (by omega) (as_v (d := .int (rooms.length : Int)) rfl rfl)) ?_
  refine fill_out (fin := _) hR hb hs (fun y5 y6 => ?_) rooms.length 0 none none (by omega)
  refine r_asg (as_lst asv_0) ?_
  refine r_for (ass_rg1 (n := rooms.length) (by omega) (as_v (d := .int (rooms.length : Int)) rfl rfl)) ?_
  refine deal_out (fin := _) hF sF hR hb hs hz hl (fun ds' L rows y5 y6 y8 y9 y10 I => ?_) rooms.length 0 ds (leftF 0 rooms) [] y5 y6 none none none (by omega) ⟨rfl, fun i _ hi => (by omega), fun r hr => (by cases hr), fun r hr => (by cases hr), (by simp [landF]), (by rw [left_len, List.drop_zero]), fun p hp => (by have := left_lt _ _ _ hp; omega)⟩
  have hL : L = [] := by
    have := I.ll
    rw [List.drop_length, List.sum_nil] at this
    exact List.eq_nil_of_length_eq_zero this
  subst hL
  refine r_retv rfl ?_
  rw [if_neg (by simp)]
  refine h rows ds' ⟨I.ln, fun i hi => I.rl i hi hi, I.so, I.lt, ?_⟩
  have pm := I.pm
  rw [List.append_nil] at pm
  unfold cntsN
  refine List.ext_getElem (by simp) fun i h1 h2 => ?_
  rw [List.getElem_map, List.getElem_range', land_F I.ln, pm.count_eq, left_count, if_pos (by omega)]
  rw [List.getD_eq_getElem?_getD, show 0 + 1 * i - 0 = i by omega, List.getElem?_eq_getElem h2, Option.getD_some]
/-! ### draws -/
theorem draw_big {G : Gb} {A at' od e : D} {f : Option D} {rt : D → En → Prop} {bk : En → Prop} {ex : Xp} {fin : En → Prop} {xs : List Int} : ∀ {l : List Int} {cell : Int} {t : Option D}, l.length + xs.length ≤ 10000 → (∀ (l' : List Int) cell t, l'.length ≤ l.length + xs.length → fin [some A, some (.lst true (l'.map .int)), some at', some (.int cell), some od, t, f]) →
    frW [5] (fun e2 K => runs (G) (.cons (.iff (.cmp .Gt (.var 3) (.int 0)) (.cons (.expr (.mut .append 1 (.cons (.bin .Mod (.blt .int1 (.cons (.var 3) .nil)) (.int 30)) .nil))) (.cons (.asg 3 (.bin .FloorDiv (.var 3) (.int 30))) .nil)) .nil) .nil) e2 { nx := K, rt := rt, bk := bk, ct := K, ex := ex }) fin (xs.map .int)
      [some A, some (.lst true (l.map .int)), some at', some (.int cell), some od, t, f] := by
  intro l cell t hl hf
  refine fr_inv (fun ds en => ∃ (l' : List Int) (cell : Int) (t : Option D), l'.length + ds.length ≤ l.length + xs.length ∧ (∃ xs' : List Int, ds = xs'.map .int) ∧ en = [some A, some (.lst true (l'.map .int)), some at', some (.int cell), some od, t, f]) ?_ ?_ _ _ ⟨l, cell, t, by simp, ⟨xs, rfl⟩, rfl⟩
  · rintro d ds en K ⟨l', c, t, hb, ⟨xs', e⟩, rfl⟩ hK
    cases xs' with
    | nil => cases e
    | cons x0 xs' =>
      cases e
      rw [List.length_cons] at hb
      simp only [bindW, List.set_cons_succ, List.set_cons_zero]
      by_cases hc : 0 < c
      · rw [runs_1]; simp [run, ev, evs, evr, evB, evTs, evO, evSrc, asR, rv, rvs, isS, bindW, setN, offs, takeA, putA, callW, bopW, cmpW, addW, subW, mulW, fdivW, modW, powW, intW, eqW, inW, isW, isNon, negW, ixW, slW, lenW, bltW, intsW, isLst, itms, isiT, isiB, mutW, fz, frz, fzs, frzs, fzs_append, dat, dats, deq, deqs, Pf.flat, back, hnd, uv, uvs, offO, sq_none, sortI_len, hc]
        rw [runs_c]; simp [run, ev, evs, evr, evB, evTs, evO, evSrc, asR, rv, rvs, isS, bindW, setN, offs, takeA, putA, callW, bopW, cmpW, addW, subW, mulW, fdivW, modW, powW, intW, eqW, inW, isW, isNon, negW, ixW, slW, lenW, bltW, intsW, isLst, itms, isiT, isiB, mutW, fz, frz, fzs, frzs, fzs_append, dat, dats, deq, deqs, Pf.flat, back, hnd, uv, uvs, offO, sq_none, sortI_len]
        refine ⟨by omega, ?_⟩
        rw [runs_1]; simp [run, ev, evs, evr, evB, evTs, evO, evSrc, asR, rv, rvs, isS, bindW, setN, offs, takeA, putA, callW, bopW, cmpW, addW, subW, mulW, fdivW, modW, powW, intW, eqW, inW, isW, isNon, negW, ixW, slW, lenW, bltW, intsW, isLst, itms, isiT, isiB, mutW, fz, frz, fzs, frzs, fzs_append, dat, dats, deq, deqs, Pf.flat, back, hnd, uv, uvs, offO, sq_none, sortI_len]
        refine ⟨by decide, ?_⟩
        have := hK [some A, some (.lst true ((l' ++ [c % 30]).map .int)), some at', some (.int (c / 30)), some od, some (.int x0), f] ⟨_, _, _, by rw [List.length_append, List.length_singleton]; omega, ⟨xs', rfl⟩, rfl⟩
        simpa using this
      · rw [runs_1]; simp [run, ev, evs, evr, evB, evTs, evO, evSrc, asR, rv, rvs, isS, bindW, setN, offs, takeA, putA, callW, bopW, cmpW, addW, subW, mulW, fdivW, modW, powW, intW, eqW, inW, isW, isNon, negW, ixW, slW, lenW, bltW, intsW, isLst, itms, isiT, isiB, mutW, fz, frz, fzs, frzs, fzs_append, dat, dats, deq, deqs, Pf.flat, back, hnd, uv, uvs, offO, sq_none, sortI_len, hc]
        rw [runs_0]
        exact hK _ ⟨l', c, _, by omega, ⟨xs', rfl⟩, rfl⟩
  · rintro en ⟨l', c, t, hb, _, rfl⟩
    exact hf _ _ _ (by simpa using hb)
theorem draw_small {G : Gb} {A od e : D} {at' : Int} {rt : D → En → Prop} {bk : En → Prop} {ex : Xp} {fin : En → Prop} {xs : List Int} : ∀ {l : List Int} {cell : D} {nb : Int} {t : Option D}, (0 ≤ nb ∧ nb < 1000003) → l.length + xs.length ≤ 10000 → (∀ (l' : List Int) nb t, l'.length ≤ l.length + xs.length → fin [some A, some (.lst true (l'.map .int)), some (.int at'), some cell, some od, t, nb]) →
    frW [5] (fun e2 K => runs (G) (.cons (.asg 6 (.bin .Mod (.blt .int1 (.cons (.bin .Add (.bin .Add (.bin .Add (.bin .Mult (.var 6) (.var 6)) (.bin .Mult (.var 5) (.int 613))) (.bin .Mult (.var 2) (.int 17))) (.int 1)) .nil)) (.int 1000003))) (.cons (.expr (.mut .append 1 (.cons (.var 6) .nil))) .nil)) e2 { nx := K, rt := rt, bk := bk, ct := K, ex := ex }) fin (xs.map .int)
      [some A, some (.lst true (l.map .int)), some (.int at'), some cell, some od, t, some (.int nb)] := by
  intro l cell nb t hnb hl hf
  refine fr_inv (fun ds en => ∃ (l' : List Int) (nb : Int) (t : Option D), (0 ≤ nb ∧ nb < 1000003) ∧ l'.length + ds.length ≤ l.length + xs.length ∧ (∃ xs' : List Int, ds = xs'.map .int) ∧ en = [some A, some (.lst true (l'.map .int)), some (.int at'), some cell, some od, t, some (.int nb)]) ?_ ?_ _ _ ⟨l, nb, t, hnb, by simp, ⟨xs, rfl⟩, rfl⟩
  · rintro d ds en K ⟨l', c, t, hn, hb, ⟨xs', e⟩, rfl⟩ hK
    cases xs' with
    | nil => cases e
    | cons x0 xs' =>
      cases e
      rw [List.length_cons] at hb
      simp only [bindW, List.set_cons_succ, List.set_cons_zero]
      rw [runs_c]; simp [run, ev, evs, evr, evB, evTs, evO, evSrc, asR, rv, rvs, isS, bindW, setN, offs, takeA, putA, callW, bopW, cmpW, addW, subW, mulW, fdivW, modW, powW, intW, eqW, inW, isW, isNon, negW, ixW, slW, lenW, bltW, intsW, isLst, itms, isiT, isiB, mutW, fz, frz, fzs, frzs, fzs_append, dat, dats, deq, deqs, Pf.flat, back, hnd, uv, uvs, offO, sq_none, sortI_len]
      refine ⟨.inl ⟨by omega, by omega⟩, ?_⟩
      rw [runs_1]; simp [run, ev, evs, evr, evB, evTs, evO, evSrc, asR, rv, rvs, isS, bindW, setN, offs, takeA, putA, callW, bopW, cmpW, addW, subW, mulW, fdivW, modW, powW, intW, eqW, inW, isW, isNon, negW, ixW, slW, lenW, bltW, intsW, isLst, itms, isiT, isiB, mutW, fz, frz, fzs, frzs, fzs_append, dat, dats, deq, deqs, Pf.flat, back, hnd, uv, uvs, offO, sq_none, sortI_len]
      refine ⟨by omega, ?_⟩
      have := hK [some A, some (.lst true ((l' ++ [(c * c + x0 * 613 + at' * 17 + 1) % 1000003]).map .int)), some (.int at'), some cell, some od, some (.int x0), some (.int ((c * c + x0 * 613 + at' * 17 + 1) % 1000003))] ⟨_, _, _, ⟨Int.emod_nonneg _ (by decide), Int.emod_lt_of_pos _ (by decide)⟩, by rw [List.length_append, List.length_singleton]; omega, ⟨xs', rfl⟩, rfl⟩
      simpa using this
  · rintro en ⟨l', c, t, _, hb, _, rfl⟩
    exact hf _ _ _ (by simpa using hb)
theorem draw_tail {G : Gb} {A : D} {l : List Int} {j c od : Int} {f g : Option D} {K : En → Prop} {rt : D → En → Prop} {bk : En → Prop} {ex : Xp} (hl : l.length ≤ 4000) (hK : ∀ (l' : List Int) (a b c d e : Option D), l'.length ≤ l.length + 48 → K [some A, some (.lst true (l'.map .int)), a, b, c, d, e]) :
    runs (G) (.cons (.iff (.cmp .GtE (.var 3) (.bin .Pow (.int 10) (.int 18))) (.cons (.forr [5] (.rng (.cons (.int 48) .nil)) (.cons (.iff (.cmp .Gt (.var 3) (.int 0)) (.cons (.expr (.mut .append 1 (.cons (.bin .Mod (.blt .int1 (.cons (.var 3) .nil)) (.int 30)) .nil))) (.cons (.asg 3 (.bin .FloorDiv (.var 3) (.int 30))) .nil)) .nil) .nil)) .nil) (.cons (.asg 6 (.bin .Mod (.blt .int1 (.cons (.bin .Add (.bin .Add (.bin .Add (.bin .Mult (.var 3) (.int 7919)) (.bin .Mult (.var 2) (.int 104729))) (.bin .Mult (.var 4) (.int 31))) (.int 5)) .nil)) (.int 999983))) (.cons (.forr [5] (.rng (.cons (.int 6) .nil)) (.cons (.asg 6 (.bin .Mod (.blt .int1 (.cons (.bin .Add (.bin .Add (.bin .Add (.bin .Mult (.var 6) (.var 6)) (.bin .Mult (.var 5) (.int 613))) (.bin .Mult (.var 2) (.int 17))) (.int 1)) .nil)) (.int 1000003))) (.cons (.expr (.mut .append 1 (.cons (.var 6) .nil))) .nil))) .nil))) .nil) [some A, some (.lst true (l.map .int)), some (.int j), some (.int c), some (.int od), f, g] { nx := K, rt := rt, bk := bk, ct := K, ex := ex } := by
  by_cases hb : 1000000000000000000 ≤ c
  · rw [runs_1]; simp [run, ev, evs, evr, evB, evTs, evO, evSrc, asR, rv, rvs, isS, bindW, setN, offs, takeA, putA, callW, bopW, cmpW, addW, subW, mulW, fdivW, modW, powW, intW, eqW, inW, isW, isNon, negW, ixW, slW, lenW, bltW, intsW, isLst, itms, isiT, isiB, mutW, fz, frz, fzs, frzs, fzs_append, dat, dats, deq, deqs, Pf.flat, back, hnd, uv, uvs, offO, sq_none, sortI_len, hb]
    rw [runs_1, run_forr]; simp [run, ev, evs, evr, evB, evTs, evO, evSrc, asR, rv, rvs, isS, bindW, setN, offs, takeA, putA, callW, bopW, cmpW, addW, subW, mulW, fdivW, modW, powW, intW, eqW, inW, isW, isNon, negW, ixW, slW, lenW, bltW, intsW, isLst, itms, isiT, isiB, mutW, fz, frz, fzs, frzs, fzs_append, dat, dats, deq, deqs, Pf.flat, back, hnd, uv, uvs, offO, sq_none, sortI_len]
    have e := rg_map 48
    rw [show ((48 : Nat) : Int) = 48 from rfl] at e
    rw [e]
    refine draw_big (e := .non) (by simp; omega) fun l' cell t hb' => hK _ _ _ _ _ _ (by simpa using hb')
  · rw [runs_1]; simp [run, ev, evs, evr, evB, evTs, evO, evSrc, asR, rv, rvs, isS, bindW, setN, offs, takeA, putA, callW, bopW, cmpW, addW, subW, mulW, fdivW, modW, powW, intW, eqW, inW, isW, isNon, negW, ixW, slW, lenW, bltW, intsW, isLst, itms, isiT, isiB, mutW, fz, frz, fzs, frzs, fzs_append, dat, dats, deq, deqs, Pf.flat, back, hnd, uv, uvs, offO, sq_none, sortI_len, hb]
    rw [runs_c]; simp [run, ev, evs, evr, evB, evTs, evO, evSrc, asR, rv, rvs, isS, bindW, setN, offs, takeA, putA, callW, bopW, cmpW, addW, subW, mulW, fdivW, modW, powW, intW, eqW, inW, isW, isNon, negW, ixW, slW, lenW, bltW, intsW, isLst, itms, isiT, isiB, mutW, fz, frz, fzs, frzs, fzs_append, dat, dats, deq, deqs, Pf.flat, back, hnd, uv, uvs, offO, sq_none, sortI_len]
    rw [runs_1, run_forr]; simp [run, ev, evs, evr, evB, evTs, evO, evSrc, asR, rv, rvs, isS, bindW, setN, offs, takeA, putA, callW, bopW, cmpW, addW, subW, mulW, fdivW, modW, powW, intW, eqW, inW, isW, isNon, negW, ixW, slW, lenW, bltW, intsW, isLst, itms, isiT, isiB, mutW, fz, frz, fzs, frzs, fzs_append, dat, dats, deq, deqs, Pf.flat, back, hnd, uv, uvs, offO, sq_none, sortI_len]
    have e := rg_map 6
    rw [show ((6 : Nat) : Int) = 6 from rfl] at e
    rw [e]
    have h1 := Int.emod_nonneg (c * 7919 + j * 104729 + od * 31 + 5) (b := 999983) (by decide)
    have h2 := Int.emod_lt_of_pos (c * 7919 + j * 104729 + od * 31 + 5) (b := 999983) (by decide)
    refine draw_small (e := .non) ⟨h1, by omega⟩ (by simp; omega) fun l' nb t hb' => hK _ _ _ _ _ _ (by have := hb'; simp at this; omega)
def SpDraws (F : FSp) : Prop := ∀ (ns : List Int), ns.length ≤ 63 → ∀ (q : D → List (Option D) → Prop) (x : String → List D → List (Option D) → Prop), (∀ l : List Int, q (.lst true (l.map .int)) [some (.lst false (ns.map .int))]) → F [.lst false (ns.map .int)] q x
theorem L_draws {G : Gb} : SpDraws (semF G 7 1 [0] m__law_draws) := by
  intro ns hl q x h
  unfold semF m__law_draws
  refine ⟨rfl, ?_⟩
  have hl' : ¬ ((63 : Int) < ns.length) := by omega
  rw [runs_c]; simp [run, ev, evs, evr, evB, evTs, evO, evSrc, asR, rv, rvs, isS, bindW, setN, offs, takeA, putA, callW, bopW, cmpW, addW, subW, mulW, fdivW, modW, powW, intW, eqW, inW, isW, isNon, negW, ixW, slW, lenW, bltW, intsW, isLst, itms, isiT, isiB, mutW, fz, frz, fzs, frzs, fzs_append, dat, dats, deq, deqs, Pf.flat, back, hnd, uv, uvs, offO, sq_none, sortI_len]
  rw [runs_c, run_forr]; simp [run, ev, evs, evr, evB, evTs, evO, evSrc, asR, rv, rvs, isS, bindW, setN, offs, takeA, putA, callW, bopW, cmpW, addW, subW, mulW, fdivW, modW, powW, intW, eqW, inW, isW, isNon, negW, ixW, slW, lenW, bltW, intsW, isLst, itms, isiT, isiB, mutW, fz, frz, fzs, frzs, fzs_append, dat, dats, deq, deqs, Pf.flat, back, hnd, uv, uvs, offO, sq_none, sortI_len, hl']
  refine ⟨by omega, ?_⟩
  rw [rg_map]
  refine fr_inv (fun ds en => ∃ (xs l : List Int) (a b c d e : Option D), ds = xs.map .int ∧ (∀ x ∈ xs, ∃ i : Nat, x = i ∧ i < ns.length) ∧ l.length + 48 * xs.length ≤ 3024 ∧ en = [some (.lst false (ns.map .int)), some (.lst true (l.map .int)), a, b, c, d, e]) ?_ ?_ _ _ ⟨_, [], none, none, none, none, none, rfl, fun x hx => ?_, by simp; omega, rfl⟩
  · rintro d ds en K ⟨xs, l, a, b, c, d', e, ed, hx, hb, rfl⟩ hK
    cases xs with
    | nil => cases ed
    | cons x0 xs =>
      cases ed
      obtain ⟨j, rfl, hj⟩ := hx _ List.mem_cons_self
      rw [List.length_cons] at hb
      simp only [bindW, List.set_cons_succ, List.set_cons_zero]
      rw [runs_c]; simp [run, ev, evs, evr, evB, evTs, evO, evSrc, asR, rv, rvs, isS, bindW, setN, offs, takeA, putA, callW, bopW, cmpW, addW, subW, mulW, fdivW, modW, powW, intW, eqW, inW, isW, isNon, negW, ixW, slW, lenW, bltW, intsW, isLst, itms, isiT, isiB, mutW, fz, frz, fzs, frzs, fzs_append, dat, dats, deq, deqs, Pf.flat, back, hnd, uv, uvs, offO, sq_none, sortI_len, atI_int hj]
      rw [runs_c]; simp [run, ev, evs, evr, evB, evTs, evO, evSrc, asR, rv, rvs, isS, bindW, setN, offs, takeA, putA, callW, bopW, cmpW, addW, subW, mulW, fdivW, modW, powW, intW, eqW, inW, isW, isNon, negW, ixW, slW, lenW, bltW, intsW, isLst, itms, isiT, isiB, mutW, fz, frz, fzs, frzs, fzs_append, dat, dats, deq, deqs, Pf.flat, back, hnd, uv, uvs, offO, sq_none, sortI_len]
      by_cases hneg : ns[j] < 0
      · rw [runs_c]; simp [run, ev, evs, evr, evB, evTs, evO, evSrc, asR, rv, rvs, isS, bindW, setN, offs, takeA, putA, callW, bopW, cmpW, addW, subW, mulW, fdivW, modW, powW, intW, eqW, inW, isW, isNon, negW, ixW, slW, lenW, bltW, intsW, isLst, itms, isiT, isiB, mutW, fz, frz, fzs, frzs, fzs_append, dat, dats, deq, deqs, Pf.flat, back, hnd, uv, uvs, offO, sq_none, sortI_len, hneg]
        rw [runs_c]; simp [run, ev, evs, evr, evB, evTs, evO, evSrc, asR, rv, rvs, isS, bindW, setN, offs, takeA, putA, callW, bopW, cmpW, addW, subW, mulW, fdivW, modW, powW, intW, eqW, inW, isW, isNon, negW, ixW, slW, lenW, bltW, intsW, isLst, itms, isiT, isiB, mutW, fz, frz, fzs, frzs, fzs_append, dat, dats, deq, deqs, Pf.flat, back, hnd, uv, uvs, offO, sq_none, sortI_len]
        rw [runs_1]; simp [run, ev, evs, evr, evB, evTs, evO, evSrc, asR, rv, rvs, isS, bindW, setN, offs, takeA, putA, callW, bopW, cmpW, addW, subW, mulW, fdivW, modW, powW, intW, eqW, inW, isW, isNon, negW, ixW, slW, lenW, bltW, intsW, isLst, itms, isiT, isiB, mutW, fz, frz, fzs, frzs, fzs_append, dat, dats, deq, deqs, Pf.flat, back, hnd, uv, uvs, offO, sq_none, sortI_len]
        exact draw_tail (by omega) fun l' a b c d e hb' => hK _ ⟨xs, l', a, b, c, d, e, rfl, fun x hx' => hx x (List.mem_cons_of_mem _ hx'), by omega, rfl⟩
      · rw [runs_c]; simp [run, ev, evs, evr, evB, evTs, evO, evSrc, asR, rv, rvs, isS, bindW, setN, offs, takeA, putA, callW, bopW, cmpW, addW, subW, mulW, fdivW, modW, powW, intW, eqW, inW, isW, isNon, negW, ixW, slW, lenW, bltW, intsW, isLst, itms, isiT, isiB, mutW, fz, frz, fzs, frzs, fzs_append, dat, dats, deq, deqs, Pf.flat, back, hnd, uv, uvs, offO, sq_none, sortI_len, hneg]
        rw [runs_0]; dsimp only
        exact draw_tail (by omega) fun l' a b c d e hb' => hK _ ⟨xs, l', a, b, c, d, e, rfl, fun x hx' => hx x (List.mem_cons_of_mem _ hx'), by omega, rfl⟩
  · rintro en ⟨xs, l, a, b, c, d', e, ed, _, _, rfl⟩
    rw [runs_c]; simp [run, ev, evs, evr, evB, evTs, evO, evSrc, asR, rv, rvs, isS, bindW, setN, offs, takeA, putA, callW, bopW, cmpW, addW, subW, mulW, fdivW, modW, powW, intW, eqW, inW, isW, isNon, negW, ixW, slW, lenW, bltW, intsW, isLst, itms, isiT, isiB, mutW, fz, frz, fzs, frzs, fzs_append, dat, dats, deq, deqs, Pf.flat, back, hnd, uv, uvs, offO, sq_none, sortI_len]
    rw [runs_1]; simp [run, ev, evs, evr, evB, evTs, evO, evSrc, asR, rv, rvs, isS, bindW, setN, offs, takeA, putA, callW, bopW, cmpW, addW, subW, mulW, fdivW, modW, powW, intW, eqW, inW, isW, isNon, negW, ixW, slW, lenW, bltW, intsW, isLst, itms, isiT, isiB, mutW, fz, frz, fzs, frzs, fzs_append, dat, dats, deq, deqs, Pf.flat, back, hnd, uv, uvs, offO, sq_none, sortI_len]
    have := h l.reverse
    simpa using this
  · obtain ⟨i, hi, rfl⟩ := List.mem_map.mp hx
    exact ⟨i, rfl, by simpa using hi⟩
end Pf

/-! More rules. -/
namespace Pf
open PySem PySem.Spec PyProof.Rows L2
section
variable {G : Gb} {en en1 en2 : En}
theorem as_cmpR {op : CmpOp} {a : E} {j : Nat} {x y d : D} (ha : As G a x en en1) (hb : (en1[j]?).join = some y) (hf : fz y = false) (h : ∀ k : D → Prop, k d → cmpW op x y k) : As G (.cmp op a (.var j)) d en en1 := .of rfl fun Q X hq => by
  rw [ev_cmp]
  refine ha.r _ _ ?_
  rw [asR_vo hb hf]
  simp only [rv, hb]
  exact h _ hq
theorem as_binoo {op : Operator} {i j : Nat} {x y d : D} (ha : (en[i]?).join = some x) (hfa : fz x = false) (hb : (en[j]?).join = some y) (hf : fz y = false) (h : ∀ k : D → Prop, k d → bopW op x y k) : As G (.bin op (.var i) (.var j)) d en en := .of rfl fun Q X hq => by
  rw [ev_bin, asR_vo ha hfa, asR_vo hb hf]
  simp only [rv, ha, hb]
  exact h _ hq
theorem as_neT {a b : E} {x y : List Int} (ha : As G a (.tup (x.map .int)) en en1) (hb : As G b (.tup (y.map .int)) en1 en2) : As G (.cmp .NotEq a b) (.bl (!decide (x = y))) en en2 := as_cmp ha hb fun k h => by
  simp only [cmpW, eqW, dat, deq, dats_ints, deqs_ints, Bool.true_xor]
  exact ⟨⟨trivial, trivial⟩, h⟩
theorem as_isc {a : E} {c : String} {o : Bool} {c' : Str} {ns : List Str} {fs : List D} (hI : G.isc (Str.ofString c) = true) (ha : As G a (.ins o c' ns fs) en en1) (hc : G.isc c' = true) : As G (.isc a c) (.bl (c' == Str.ofString c)) en en1 := .of rfl fun Q X hq => by
  rw [ev_isc]
  refine ⟨hI, ha.r _ _ ?_⟩
  exact ⟨hc, hq⟩
end
section
variable {G : Gb} {en en1 en2 en3 : En} {P : Pt} {ss : Ss}
/-- the call lets an error out -/
theorem ev_callX {f : String} {F : FSp} {es : Es} {rs : List R} {ds fs : List D} {c : String} {us : List (Option D)} {Q : D → En → Prop} {X : Xp} (hF : G.fns f = some F) (hr : Asr G es rs en en1) (ht : takeA en1 rs = some (ds, en2)) (hs : Exc F ds c fs us) (hp : putA en2 rs us = en3) (k : X c fs en3) : ev G (.call f es) en Q X := by
  rw [ev_call]
  refine hr _ _ ?_
  rw [hF, callW_some ht]
  refine hs _ _ ?_
  rw [hp]
  exact k
theorem r_asgX {i : Nat} {f : String} {F : FSp} {es : Es} {rs : List R} {ds fs : List D} {c : String} {us : List (Option D)} (hF : G.fns f = some F) (hr : Asr G es rs en en1) (ht : takeA en1 rs = some (ds, en2)) (hs : Exc F ds c fs us) (hp : putA en2 rs us = en3) (k : P.ex c fs en3) : runs G (.cons (.asg i (.call f es)) ss) en P := by
  rw [runs_k, run_asg]
  exact ev_callX hF hr ht hs hp k
theorem r_expX {f : String} {F : FSp} {es : Es} {rs : List R} {ds fs : List D} {c : String} {us : List (Option D)} (hF : G.fns f = some F) (hr : Asr G es rs en en1) (ht : takeA en1 rs = some (ds, en2)) (hs : Exc F ds c fs us) (hp : putA en2 rs us = en3) (k : P.ex c fs en3) : runs G (.cons (.expr (.call f es)) ss) en P := by
  rw [runs_k, run_expr]
  exact ev_callX hF hr ht hs hp k
theorem r_rem {i : Nat} {e : E} {n : Int} {ns : List Int} {ws : List D} (hw : (en[i]?).join = some (.lst true ws)) (h : As G e (.int n) en en1) (hi : (en1[i]?).join = some (.lst true (ns.map .int))) (hm : n ∈ ns) (k : runs G ss (en1.set i (some (.lst true ((ns.erase n).map .int)))) P) : runs G (.cons (.expr (.mut .remove i (.cons e .nil))) ss) en P := by
  rw [runs_k, run_expr, ev_mut]
  refine ⟨⟨ws, hw⟩, ?_⟩
  rw [evs_c]
  refine h.e _ _ ?_
  rw [evs_0]
  simp only [hi, mutW]
  exact ⟨ns, rfl, hm, k⟩
/-- xs[k] = ys, ys a name's own list -/
theorem r_putv {i iv : Nat} {kx : E} {v : D} {xs ws : List D} {z : Int} {j : Nat} (hv : (en[iv]?).join = some v) (hf : fz v = false) (hw : ((en.set iv (some (frz v)))[i]?).join = some (.lst true ws)) (hk : As G kx (.int z) (en.set iv (some (frz v))) en2) (hi : (en2[i]?).join = some (.lst true xs)) (hj : ixN xs.length z = some j) (k : runs G ss (en2.set i (some (.lst true (xs.set j (frz v))))) P) : runs G (.cons (.put i kx (.var iv)) ss) en P := by
  rw [runs_k, run, ev_vo hv hf]
  refine ⟨⟨ws, hw⟩, hk.e _ _ ?_⟩
  simp only [hi]
  exact ⟨j, hj, k⟩
end
theorem ex_min : ∀ L : List Nat, 0 < L.length → ∃ m ∈ L, ∀ y ∈ L, m ≤ y
  | [], h => by cases h
  | [a], _ => ⟨a, List.mem_cons_self, fun y hy => by rw [List.mem_singleton] at hy; omega⟩
  | a :: b :: L, _ => by
    obtain ⟨m, h1, h2⟩ := ex_min (b :: L) (by simp)
    by_cases h : a ≤ m
    · refine ⟨a, List.mem_cons_self, fun y hy => ?_⟩
      rcases List.mem_cons.mp hy with rfl | hy
      · exact Nat.le_refl _
      · exact Nat.le_trans h (h2 y hy)
    · refine ⟨m, List.mem_cons_of_mem _ h1, fun y hy => ?_⟩
      rcases List.mem_cons.mp hy with rfl | hy
      · omega
      · exact h2 y hy
theorem as_minL {G : Gb} {a : E} {x : D} {hs : List Nat} {m : Nat} {en en1 : En} (ha : As G a x en en1) (hI : itms x = some ((rI hs).map .int)) (hm : m ∈ hs) (hle : ∀ y ∈ hs, m ≤ y) : As G (.blt .minL (.cons a .nil)) (.int (m : Int)) en en1 := as_blt1 ha fun k hk => ⟨_, hI, _, ⟨List.mem_map.mpr ⟨_, hm, rfl⟩, fun y hy => by
  obtain ⟨y', hy', rfl⟩ := List.mem_map.mp hy
  have := hle y' hy'
  omega⟩, hk⟩
theorem r_tri {G : Gb} {en : En} {P : Pt} {ss b : Ss} {hs : Hs} (h : runs G b en { nx := fun e => runs G ss e P, rt := P.rt, bk := P.bk, ct := P.ct, ex := fun c fs e1 => hnd G hs c fs e1 { P with nx := fun e => runs G ss e P } }) : runs G (.cons (.tri b hs) ss) en P := by
  rw [runs_k, run]
  exact h
theorem as_eqS {G : Gb} {a b : E} {x y : Str} {en en1 en2 : En} (hx : PyData.strOk x = true) (hy : PyData.strOk y = true) (ha : As G a (.str x) en en1) (hb : As G b (.str y) en1 en2) : As G (.cmp .Eq a b) (.bl (x == y)) en en2 := as_cmp ha hb fun k h => ⟨⟨hx, hy⟩, by rw [Bool.false_xor, deq]; exact h⟩
theorem as_neS {G : Gb} {a b : E} {x y : Str} {en en1 en2 : En} (hx : PyData.strOk x = true) (hy : PyData.strOk y = true) (ha : As G a (.str x) en en1) (hb : As G b (.str y) en1 en2) : As G (.cmp .NotEq a b) (.bl (!(x == y))) en en2 := as_cmp ha hb fun k h => ⟨⟨hx, hy⟩, by rw [Bool.true_xor, deq]; exact h⟩
theorem as_inI {G : Gb} {a b : E} {x : Int} {y : D} {ns : List Int} {en en1 en2 : En} (ha : As G a (.int x) en en1) (hb : As G b y en1 en2) (hI : itms y = some (ns.map .int)) : As G (.cmp .In a b) (.bl (ns.contains x)) en en2 := as_cmp ha hb fun k h => by
  simp only [cmpW, inW, hI]
  refine ⟨⟨rfl, ?_⟩, ?_⟩
  · rw [List.all_eq_true]
    intro d hd
    obtain ⟨z, _, rfl⟩ := List.mem_map.mp hd
    rfl
  · rw [any_deq, Bool.false_xor]
    exact h
theorem rI_row (hs : List Nat) : RowD hs (.lst false ((rI hs).map .int)) := ⟨rfl, fz_lst_ints _, rfl⟩
/-! ### outcomes that are not told one by one -/
structure AsP (G : Gb) (e : E) (Φ : D → En → Prop) (en : En) : Prop where
  r : ∀ (Q : R → En → Prop) (X : Xp), (∀ d e1, Φ d e1 → Q (.v d) e1) → asR e (ev G e) en Q X
  e : ∀ (Q : D → En → Prop) (X : Xp), (∀ d e1, Φ d e1 → Q d e1) → ev G e en Q X
section
variable {G : Gb} {en en1 en2 en3 : En} {P : Pt} {ss : Ss} {Φ Ψ : D → En → Prop}
theorem AsP.of {e : E} (hn : noVar e = true) (h : ∀ (Q : D → En → Prop) (X : Xp), (∀ d e1, Φ d e1 → Q d e1) → ev G e en Q X) : AsP G e Φ en := ⟨fun Q X hq => by rw [asR_n hn]; exact h _ _ hq, h⟩
theorem AsP.imp {e : E} (h : AsP G e Φ en) (hi : ∀ d e1, Φ d e1 → Ψ d e1) : AsP G e Ψ en := ⟨fun Q X hq => h.r Q X fun d e1 hd => hq d e1 (hi d e1 hd), fun Q X hq => h.e Q X fun d e1 hd => hq d e1 (hi d e1 hd)⟩
theorem asp_as {e : E} {d : D} (h : As G e d en en1) (hp : Φ d en1) : AsP G e Φ en := ⟨fun Q X hq => h.r Q X (hq d en1 hp), fun Q X hq => h.e Q X (hq d en1 hp)⟩
theorem r_asgP {i : Nat} {e : E} (h : AsP G e Φ en) (k : ∀ d e1, Φ d e1 → runs G ss (e1.set i (some d)) P) : runs G (.cons (.asg i e) ss) en P := by
  rw [runs_k, run_asg]
  exact h.e _ _ k
theorem r_retP {e : E} (hn : noVar e = true) (h : AsP G e Φ en) (k : ∀ d e1, Φ d e1 → P.rt d e1) : runs G (.cons (.ret e) ss) en P := by
  rw [runs_k, run_ret hn]
  exact h.e _ _ k
theorem asp_call {f : String} {F : FSp} {es : Es} {rs : List R} {ds : List D} {Ω : D → List (Option D) → Prop} (hF : G.fns f = some F) (hr : Asr G es rs en en1) (ht : takeA en1 rs = some (ds, en2)) (hs : ∀ (q : D → List (Option D) → Prop) (x : String → List D → List (Option D) → Prop), (∀ d us, Ω d us → q d us) → F ds q x) (hp : ∀ d us, Ω d us → Φ d (putA en2 rs us)) : AsP G (.call f es) Φ en := .of rfl fun Q X hq => by
  rw [ev_call]
  refine hr _ _ ?_
  rw [hF, callW_some ht]
  exact hs _ _ fun d us h => hq _ _ (hp d us h)
/-- a new instance of two arguments, the second one not told -/
theorem asp_new2 {c : String} {F : FSp} {a b : E} {d : D} (hF : G.mth c "__init__" = some F) (ha : As G a d en en1) (hb : AsP G b Ψ en1) (hs : ∀ d2 e2, Ψ d2 e2 → ∃ r us, Ret F [.ins true (Str.ofString c) [] [], d, d2] .non (some r :: us) ∧ Φ r e2) : AsP G (.new c (.cons a (.cons b .nil))) Φ en := .of rfl fun Q X hq => by
  rw [ev_new, hF]
  refine ⟨rfl, ?_⟩
  rw [evr_c]
  refine ha.r _ _ ?_
  rw [evr_c]
  refine hb.r _ _ fun d2 e2 h2 => ?_
  rw [evr_0]
  obtain ⟨r, us, h3, h4⟩ := hs d2 e2 h2
  simp only [takeA]
  refine h3 _ _ ⟨rfl, r, rfl, ?_⟩
  rw [List.tail_cons]
  rcases us with _ | ⟨u, _ | ⟨u2, _ | ⟨u3, us⟩⟩⟩ <;> exact hq _ _ h4
theorem asp_bopN {c t : Bool} {a b : E} {es : Es} (hc : t = c) (ha : AsP G a Ψ en) (hb : ∀ d e1, Ψ d e1 → d = .bl t ∧ AsP G (.bop c (.cons b es)) Φ e1) : AsP G (.bop c (.cons a (.cons b es))) Φ en := .of rfl fun Q X hq => by
  rw [ev_bopc]
  refine ha.e _ _ fun d e1 hd => ?_
  obtain ⟨rfl, h2⟩ := hb d e1 hd
  refine ⟨_, rfl, ?_⟩
  rw [if_pos hc]
  exact h2.e _ _ hq
theorem asp_map {j : Nat} {a elt : E} (ha : AsP G a Ψ en) (h : ∀ d e1, Ψ d e1 → ∃ (α : Type) (xs : List α) (dm val : α → D) (ys : List D), itms d = some ys ∧ frzs ys = xs.map dm ∧ xs.length ≤ 100000 ∧ (∀ b ∈ xs, As G elt (val b) ((e1.set j none).set j (some (dm b))) ((e1.set j none).set j (some (dm b)))) ∧ Φ (.lst true (xs.map val)) (e1.set j none)) : AsP G (.lc [j] (.it a) .nil elt) Φ en := .of rfl fun Q X hq => by
  rw [ev_lc, src_it]
  refine ha.e _ _ fun d e1 hd => ?_
  obtain ⟨α, xs, dm, val, ys, h1, h2, h3, h4, h5⟩ := h d e1 hd
  refine ⟨ys, h1, ?_⟩
  rw [h2]
  simp only [offs]
  refine lc_all dm val (fun a ha Kn Ky hy => ?_) (by omega) (hq _ _ h5)
  simp only [bindW, evTs, if_true]
  refine (h4 a ha).e _ _ ?_
  simp only [offs, List.set_set]
  exact hy
end
/-! ### a list of draws -/
def takesI : List Int → Int → Nat → List Int
  | _, _, 0 => []
  | ds, m, n + 1 => takeI ds m :: takesI ds.dropLast m n
def dropsI : List Int → Nat → List Int
  | ds, 0 => ds
  | ds, n + 1 => dropsI ds.dropLast n
theorem takes_nat {m : Int} (hm : 0 < m) : ∀ (n : Nat) (ds : List Int), ∃ L : List Nat, takesI ds m n = rI L ∧ L.length = n ∧ ∀ k ∈ L, (k : Int) < m
  | 0, _ => ⟨[], rfl, rfl, fun k hk => (by cases hk)⟩
  | n + 1, ds => by
    obtain ⟨L, h1, h2, h3⟩ := takes_nat hm n ds.dropLast
    obtain ⟨k, e, hk⟩ := take_nat ds hm
    refine ⟨k :: L, ?_, by rw [List.length_cons, h2], fun y hy => ?_⟩
    · rw [takesI, h1, e]
      rfl
    · rcases List.mem_cons.mp hy with rfl | hy
      · exact hk
      · exact h3 y hy
section
variable {G : Gb} {F : FSp} {i j : Nat} {e : E} {m : Int}
theorem lc_takes {X : Xp} {X' : Xp} {en : En} {Q : D → En → Prop} (hF : G.fns "_law_take" = some F) (sF : SpTake F) (hm : 0 < m) (hij : i ≠ j) (hi : i < en.length) (he : ∀ (ds : List Int) (d : D), As G e (.int m) ((en.set i (some (.lst true (ds.map .int)))).set j (some d)) ((en.set i (some (.lst true (ds.map .int)))).set j (some d))) : ∀ (L : List D) (ds : List Int) (acc : List D), acc.length + L.length ≤ 16777216 → Q (.lst true (acc ++ (takesI ds m L.length).map .int)) ((en.set i (some (.lst true ((dropsI ds L.length).map .int)))).set j none) → lcW [j] [j] (fun e2 K => evTs G .nil e2 K X) (fun e2 K => ev G (.call "_law_take" (.cons (.var i) (.cons e .nil))) e2 K X') L ((en.set i (some (.lst true (ds.map .int)))).set j none) acc Q
  | [], ds, acc, _, h => by
    simp only [takesI, List.length_nil, List.map_nil, List.append_nil, dropsI] at h
    exact h
  | d :: L, ds, acc, hl, h => by
    rw [List.length_cons] at hl
    rw [lcW]
    simp only [bindW, evTs, if_true, List.set_set]
    have h2 : ((en.set i (some (.lst true (ds.map D.int)))).set j (some d)).set i (some (.lst true (ds.dropLast.map .int))) = (en.set i (some (.lst true (ds.dropLast.map .int)))).set j (some d) := by
      rw [List.set_comm _ _ hij.symm, List.set_set]
    have h1 : (((en.set i (some (.lst true (ds.map D.int)))).set j (some d))[i]?).join = some (.lst true (ds.map .int)) := by
      rw [List.getElem?_set_ne hij.symm, List.getElem?_set_self hi]
      rfl
    refine (as_take0 hF sF hm h1 (he ds d) h2).e _ _ ⟨by omega, ?_⟩
    simp only [offs, List.set_set]
    refine lc_takes (X := X) hF sF hm hij hi he L ds.dropLast (acc ++ [.int (takeI ds m)]) (by rw [List.length_append, List.length_singleton]; omega) ?_
    rw [List.append_assoc]
    exact h
/-- [_law_take(draws, e) for _ in s] -/
theorem as_takes {s : Src} {en en1 en2 : En} {L : List D} {ds : List Int} (hF : G.fns "_law_take" = some F) (sF : SpTake F) (hm : 0 < m) (hij : i ≠ j) (hs : Ass G s L en (en1.set i (some (.lst true (ds.map .int))))) (hi : i < en1.length) (he : ∀ (ds : List Int) (d : D), As G e (.int m) ((en1.set i (some (.lst true (ds.map .int)))).set j (some d)) ((en1.set i (some (.lst true (ds.map .int)))).set j (some d))) (hl : L.length ≤ 100000) (h2 : (en1.set i (some (.lst true ((dropsI ds L.length).map .int)))).set j none = en2) : As G (.lc [j] s .nil (.call "_law_take" (.cons (.var i) (.cons e .nil)))) (.lst true ((takesI ds m L.length).map .int)) en en2 := .of rfl fun Q X hq => by
  rw [ev_lc]
  refine hs _ _ ?_
  simp only [offs]
  refine lc_takes (X := X) hF sF hm hij hi he L ds [] (by simp; omega) ?_
  rw [h2]
  exact hq
end
theorem as_minLo {G : Gb} {i : Nat} {hs : List Nat} {m : Nat} {en : En} (ha : (en[i]?).join = some (.lst true ((rI hs).map .int))) (hm : m ∈ hs) (hle : ∀ y ∈ hs, m ≤ y) : As G (.blt .minL (.cons (.var i) .nil)) (.int (m : Int)) en en := as_blt1o ha (by simp) fun k hk => ⟨_, rfl, _, ⟨List.mem_map.mpr ⟨_, hm, rfl⟩, fun y hy => by
  obtain ⟨y', hy', rfl⟩ := List.mem_map.mp hy
  have := hle y' hy'
  omega⟩, hk⟩
theorem as_maxLo {G : Gb} {i : Nat} {hs : List Nat} {m : Nat} {en : En} (ha : (en[i]?).join = some (.lst true ((rI hs).map .int))) (hm : m ∈ hs) (hle : ∀ y ∈ hs, y ≤ m) : As G (.blt .maxL (.cons (.var i) .nil)) (.int (m : Int)) en en := as_blt1o ha (by simp) fun k hk => ⟨_, rfl, _, ⟨List.mem_map.mpr ⟨_, hm, rfl⟩, fun y hy => by
  obtain ⟨y', hy', rfl⟩ := List.mem_map.mp hy
  have := hle y' hy'
  omega⟩, hk⟩
theorem ex_max : ∀ L : List Nat, 0 < L.length → ∃ m ∈ L, ∀ y ∈ L, y ≤ m
  | [], h => by cases h
  | [a], _ => ⟨a, List.mem_cons_self, fun y hy => by rw [List.mem_singleton] at hy; omega⟩
  | a :: b :: L, _ => by
    obtain ⟨m, h1, h2⟩ := ex_max (b :: L) (by simp)
    by_cases h : m ≤ a
    · refine ⟨a, List.mem_cons_self, fun y hy => ?_⟩
      rcases List.mem_cons.mp hy with rfl | hy
      · exact Nat.le_refl _
      · exact Nat.le_trans (h2 y hy) h
    · refine ⟨m, List.mem_cons_of_mem _ h1, fun y hy => ?_⟩
      rcases List.mem_cons.mp hy with rfl | hy
      · omega
      · exact h2 y hy
/-! ### drawn rows are rows -/
theorem lstR_frz (rows : List (List Nat)) : frz (.lst true (lstR rows)) = .lst false (rows.map fun r => D.lst false ((rI r).map .int)) := by
  have : ∀ rows : List (List Nat), frzs (lstR rows) = rows.map fun r => D.lst false ((rI r).map .int) := by
    intro rows
    induction rows with
    | nil => rfl
    | cons r rows ih =>
      unfold lstR at ih ⊢
      rw [List.map_cons, frzs, ih, List.map_cons, frz_li]
  rw [frz, this]
theorem lstR_frzs (rows : List (List Nat)) : frzs (lstR rows) = rows.map fun r => D.lst false ((rI r).map .int) := by
  have h := lstR_frz rows
  rw [frz] at h
  injection h
theorem fzs_lF (rows : List (List Nat)) : fzs (rows.map fun r => D.lst false ((rI r).map .int)) = true := by
  induction rows with
  | nil => rfl
  | cons r rows ih => rw [List.map_cons, fzs, ih, fz_lst_ints]; rfl
theorem lF_D (rows : List (List Nat)) : RowsD rows (.lst false (rows.map fun r => D.lst false ((rI r).map .int))) := ⟨rfl, by rw [fz, fzs_lF]; rfl, _, rfl, by simp, fun i h => ⟨_, by rw [List.getElem?_map, List.getElem?_eq_getElem h]; rfl, rI_row _⟩⟩
theorem Drawn.ok {rooms : List Nat} {laps : Nat} {rows : List (List Nat)} (d : Drawn rooms laps rows) (hz : rooms.length ≤ 1000) (hs : 0 < rooms.sum) (hb : rooms.sum ≤ 100000) (hr : ∀ r ∈ rooms, r ≤ 1000) : PatOk rooms rows := ⟨hz, hs, hb, d.ln, fun i h => ⟨d.rl i h, hr _ (List.getElem_mem h)⟩, d.cn⟩
theorem Drawn.sgl {n laps : Nat} {rows : List (List Nat)} (d : Drawn (ones n) laps rows) (hn : 0 < n) (hz : n ≤ 1000) : ∃ hs : List Nat, hs.length = n ∧ rows = sg hs ∧ SglOk hs ∧ ∀ h ∈ hs, h < laps * n := by
  have hl : (ones n).length = n := by simp [ones]
  have hln := d.ln
  rw [hl] at hln
  have h1 : ∀ r ∈ rows, r.length = 1 := by
    intro r hr
    obtain ⟨i, hi, rfl⟩ := List.getElem_of_mem hr
    have := d.rl i (by omega)
    rw [List.getD_eq_getElem?_getD, List.getElem?_eq_getElem hi, Option.getD_some] at this
    rw [this]
    simp [ones]
  have h2 : ∀ rows : List (List Nat), (∀ r ∈ rows, r.length = 1) → rows = sg (rows.map fun r => r.headD 0) := by
    intro rows
    induction rows with
    | nil => intro _; rfl
    | cons r rows ih =>
      intro h
      have e := ih fun r hr => h r (List.mem_cons_of_mem _ hr)
      unfold sg at e ⊢
      rw [List.map_cons, List.map_cons, ← e]
      congr 1
      obtain ⟨a, rfl⟩ := List.length_eq_one_iff.mp (h r List.mem_cons_self)
      rfl
  have e := h2 rows h1
  refine ⟨rows.map fun r => r.headD 0, by rw [List.length_map, hln], e, ⟨by rw [List.length_map]; omega, by rw [List.length_map]; omega, ?_⟩, fun h hh => ?_⟩
  · have c := d.cn
    rw [hl] at c
    rw [← e, List.length_map, hln]
    exact c
  · obtain ⟨r, hr, rfl⟩ := List.mem_map.mp hh
    have := d.lt r hr
    rw [hl] at this
    obtain ⟨a, rfl⟩ := List.length_eq_one_iff.mp (h1 r hr)
    exact this a List.mem_cons_self
end Pf

namespace Pf
open PySem PySem.Spec PyProof.Rows L2
/-! ### permutations of the first numbers, their orbits -/
theorem sum_add {α : Type} (f g : α → Nat) : ∀ L : List α, (L.map fun a => f a + g a).sum = (L.map f).sum + (L.map g).sum
  | [] => rfl
  | a :: L => by
    rw [List.map_cons, List.map_cons, List.map_cons, List.sum_cons, List.sum_cons, List.sum_cons, sum_add f g L]
    omega
theorem sum_ind (a : Nat) : ∀ n : Nat, ((List.range' 0 n).map fun p => if (a == p) = true then 1 else 0).sum = if a < n then 1 else 0
  | 0 => by simp
  | n + 1 => by
    rw [List.range'_concat, List.map_append, List.sum_append, sum_ind a n]
    simp only [List.map_cons, List.map_nil, List.sum_cons, List.sum_nil, Nat.zero_add, Nat.one_mul, beq_iff_eq, Nat.add_zero]
    by_cases h1 : a < n
    · rw [if_pos h1, if_neg (by omega), if_pos (by omega)]
    · by_cases h2 : a = n
      · rw [if_neg h1, if_pos h2, if_pos (by omega)]
      · rw [if_neg h1, if_neg h2, if_neg (by omega)]
theorem sum_counts {n : Nat} : ∀ l : List Nat, (∀ x ∈ l, x < n) → ((List.range' 0 n).map fun p => l.count p).sum = l.length
  | [], _ => by
    have e : ∀ m : Nat, (List.replicate m 0).sum = 0 := fun m => by induction m with
      | zero => rfl
      | succ m ih => rw [List.replicate_succ, List.sum_cons, ih]
    simp only [List.count_nil, List.length_nil]
    rw [List.map_const', e]
  | a :: l, h => by
    have ih := sum_counts l fun x hx => h x (List.mem_cons_of_mem _ hx)
    simp only [List.count_cons]
    rw [sum_add, ih, sum_ind, if_pos (h a List.mem_cons_self), List.length_cons]
theorem sum_le1 : ∀ L : List Nat, (∀ x ∈ L, x ≤ 1) → L.sum ≤ L.length
  | [], _ => Nat.le_refl _
  | a :: L, h => by
    have ih := sum_le1 L fun x hx => h x (List.mem_cons_of_mem _ hx)
    have := h a List.mem_cons_self
    rw [List.sum_cons, List.length_cons]
    omega
theorem all_one : ∀ L : List Nat, (∀ x ∈ L, x ≤ 1) → L.sum = L.length → L = List.replicate L.length 1
  | [], _, _ => rfl
  | a :: L, h, hs => by
    have h1 := h a List.mem_cons_self
    have h2 := sum_le1 L fun x hx => h x (List.mem_cons_of_mem _ hx)
    rw [List.sum_cons, List.length_cons] at hs
    rw [List.length_cons, List.replicate_succ, ← all_one L (fun x hx => h x (List.mem_cons_of_mem _ hx)) (by omega)]
    congr 1
    omega
theorem nodup_le {n : Nat} {l : List Nat} (h : l.Nodup) (hl : ∀ x ∈ l, x < n) : l.length ≤ n := by
  have h1 := sum_counts l hl
  have h2 := sum_le1 ((List.range' 0 n).map fun p => l.count p) fun x hx => by
    obtain ⟨p, _, rfl⟩ := List.mem_map.mp hx
    exact List.nodup_iff_count.mp h p
  rw [List.length_map, List.length_range'] at h2
  omega
/-- where a throw comes down -/
def nxt (hs : List Nat) (i : Nat) : Nat := (i + hs.getD i 0) % hs.length
theorem land_sg (hs : List Nat) : landL hs.length (sg hs) = (List.range' 0 hs.length).map (nxt hs) := by
  unfold landL
  rw [List.flatMap_def]
  have e : (List.range' 0 hs.length).map (fun i => ((sg hs).getD i []).map fun h => (i + h) % hs.length) = (List.range' 0 hs.length).map fun i => [nxt hs i] := by
    refine List.map_congr_left fun i hi => ?_
    have hi' : i < hs.length := by have := (List.mem_range'_1.mp hi).2; omega
    simp [sg, nxt, List.getD_eq_getElem?_getD, hi']
  rw [e]
  induction (List.range' 0 hs.length) with
  | nil => rfl
  | cons a L ih => rw [List.map_cons, List.flatten_cons, ih, List.map_cons]; rfl
structure Inj (f : Nat → Nat) (n : Nat) : Prop where
  lt : ∀ i, i < n → f i < n
  inj : ∀ i j, i < n → j < n → f i = f j → i = j
theorem nodup_map {f : Nat → Nat} {n : Nat} : ((List.range' 0 n).map f).Nodup ↔ ∀ i j, i < n → j < n → f i = f j → i = j := by
  unfold List.Nodup
  rw [List.pairwise_map, List.pairwise_iff_getElem]
  simp only [List.length_range', List.getElem_range', Nat.zero_add, Nat.one_mul]
  constructor
  · intro h i j hi hj e
    rcases Nat.lt_trichotomy i j with q | q | q
    · exact absurd e (h i j hi hj q)
    · exact q
    · exact absurd e.symm (h j i hj hi q)
  · intro h i j hi hj hij e
    have := h i j hi hj e
    omega
theorem nxt_lt {hs : List Nat} (hn : 0 < hs.length) (i : Nat) : nxt hs i < hs.length := Nat.mod_lt _ hn
theorem sgl_inj {hs : List Nat} (p : SglOk hs) : Inj (nxt hs) hs.length := by
  refine ⟨fun i _ => nxt_lt p.n i, nodup_map.mp ?_⟩
  rw [← land_sg, List.nodup_iff_count]
  intro a
  by_cases ha : a < hs.length
  · have h := congrArg (fun L : List Nat => L.getD a 0) p.cn
    simp only [cntsN, ones, List.getD_eq_getElem?_getD, List.getElem?_map, List.getElem?_range', List.getElem?_replicate, if_pos ha, Option.map_some, Option.getD_some, Nat.zero_add, Nat.one_mul] at h
    rw [List.getElem?_eq_getElem (by simpa using ha)] at h
    simp at h
    omega
  · have : a ∉ landL hs.length (sg hs) := by
      rw [land_sg]
      intro hm
      obtain ⟨i, _, e⟩ := List.mem_map.mp hm
      have := nxt_lt p.n i
      omega
    rw [List.count_eq_zero_of_not_mem this]
    omega
theorem inj_sgl {hs : List Nat} (hn : 0 < hs.length) (hz : hs.length ≤ 1000) (h : Inj (nxt hs) hs.length) : SglOk hs := by
  refine ⟨hn, hz, ?_⟩
  have nd : (landL hs.length (sg hs)).Nodup := by
    rw [land_sg]
    exact nodup_map.mpr h.inj
  have lt : ∀ x ∈ landL hs.length (sg hs), x < hs.length := fun x hx => by
    rw [land_sg] at hx
    obtain ⟨i, _, rfl⟩ := List.mem_map.mp hx
    exact nxt_lt hn i
  have h1 := sum_counts _ lt
  have e := all_one (cntsN hs.length (sg hs)) (fun x hx => by
    obtain ⟨p, _, rfl⟩ := List.mem_map.mp hx
    exact List.nodup_iff_count.mp nd p) (by
    unfold cntsN
    rw [h1, land_sg]
    simp)
  rw [e]
  simp [cntsN, ones]
theorem inj_perm {f : Nat → Nat} {n : Nat} (h : Inj f n) : ((List.range' 0 n).map f).Perm (List.range' 0 n) := by
  have nd := nodup_map.mpr h.inj
  have lt : ∀ x ∈ (List.range' 0 n).map f, x < n := fun x hx => by
    obtain ⟨i, hi, rfl⟩ := List.mem_map.mp hx
    exact h.lt i (by have := (List.mem_range'_1.mp hi).2; omega)
  have h1 := sum_counts _ lt
  have e := all_one ((List.range' 0 n).map fun p => ((List.range' 0 n).map f).count p) (fun x hx => by
    obtain ⟨p, _, rfl⟩ := List.mem_map.mp hx
    exact List.nodup_iff_count.mp nd p) (by rw [h1]; simp)
  rw [List.perm_iff_count]
  intro a
  have nr : (List.range' 0 n).Nodup := List.nodup_range'
  by_cases ha : a < n
  · have h2 := congrArg (fun L : List Nat => L.getD a 0) e
    simp only [List.getD_eq_getElem?_getD, List.getElem?_map, List.length_map, List.length_range', List.getElem?_replicate, if_pos ha] at h2
    rw [List.getElem?_eq_getElem (by simpa using ha)] at h2
    simp only [List.getElem_range', Option.map_some, Option.getD_some, Nat.zero_add, Nat.one_mul] at h2
    have h3 : (List.range' 0 n).count a = 1 := by
      refine Nat.le_antisymm (List.nodup_iff_count.mp nr a) (List.count_pos_iff.mpr ?_)
      exact List.mem_range'_1.mpr ⟨Nat.zero_le _, by omega⟩
    rw [h3]
    exact h2
  · rw [List.count_eq_zero_of_not_mem fun hm => ha (lt a hm), List.count_eq_zero_of_not_mem fun hm => ha (by have := (List.mem_range'_1.mp hm).2; omega)]
theorem inj_surj {f : Nat → Nat} {n : Nat} (h : Inj f n) {r : Nat} (hr : r < n) : ∃ e, e < n ∧ f e = r := by
  have : r ∈ (List.range' 0 n).map f := (inj_perm h).mem_iff.mpr (List.mem_range'_1.mpr ⟨Nat.zero_le _, by omega⟩)
  obtain ⟨e, he, rfl⟩ := List.mem_map.mp this
  exact ⟨e, by have := (List.mem_range'_1.mp he).2; omega, rfl⟩
/-! ### where the throw at any spot comes down -/
def hx (hs : List Nat) (x : Int) : Nat := hs.getD (x % (hs.length : Int)).toNat 0
def lx (hs : List Nat) (x : Int) : Int := x + hx hs x
section
variable {hs : List Nat}
theorem hx_nat {i : Nat} (hi : i < hs.length) : hx hs (i : Int) = hs[i] := by
  unfold hx
  rw [Int.emod_eq_of_lt (by omega) (by omega), Int.toNat_natCast, List.getD_eq_getElem?_getD, List.getElem?_eq_getElem hi, Option.getD_some]
theorem mod_lt (hn : 0 < hs.length) (x : Int) : (x % (hs.length : Int)).toNat < hs.length ∧ (((x % (hs.length : Int)).toNat : Nat) : Int) = x % (hs.length : Int) := by
  have h1 := Int.emod_nonneg x (b := (hs.length : Int)) (by omega)
  have h2 := Int.emod_lt_of_pos x (b := (hs.length : Int)) (by omega)
  omega
theorem lx_mod (hn : 0 < hs.length) (x : Int) : ((nxt hs (x % (hs.length : Int)).toNat : Nat) : Int) = lx hs x % (hs.length : Int) := by
  unfold nxt lx hx
  have h := (mod_lt hn x).2
  push_cast
  rw [h, Int.emod_add_emod]
theorem hx_mod {x y : Int} (h : x % (hs.length : Int) = y % (hs.length : Int)) : hx hs x = hx hs y := by unfold hx; rw [h]
theorem lx_inj (hn : 0 < hs.length) (p : Inj (nxt hs) hs.length) {x y : Int} (h : lx hs x = lx hs y) : x = y := by
  have h1 := lx_mod hn x
  have h2 := lx_mod hn y
  rw [h, ← h2] at h1
  have h3 := p.inj _ _ (mod_lt hn x).1 (mod_lt hn y).1 (by exact_mod_cast h1)
  have h4 : x % (hs.length : Int) = y % (hs.length : Int) := by rw [← (mod_lt hn x).2, ← (mod_lt hn y).2, h3]
  have h5 := hx_mod h4
  unfold lx at h
  rw [h5] at h
  omega
theorem lx_nat {i : Nat} (hi : i < hs.length) : lx hs (i : Int) = (i : Int) + (hs[i] : Int) := by unfold lx; rw [hx_nat hi]
/-- the residue of a landing names the throw's residue -/
theorem lx_res (hn : 0 < hs.length) (p : Inj (nxt hs) hs.length) {x : Int} {e : Nat} (he : e < hs.length) (h : lx hs x % (hs.length : Int) = (nxt hs e : Int)) : x % (hs.length : Int) = (e : Int) := by
  rw [← lx_mod hn x] at h
  have := p.inj _ _ (mod_lt hn x).1 he (by exact_mod_cast h)
  rw [← (mod_lt hn x).2, this]
theorem lx_of (hn : 0 < hs.length) {x : Int} {e : Nat} (he : e < hs.length) (h : x % (hs.length : Int) = (e : Int)) : lx hs x % (hs.length : Int) = (nxt hs e : Int) := by
  rw [← lx_mod hn x, h, Int.toNat_natCast]
theorem hx_of {x : Int} {e : Nat} (he : e < hs.length) (h : x % (hs.length : Int) = (e : Int)) : hx hs x = hs[e] := by
  rw [← hx_nat he]
  exact hx_mod (by rw [h, Int.emod_eq_of_lt (by omega) (by omega)])
/-! the greatest height -/
def mx (hs : List Nat) : Nat := topN (sg hs)
theorem sg_flat : ∀ hs : List Nat, (sg hs).flatten = hs
  | [] => rfl
  | h :: hs => by
    have := sg_flat hs
    unfold sg at this ⊢
    rw [List.map_cons, List.flatten_cons, this]
    rfl
theorem mx_mem (hn : 0 < hs.length) : mx hs ∈ hs ∧ ∀ y ∈ hs, y ≤ mx hs := by
  have h := top_mem (rows := sg hs) (by rw [sg_flat]; exact hn)
  rw [sg_flat] at h
  exact h
theorem hx_le (hn : 0 < hs.length) (x : Int) : hx hs x ≤ mx hs := by
  unfold hx
  have h := (mod_lt hn x).1
  rw [List.getD_eq_getElem?_getD, List.getElem?_eq_getElem h, Option.getD_some]
  exact (mx_mem hn).2 _ (List.getElem_mem h)
/-! ### overtakings -/
/-- how many of the T throws ahead of i come down later -/
def ovc (hs : List Nat) (T : Nat) (i : Int) : Nat := ((List.range' 1 T).filter fun b : Nat => decide (lx hs i < lx hs (i - b))).length
def ovL (hs : List Nat) : List Nat := (List.range' 0 hs.length).map fun i : Nat => ovc hs (mx hs) (i : Int)
theorem filt_more (q : Nat → Bool) {T T' : Nat} (h : T ≤ T') (hf : ∀ b, T < b → q b = false) : ((List.range' 1 T').filter q).length = ((List.range' 1 T).filter q).length := by
  obtain ⟨d, rfl⟩ := Nat.exists_eq_add_of_le h
  rw [← List.range'_append_1, List.filter_append, List.length_append]
  have : (List.range' (1 + T) d).filter q = [] := by
    rw [List.filter_eq_nil_iff]
    intro b hb
    have := (List.mem_range'_1.mp hb).1
    rw [hf b (by omega)]
    simp
  rw [this]
  rfl
theorem ov_far (hn : 0 < hs.length) {i : Int} {b : Nat} (hb : mx hs < b) : decide (lx hs i < lx hs (i - b)) = false := by
  have h := hx_le hn (i - b)
  unfold lx
  exact decide_eq_false (by omega)
theorem ovc_more (hn : 0 < hs.length) {T : Nat} (h : mx hs ≤ T) (i : Int) : ovc hs T i = ovc hs (mx hs) i := filt_more _ h fun b hb => ov_far hn hb
theorem range_rev (T : Nat) : List.range' 1 T = ((List.range T).map fun k => T - k).reverse := by
  refine List.ext_getElem (by simp) fun i h1 h2 => ?_
  rw [List.length_range'] at h1
  simp only [List.getElem_range', List.getElem_reverse, List.length_map, List.length_range, List.getElem_map, List.getElem_range]
  omega
theorem filt_rev (q : Nat → Bool) (T : Nat) : ((List.range T).filter fun k => q (T - k)).length = ((List.range' 1 T).filter q).length := by
  rw [range_rev, List.filter_reverse, List.length_reverse, List.filter_map, List.length_map]
  rfl
end
end Pf

/-! Rows of numbers with a zero, and the patterns they make. -/
namespace Pf
open PySem PySem.Spec PyProof.Rows L2
/-- the number behind, after a beat with the number c; none: it comes down -/
def up1 (P c b : Nat) : Option Nat := if P ≤ c then some b else if b + 1 = P then none else if c ≤ b then some (b + 1) else some b
/-- the number behind the throw at i, k beats later -/
def st1 (P : Nat) (a : List Nat) (i : Int) : Nat → Option Nat
  | 0 => if hx a i < P then some (hx a i) else none
  | k + 1 => (st1 P a i k).bind (up1 P (hx a (i + ((k + 1 : Nat) : Int))))
/-- .. at the time t -/
def sa (P : Nat) (a : List Nat) (i t : Int) : Option Nat := if i ≤ t then st1 P a i (t - i).toNat else none
section
variable {P : Nat} {a : List Nat} {i j t : Int}
theorem sa_self : sa P a i i = if hx a i < P then some (hx a i) else none := by
  unfold sa
  rw [if_pos (Int.le_refl _), show (i - i).toNat = 0 by omega]
  rfl
theorem sa_step (h : i ≤ t) : sa P a i (t + 1) = (sa P a i t).bind (up1 P (hx a (t + 1))) := by
  unfold sa
  rw [if_pos (by omega), if_pos h, show (t + 1 - i).toNat = (t - i).toNat + 1 by omega, st1, show i + (((t - i).toNat + 1 : Nat) : Int) = t + 1 by omega]
theorem sa_le {b : Nat} (h : sa P a i t = some b) : i ≤ t := by
  unfold sa at h
  by_cases hi : i ≤ t
  · exact hi
  · rw [if_neg hi] at h
    cases h
theorem up1_lt {c b x : Nat} (hb : b < P) (h : up1 P c b = some x) : x < P := by
  unfold up1 at h
  split at h
  · cases h; exact hb
  · split at h
    · cases h
    · split at h <;> cases h <;> omega
theorem st1_lt : ∀ (k b : Nat), st1 P a i k = some b → b < P
  | 0, b, h => by
    rw [st1] at h
    split at h
    · cases h; assumption
    · cases h
  | k + 1, b, h => by
    rw [st1] at h
    cases hk : st1 P a i k with
    | none => rw [hk] at h; cases h
    | some b' =>
      rw [hk] at h
      exact up1_lt (st1_lt k b' hk) h
theorem sa_lt {b : Nat} (h : sa P a i t = some b) : b < P := by
  unfold sa at h
  split at h
  · exact st1_lt _ _ h
  · cases h
/-- two that stay keep their order -/
theorem up1_ord {c b b' x x' : Nat} (h : up1 P c b = some x) (h' : up1 P c b' = some x') : b < b' ↔ x < x' := by
  unfold up1 at h h'
  by_cases hc : P ≤ c
  · rw [if_pos hc] at h h'
    cases h; cases h'
    exact Iff.rfl
  · rw [if_neg hc] at h h'
    by_cases h1 : b + 1 = P
    · rw [if_pos h1] at h; cases h
    · by_cases h2 : b' + 1 = P
      · rw [if_pos h2] at h'; cases h'
      · rw [if_neg h1] at h
        rw [if_neg h2] at h'
        split at h <;> split at h' <;> cases h <;> cases h' <;> omega
/-- what stays is not the new one's number, and its place tells who comes down later -/
theorem up1_new {c b x : Nat} (hc : c < P) (h : up1 P c b = some x) : x ≠ c := by
  unfold up1 at h
  rw [if_neg (by omega)] at h
  split at h
  · cases h
  · split at h <;> cases h <;> omega
/-- in the air from the throw on -/
theorem sa_back {b : Nat} : ∀ (d : Nat) (t : Int), sa P a i (t + d) = some b → i ≤ t → ∃ b', sa P a i t = some b'
  | 0, t, h, _ => ⟨b, by rw [show t + ((0 : Nat) : Int) = t by omega] at h; exact h⟩
  | d + 1, t, h, hi => by
    rw [show t + ((d + 1 : Nat) : Int) = (t + d) + 1 by omega, sa_step (by omega)] at h
    cases hk : sa P a i (t + d) with
    | none => rw [hk] at h; cases h
    | some b' => exact sa_back d t hk hi
theorem sa_none : ∀ (d : Nat) (t : Int), sa P a i t = none → i ≤ t → sa P a i (t + d) = none
  | 0, t, h, _ => by rw [show t + ((0 : Nat) : Int) = t by omega]; exact h
  | d + 1, t, h, hi => by
    rw [show t + ((d + 1 : Nat) : Int) = (t + d) + 1 by omega, sa_step (by omega), sa_none d t h hi]
    rfl
/-- two in the air have unlike numbers; the order stays -/
theorem sa_ne : ∀ (d : Nat) {b b' : Nat}, i < j → sa P a i (j + d) = some b → sa P a j (j + d) = some b' → b ≠ b' ∧ ∃ y, sa P a i j = some y ∧ hx a j < P ∧ y ≠ hx a j ∧ (y < hx a j ↔ b < b')
  | 0, b, b', hij, h, h' => by
    rw [show j + ((0 : Nat) : Int) = j by omega] at h h'
    rw [sa_self] at h'
    split at h'
    · rename_i hc
      cases h'
      have e : sa P a i ((j - 1) + 1) = some b := by rw [show j - 1 + 1 = j by omega]; exact h
      rw [sa_step (by omega), show j - 1 + 1 = j by omega] at e
      cases hk : sa P a i (j - 1) with
      | none => rw [hk] at e; cases e
      | some x =>
        rw [hk] at e
        have := up1_new hc e
        exact ⟨this, b, h, hc, this, Iff.rfl⟩
    · cases h'
  | d + 1, b, b', hij, h, h' => by
    rw [show j + ((d + 1 : Nat) : Int) = (j + d) + 1 by omega] at h h'
    rw [sa_step (by omega)] at h h'
    cases hk : sa P a i (j + d) with
    | none => rw [hk] at h; cases h
    | some x =>
      cases hk' : sa P a j (j + d) with
      | none => rw [hk'] at h'; cases h'
      | some x' =>
        rw [hk] at h
        rw [hk'] at h'
        obtain ⟨h1, y, h2, h3, h4, h5⟩ := sa_ne d hij hk hk'
        have o1 := up1_ord h h'
        have o2 := up1_ord h' h
        exact ⟨by omega, y, h2, h3, h4, h5.trans o1⟩
end
/-! ### it comes down -/
structure Rw (P : Nat) (a : List Nat) : Prop where
  n : 0 < a.length
  le : ∀ x ∈ a, x ≤ P
  z : 0 < P → 0 ∈ a
section
variable {P : Nat} {a : List Nat} (w : Rw P a)
include w
theorem Rw.hx_le (t : Int) : hx a t ≤ P := by
  unfold hx
  have h := (mod_lt w.n t).1
  rw [List.getD_eq_getElem?_getD, List.getElem?_eq_getElem h, Option.getD_some]
  exact w.le _ (List.getElem_mem h)
/-- a zero within a round -/
theorem Rw.zero (hP : 0 < P) (t : Int) : ∃ d : Nat, 1 ≤ d ∧ d ≤ a.length ∧ hx a (t + (d : Int)) = 0 := by
  obtain ⟨j, hj, e⟩ := List.getElem_of_mem (w.z hP)
  have h := mod_lt w.n ((j : Int) - t - 1)
  refine ⟨(((j : Int) - t - 1) % (a.length : Int)).toNat + 1, by omega, by omega, ?_⟩
  have e2 : (t + (((((j : Int) - t - 1) % (a.length : Int)).toNat + 1 : Nat) : Int)) % (a.length : Int) = (j : Int) := by
    push_cast
    rw [h.2, show t + (((j : Int) - t - 1) % (a.length : Int) + 1) = (t + 1) + ((j : Int) - t - 1) % (a.length : Int) by omega, Int.add_emod_emod, show t + 1 + ((j : Int) - t - 1) = (j : Int) by omega]
    exact Int.emod_eq_of_lt (by omega) (by omega)
  unfold hx
  rw [e2, Int.toNat_natCast, List.getD_eq_getElem?_getD, List.getElem?_eq_getElem hj, Option.getD_some, e]
omit w in
theorem st1_mono {i : Int} : ∀ (d k b : Nat), st1 P a i k = some b → st1 P a i (k + d) = none ∨ ∃ b', st1 P a i (k + d) = some b' ∧ b ≤ b'
  | 0, k, b, h => .inr ⟨b, h, Nat.le_refl _⟩
  | d + 1, k, b, h => by
    rcases st1_mono d k b h with e | ⟨b', e, hb⟩
    · left
      rw [show k + (d + 1) = (k + d) + 1 by omega, st1, e]
      rfl
    · rw [show k + (d + 1) = (k + d) + 1 by omega, st1, e]
      show up1 _ _ _ = none ∨ _
      have : ∀ c, up1 P c b' = none ∨ ∃ b'', up1 P c b' = some b'' ∧ b ≤ b'' := by
        intro c
        unfold up1
        split
        · exact .inr ⟨_, rfl, hb⟩
        · split
          · exact .inl rfl
          · split
            · exact .inr ⟨_, rfl, by omega⟩
            · exact .inr ⟨_, rfl, hb⟩
      exact this _
theorem Rw.lands (hP : 0 < P) {i : Int} : ∀ (v k b : Nat), st1 P a i k = some b → P ≤ b + 1 + v → ∃ k', k' ≤ k + (v + 1) * a.length ∧ st1 P a i k' = none
  | v, k, b, h, hv => by
    obtain ⟨d, d1, d2, d3⟩ := w.zero hP (i + (k : Int))
    have step : st1 P a i (k + d) = (st1 P a i (k + (d - 1))).bind (up1 P 0) := by
      rw [show k + d = (k + (d - 1)) + 1 by omega, st1, show i + (((k + (d - 1)) + 1 : Nat) : Int) = i + (k : Int) + (d : Int) by omega, d3]
    rcases st1_mono (d - 1) k b h with e | ⟨b', e, hb⟩
    · exact ⟨k + (d - 1), by rw [Nat.add_mul]; omega, e⟩
    · rw [e] at step
      by_cases hb' : b' + 1 = P
      · refine ⟨k + d, by rw [Nat.add_mul]; omega, ?_⟩
        rw [step]
        show up1 _ _ _ = none
        unfold up1
        rw [if_neg (by omega), if_pos hb']
      · have hlt := st1_lt _ _ e
        have s2 : st1 P a i (k + d) = some (b' + 1) := by
          rw [step]
          show up1 _ _ _ = _
          unfold up1
          rw [if_neg (by omega), if_neg hb', if_pos (by omega)]
        cases v with
        | zero => omega
        | succ v =>
          obtain ⟨k', h1, h2⟩ := Rw.lands hP v (k + d) (b' + 1) s2 (by omega)
          refine ⟨k', ?_, h2⟩
          have : (v + 1 + 1) * a.length = (v + 1) * a.length + a.length := by rw [Nat.succ_mul]
          omega
end
end Pf

/-! The heights of a row with a zero: a pattern, overtaken as the row says. -/
namespace Pf
open PySem PySem.Spec PyProof.Rows L2
/-- the throw at i comes down h beats later -/
def Hl (P : Nat) (a : List Nat) (i : Int) (h : Nat) : Prop := st1 P a i h = none ∧ ∀ k, k < h → st1 P a i k ≠ none
theorem least {p : Nat → Prop} : ∀ k, p k → ∃ k0, k0 ≤ k ∧ p k0 ∧ ∀ k', k' < k0 → ¬ p k'
  | 0, h => ⟨0, Nat.le_refl _, h, fun k' hk => by omega⟩
  | k + 1, h => by
    by_cases e : ∃ k', k' ≤ k ∧ p k'
    · obtain ⟨k', h1, h2⟩ := e
      obtain ⟨k0, q1, q2, q3⟩ := least k' h2
      exact ⟨k0, by omega, q2, q3⟩
    · exact ⟨k + 1, Nat.le_refl _, h, fun k' hk hp => e ⟨k', by omega, hp⟩⟩
termination_by k => k
structure Hh (P : Nat) (a hs : List Nat) : Prop where
  w : Rw P a
  ln : hs.length = a.length
  hl : ∀ i : Nat, i < a.length → Hl P a (i : Int) (hs.getD i 0)
theorem hx_shift {a : List Nat} {x y k : Int} (h : x % (a.length : Int) = y % (a.length : Int)) : hx a (x + k) = hx a (y + k) := hx_mod (by rw [Int.add_emod, h, ← Int.add_emod])
theorem st1_shift {P : Nat} {a : List Nat} {x y : Int} (h : x % (a.length : Int) = y % (a.length : Int)) : ∀ k, st1 P a x k = st1 P a y k
  | 0 => by rw [st1, st1, hx_mod h]
  | k + 1 => by rw [st1, st1, st1_shift h k, hx_shift h]
section
variable {P : Nat} {a hs : List Nat} (w : Hh P a hs)
include w
theorem Hh.all (i : Int) : Hl P a i (hx hs i) := by
  have hm := mod_lt w.w.n i
  have h := w.hl _ hm.1
  have e : ((i % (a.length : Int)).toNat : Int) % (a.length : Int) = i % (a.length : Int) := by rw [hm.2]; exact Int.emod_emod_of_dvd _ (Int.dvd_refl _)
  unfold Hl at h ⊢
  unfold hx
  rw [w.ln]
  refine ⟨by rw [← st1_shift e]; exact h.1, fun k hk => by rw [← st1_shift e]; exact h.2 k hk⟩
theorem Hh.air {i t : Int} : (∃ b, sa P a i t = some b) ↔ i ≤ t ∧ t < lx hs i := by
  have h := w.all i
  unfold lx
  constructor
  · rintro ⟨b, e⟩
    have hi := sa_le e
    refine ⟨hi, ?_⟩
    rcases Int.lt_or_le t (i + (hx hs i : Int)) with z | z
    · exact z
    · have e0 : sa P a i (i + (hx hs i : Int)) = none := by
        unfold sa
        rw [if_pos (by omega), show (i + (hx hs i : Int) - i).toNat = hx hs i by omega]
        exact h.1
      have := sa_none (t - (i + (hx hs i : Int))).toNat _ e0 (by omega)
      rw [show i + (hx hs i : Int) + ((t - (i + (hx hs i : Int))).toNat : Int) = t by omega, e] at this
      cases this
  · rintro ⟨h1, h2⟩
    have h3 := h.2 (t - i).toNat (by omega)
    unfold sa
    rw [if_pos h1]
    exact Option.ne_none_iff_exists'.mp h3
/-- an active throw comes down at an active beat, the first in the queue -/
theorem Hh.down {i : Int} (hi : i < lx hs i) : sa P a i (lx hs i - 1) = some (P - 1) ∧ hx a (lx hs i) < P := by
  obtain ⟨b, e⟩ := (w.air (i := i) (t := lx hs i - 1)).mpr ⟨by omega, by omega⟩
  have hs1 : sa P a i (lx hs i) = none := by
    cases hk : sa P a i (lx hs i) with
    | none => rfl
    | some x => exact absurd ((w.air (i := i)).mp ⟨x, hk⟩).2 (by omega)
  have h2 := sa_step (P := P) (a := a) (i := i) (t := lx hs i - 1) (by omega)
  rw [show lx hs i - 1 + 1 = lx hs i by omega, hs1, e] at h2
  have h3 : up1 P (hx a (lx hs i)) b = none := h2.symm
  unfold up1 at h3
  split at h3
  · cases h3
  · split at h3
    · exact ⟨by rw [e]; congr 1; omega, by omega⟩
    · split at h3 <;> cases h3
theorem Hh.act {i : Int} : i < lx hs i ↔ hx a i < P := by
  have h := w.air (i := i) (t := i)
  rw [sa_self] at h
  constructor
  · intro hi
    obtain ⟨b, e⟩ := h.mpr ⟨Int.le_refl _, hi⟩
    split at e
    · assumption
    · cases e
  · intro hi
    rw [if_pos hi] at h
    exact (h.mp ⟨_, rfl⟩).2
theorem Hh.ge (i : Int) : i ≤ lx hs i := by unfold lx; omega
theorem Hh.ord {i j : Int} {y : Nat} (hij : i < j) (hj : hx a j < P) (hy : sa P a i j = some y) : lx hs i ≠ lx hs j ∧ (lx hs j < lx hs i ↔ y < hx a j) := by
  have hi := ((w.air (i := i)).mp ⟨y, hy⟩).2
  have hj' := w.act.mpr hj
  have both : ∀ t, j ≤ t → t < lx hs i → t < lx hs j → ∃ b b', sa P a i t = some b ∧ sa P a j t = some b' ∧ b ≠ b' ∧ (y < hx a j ↔ b < b') := by
    intro t h1 h2 h3
    obtain ⟨b, e1⟩ := (w.air (i := i) (t := t)).mpr ⟨by omega, h2⟩
    obtain ⟨b', e2⟩ := (w.air (i := j) (t := t)).mpr ⟨h1, h3⟩
    have ed : j + ((t - j).toNat : Int) = t := by omega
    obtain ⟨n1, y', n2, _, _, n5⟩ := sa_ne (P := P) (a := a) (t - j).toNat hij (by rw [ed]; exact e1) (by rw [ed]; exact e2)
    rw [hy] at n2
    cases n2
    exact ⟨b, b', e1, e2, n1, n5⟩
  rcases Int.lt_or_le (lx hs j) (lx hs i) with z | z
  · obtain ⟨b, b', e1, e2, n1, n2⟩ := both (lx hs j - 1) (by omega) (by omega) (by omega)
    rw [(w.down hj').1] at e2
    cases e2
    have := sa_lt e1
    exact ⟨by omega, ⟨fun _ => n2.mpr (by omega), fun _ => z⟩⟩
  · obtain ⟨b, b', e1, e2, n1, n2⟩ := both (lx hs i - 1) (by omega) (by omega) (by omega)
    rw [(w.down (by omega)).1] at e1
    cases e1
    have := sa_lt e2
    refine ⟨fun e => ?_, ⟨fun h => absurd h (by omega), fun h => absurd (n2.mp h) (by omega)⟩⟩
    rw [e, (w.down hj').1] at e2
    cases e2
    exact n1 rfl
theorem Hh.lt_inj {i j : Int} (hij : i < j) : lx hs i ≠ lx hs j := by
  have hgj := w.ge j
  rcases Int.lt_or_le j (lx hs i) with z | z
  · by_cases hj : hx a j < P
    · obtain ⟨y, hy⟩ := (w.air (i := i) (t := j)).mpr ⟨by omega, z⟩
      exact (w.ord hij hj hy).1
    · have := mt w.act.mp hj
      omega
  · intro e
    have e1 : lx hs i = j := by omega
    have h1 := (w.down (i := i) (by omega)).2
    rw [e1] at h1
    have := w.act.mpr h1
    omega
theorem Hh.inj : Inj (nxt hs) hs.length := by
  have hn : 0 < hs.length := by rw [w.ln]; exact w.w.n
  refine ⟨fun i _ => nxt_lt hn i, fun i j hi hj e => ?_⟩
  have h1 := lx_mod hn (i : Int)
  have h2 := lx_mod hn (j : Int)
  rw [Int.emod_eq_of_lt (by omega) (by omega), Int.toNat_natCast] at h1 h2
  rw [e, h2] at h1
  have h3 := Int.emod_eq_emod_iff_emod_sub_eq_zero.mp h1
  obtain ⟨k, hk⟩ := Int.dvd_of_emod_eq_zero h3
  have h4 : lx hs ((i : Int) + (hs.length : Int) * k) = lx hs (j : Int) := by
    unfold lx at hk ⊢
    rw [hx_mod (show ((i : Int) + (hs.length : Int) * k) % (hs.length : Int) = (i : Int) % (hs.length : Int) from Int.add_mul_emod_self_left _ _ _)]
    omega
  have h5 : (i : Int) + (hs.length : Int) * k = (j : Int) := by
    rcases Int.lt_trichotomy ((i : Int) + (hs.length : Int) * k) (j : Int) with z | z | z
    · exact absurd h4 (w.lt_inj z)
    · exact z
    · exact absurd h4.symm (w.lt_inj z)
  have h6 : ((i : Int) + (hs.length : Int) * k) % (hs.length : Int) = (i : Int) := by
    rw [Int.add_mul_emod_self_left]
    exact Int.emod_eq_of_lt (by omega) (by omega)
  rw [h5, Int.emod_eq_of_lt (by omega) (by omega)] at h6
  omega
/-! ### every place in the queue is taken -/
omit w in
theorem up1_keep {c v : Nat} (h : P ≤ c) : up1 P c v = some v := by unfold up1; rw [if_pos h]
omit w in
theorem up1_lo {c v : Nat} (hc : c < P) (h : v < c) : up1 P c v = some v := by unfold up1; rw [if_neg (by omega), if_neg (by omega), if_neg (by omega)]
omit w in
theorem up1_hi {c v : Nat} (hc : c ≤ v) (h : v + 1 < P) : up1 P c v = some (v + 1) := by unfold up1; rw [if_neg (by omega), if_neg (by omega), if_pos hc]
omit w in
theorem sa_from {i t : Int} {u v : Nat} (h : sa P a i (t - 1) = some u) (hu : up1 P (hx a t) u = some v) : sa P a i t = some v := by
  have := sa_step (P := P) (a := a) (i := i) (t := t - 1) (sa_le h)
  rw [show t - 1 + 1 = t by omega, h] at this
  rw [this]
  exact hu
theorem Hh.taken : ∀ (v : Nat), v < P → ∀ (d : Nat) (t : Int), hx a (t - d) = 0 → ∃ i, sa P a i t = some v := by
  intro v
  induction v with
  | zero =>
    intro hv d
    induction d with
    | zero =>
      intro t h0
      rw [show t - ((0 : Nat) : Int) = t by omega] at h0
      exact ⟨t, by rw [sa_self, h0, if_pos hv]⟩
    | succ d ih =>
      intro t h0
      by_cases hc : hx a t = 0
      · exact ⟨t, by rw [sa_self, hc, if_pos hv]⟩
      · obtain ⟨i, hi⟩ := ih (t - 1) (by rw [show t - 1 - (d : Int) = t - ((d + 1 : Nat) : Int) by omega]; exact h0)
        by_cases hp : P ≤ hx a t
        · exact ⟨i, sa_from hi (up1_keep hp)⟩
        · exact ⟨i, sa_from hi (up1_lo (by omega) (by omega))⟩
  | succ v ihv =>
    intro hv d
    have prev : ∀ t : Int, ∃ i, sa P a i t = some v := by
      intro t
      obtain ⟨d', d1, d2, d3⟩ := w.w.zero (by omega) (t - (a.length : Int))
      exact ihv (by omega) (a.length - d') t (by rw [show t - ((a.length - d' : Nat) : Int) = t - (a.length : Int) + (d' : Int) by omega]; exact d3)
    induction d with
    | zero =>
      intro t h0
      rw [show t - ((0 : Nat) : Int) = t by omega] at h0
      obtain ⟨i, hi⟩ := prev (t - 1)
      exact ⟨i, sa_from hi (by rw [h0]; exact up1_hi (Nat.zero_le _) hv)⟩
    | succ d ih =>
      intro t h0
      obtain ⟨i, hi⟩ := ih (t - 1) (by rw [show t - 1 - (d : Int) = t - ((d + 1 : Nat) : Int) by omega]; exact h0)
      by_cases hp : P ≤ hx a t
      · exact ⟨i, sa_from hi (up1_keep hp)⟩
      · rcases Nat.lt_trichotomy (v + 1) (hx a t) with z | z | z
        · exact ⟨i, sa_from hi (up1_lo (by omega) z)⟩
        · exact ⟨t, by rw [sa_self, if_pos (by omega), z]⟩
        · obtain ⟨i', hi'⟩ := prev (t - 1)
          exact ⟨i', sa_from hi' (up1_hi (by omega) hv)⟩
theorem Hh.every {v : Nat} (hv : v < P) (t : Int) : ∃ i, sa P a i t = some v := by
  obtain ⟨d', d1, d2, d3⟩ := w.w.zero (by omega) (t - (a.length : Int))
  exact w.taken v hv (a.length - d') t (by rw [show t - ((a.length - d' : Nat) : Int) = t - (a.length : Int) + (d' : Int) by omega]; exact d3)
/-- two in the air at one time -/
theorem Hh.two {i i' t : Int} {b : Nat} (h : sa P a i t = some b) (h' : sa P a i' t = some b) : i = i' := by
  rcases Int.lt_trichotomy i i' with z | z | z
  · have ed : i' + ((t - i').toNat : Int) = t := by have := sa_le h'; omega
    exact absurd rfl (sa_ne (P := P) (a := a) (t - i').toNat z (by rw [ed]; exact h) (by rw [ed]; exact h')).1
  · exact z
  · have ed : i + ((t - i).toNat : Int) = t := by have := sa_le h; omega
    exact absurd rfl (sa_ne (P := P) (a := a) (t - i).toNat z (by rw [ed]; exact h') (by rw [ed]; exact h)).1
/-- who overtakes -/
theorem Hh.over {i j : Int} (hij : i < j) : lx hs j < lx hs i ↔ ∃ y, sa P a i j = some y ∧ y < hx a j := by
  have hgj := w.ge j
  by_cases hj : hx a j < P
  · constructor
    · intro h
      obtain ⟨y, hy⟩ := (w.air (i := i) (t := j)).mpr ⟨by omega, by omega⟩
      exact ⟨y, hy, (w.ord hij hj hy).2.mp h⟩
    · rintro ⟨y, hy, h⟩
      exact (w.ord hij hj hy).2.mpr h
  · have h1 := mt w.act.mp hj
    have h2 := w.w.hx_le j
    constructor
    · intro h
      obtain ⟨y, hy⟩ := (w.air (i := i) (t := j)).mpr ⟨by omega, by omega⟩
      exact ⟨y, hy, by have := sa_lt hy; omega⟩
    · rintro ⟨y, hy, h⟩
      have := ((w.air (i := i)).mp ⟨y, hy⟩).2
      omega
end
end Pf

/-! .. counted. -/
namespace Pf
open PySem PySem.Spec PyProof.Rows L2
theorem nodup_map_on {f : Nat → Nat} : ∀ {l : List Nat}, l.Nodup → (∀ x ∈ l, ∀ y ∈ l, f x = f y → x = y) → (l.map f).Nodup
  | [], _, _ => List.nodup_nil
  | x :: l, nd, h => by
    rw [List.nodup_cons] at nd
    rw [List.map_cons, List.nodup_cons]
    refine ⟨fun hm => ?_, nodup_map_on nd.2 fun a ha b hb => h a (List.mem_cons_of_mem _ ha) b (List.mem_cons_of_mem _ hb)⟩
    obtain ⟨y, hy, e⟩ := List.mem_map.mp hm
    have := h y (List.mem_cons_of_mem _ hy) x List.mem_cons_self e
    subst this
    exact nd.1 hy
theorem sum_const (c : Nat) : ∀ L : List Nat, (L.map fun _ => c).sum = L.length * c
  | [] => by simp
  | x :: L => by rw [List.map_cons, List.sum_cons, sum_const c L, List.length_cons, Nat.succ_mul]; omega
/-- all the numbers below m, each once -/
theorem full_len {m : Nat} {l : List Nat} (nd : l.Nodup) (lt : ∀ x ∈ l, x < m) (all : ∀ v, v < m → v ∈ l) : l.length = m := by
  rw [← sum_counts l lt]
  have : (List.range' 0 m).map (fun p => l.count p) = (List.range' 0 m).map fun _ => 1 := List.map_congr_left fun p hp => by
    have hp' : p < m := by have := (List.mem_range'_1.mp hp).2; omega
    have h1 := List.nodup_iff_count.mp nd p
    have h2 := List.count_pos_iff.mpr (all p hp')
    omega
  rw [this, sum_const]
  simp
theorem filt_sum (q : Nat → Bool) : ∀ L : List Nat, (L.filter q).length = (L.map fun b => if q b = true then 1 else 0).sum
  | [] => rfl
  | b :: L => by
    rw [List.filter_cons, List.map_cons, List.sum_cons, ← filt_sum q L]
    split
    · rw [List.length_cons]; omega
    · omega
theorem sum_swap (f : Nat → Nat → Nat) (M : List Nat) : ∀ L : List Nat, (L.map fun x => (M.map fun y => f x y).sum).sum = (M.map fun y => (L.map fun x => f x y).sum).sum
  | [] => by
    have : (M.map fun _ => 0).sum = 0 := by rw [sum_const]; simp
    simp only [List.map_nil, List.sum_nil]
    exact this.symm
  | x :: L => by
    rw [List.map_cons, List.sum_cons, sum_swap f M L, ← sum_add]
    rfl
theorem sum_lt (h : Nat) : ∀ T : Nat, ((List.range T).map fun k => if k < h then 1 else 0).sum = min h T
  | 0 => by simp
  | T + 1 => by
    rw [List.range_succ, List.map_append, List.sum_append, sum_lt h T]
    simp only [List.map_cons, List.map_nil, List.sum_cons, List.sum_nil]
    split <;> omega
theorem sum_res {n : Nat} (hn : 0 < n) (k : Int) (g : Nat → Nat) : ((List.range' 0 n).map fun t : Nat => g (((t : Int) - k) % (n : Int)).toNat).sum = ((List.range' 0 n).map g).sum := by
  have hI : Inj (fun t : Nat => (((t : Int) - k) % (n : Int)).toNat) n := by
    refine ⟨fun i _ => ?_, fun i j hi hj e => ?_⟩
    · have h1 := Int.emod_nonneg ((i : Int) - k) (b := (n : Int)) (by omega)
      have h2 := Int.emod_lt_of_pos ((i : Int) - k) (b := (n : Int)) (by omega)
      show (((i : Int) - k) % (n : Int)).toNat < n
      omega
    · have h1 := Int.emod_nonneg ((i : Int) - k) (b := (n : Int)) (by omega)
      have h2 := Int.emod_nonneg ((j : Int) - k) (b := (n : Int)) (by omega)
      have e' : (((i : Int) - k) % (n : Int)).toNat = (((j : Int) - k) % (n : Int)).toNat := e
      have h3 : ((i : Int) - k) % (n : Int) = ((j : Int) - k) % (n : Int) := by omega
      have h4 := Int.emod_eq_emod_iff_emod_sub_eq_zero.mp h3
      rw [show (i : Int) - k - ((j : Int) - k) = (i : Int) - (j : Int) by omega] at h4
      have h5 := Int.emod_eq_emod_iff_emod_sub_eq_zero.mpr h4
      rw [Int.emod_eq_of_lt (by omega) (by omega), Int.emod_eq_of_lt (by omega) (by omega)] at h5
      omega
  have h := ((inj_perm hI).map g).sum_nat
  rw [List.map_map] at h
  exact h
section
variable {P : Nat} {a hs : List Nat} (w : Hh P a hs)
include w
theorem Hh.hn : 0 < hs.length := by rw [w.ln]; exact w.w.n
theorem Hh.cnt {T : Nat} (hT : mx hs ≤ T) (j : Int) : ovc hs T j = hx a j := by
  unfold ovc
  rw [← List.length_map (f := fun b : Nat => (sa P a (j - b) j).getD 0)]
  have mem : ∀ b ∈ (List.range' 1 T).filter (fun b : Nat => decide (lx hs j < lx hs (j - b))), 1 ≤ b ∧ ∃ y, sa P a (j - b) j = some y ∧ y < hx a j := fun b hb => by
    rw [List.mem_filter] at hb
    have h1 := (List.mem_range'_1.mp hb.1).1
    exact ⟨h1, (w.over (by omega)).mp (of_decide_eq_true hb.2)⟩
  refine full_len (nodup_map_on (List.Pairwise.filter _ List.nodup_range') fun x hx y hy e => ?_) (fun z hz => ?_) fun v hv => ?_
  · obtain ⟨x1, u, x2, x3⟩ := mem x hx
    obtain ⟨y1, u', y2, y3⟩ := mem y hy
    rw [x2, y2] at e
    have e' : u = u' := e
    subst e'
    have := w.two x2 y2
    omega
  · obtain ⟨b, hb, rfl⟩ := List.mem_map.mp hz
    obtain ⟨_, y, h2, h3⟩ := mem b hb
    rw [h2]
    exact h3
  · have hvP : v < P := by have := w.w.hx_le j; omega
    obtain ⟨i, hi⟩ := w.every hvP j
    have hij := sa_le hi
    have hne : i ≠ j := by
      rintro rfl
      rw [sa_self] at hi
      split at hi
      · cases hi
        omega
      · cases hi
    have hair := ((w.air (i := i)).mp ⟨v, hi⟩).2
    have hle := hx_le w.hn i
    refine List.mem_map.mpr ⟨(j - i).toNat, List.mem_filter.mpr ⟨List.mem_range'_1.mpr ⟨by omega, ?_⟩, ?_⟩, ?_⟩
    · unfold lx at hair
      omega
    · rw [show j - ((j - i).toNat : Int) = i by omega]
      exact decide_eq_true ((w.over (by omega)).mpr ⟨v, hi, hv⟩)
    · rw [show j - ((j - i).toNat : Int) = i by omega, hi]
      rfl
theorem Hh.ovL : ovL hs = a := by
  unfold Pf.ovL
  refine List.ext_getElem (by simp [w.ln]) fun i h1 h2 => ?_
  rw [List.getElem_map, List.getElem_range', w.cnt (Nat.le_refl _), Nat.zero_add, Nat.one_mul, hx_nat h2]
theorem Hh.inair {T : Nat} (hT : mx hs ≤ T) (t : Int) : ((List.range T).filter fun k : Nat => decide (k < hx hs (t - k))).length = P := by
  rw [← List.length_map (f := fun k : Nat => (sa P a (t - k) t).getD 0)]
  have mem : ∀ k ∈ (List.range T).filter (fun k : Nat => decide (k < hx hs (t - k))), ∃ y, sa P a (t - k) t = some y := fun k hk => by
    rw [List.mem_filter] at hk
    have h := of_decide_eq_true hk.2
    exact w.air.mpr ⟨by omega, by unfold lx; omega⟩
  refine full_len (nodup_map_on (List.Pairwise.filter _ List.nodup_range) fun x hx y hy e => ?_) (fun z hz => ?_) fun v hv => ?_
  · obtain ⟨u, x2⟩ := mem x hx
    obtain ⟨u', y2⟩ := mem y hy
    rw [x2, y2] at e
    have e' : u = u' := e
    subst e'
    have := w.two x2 y2
    omega
  · obtain ⟨b, hb, rfl⟩ := List.mem_map.mp hz
    obtain ⟨y, h2⟩ := mem b hb
    rw [h2]
    exact sa_lt h2
  · obtain ⟨i, hi⟩ := w.every hv t
    have hij := sa_le hi
    have hair := ((w.air (i := i)).mp ⟨v, hi⟩).2
    have hle := hx_le w.hn i
    unfold lx at hair
    refine List.mem_map.mpr ⟨(t - i).toNat, List.mem_filter.mpr ⟨List.mem_range.mpr (by omega), ?_⟩, ?_⟩
    · rw [show t - ((t - i).toNat : Int) = i by omega]
      exact decide_eq_true (by omega)
    · rw [show t - ((t - i).toNat : Int) = i by omega, hi]
      rfl
omit w in
/-- the heights' sum, counted beat by beat -/
theorem sum_beats {hs : List Nat} (hn : 0 < hs.length) {T : Nat} (hT : mx hs ≤ T) : ((List.range' 0 hs.length).map fun t : Nat => ((List.range T).filter fun k : Nat => decide (k < hx hs ((t : Int) - k))).length).sum = hs.sum := by
  have e1 : ((List.range' 0 hs.length).map fun t : Nat => ((List.range T).filter fun k : Nat => decide (k < hx hs ((t : Int) - k))).length) = (List.range' 0 hs.length).map fun t : Nat => ((List.range T).map fun k : Nat => if k < hs.getD (((t : Int) - k) % (hs.length : Int)).toNat 0 then 1 else 0).sum := List.map_congr_left fun t _ => by
    rw [filt_sum]
    congr 1
    refine List.map_congr_left fun k _ => ?_
    unfold hx
    simp
  rw [e1, sum_swap]
  have e2 : ((List.range T).map fun k : Nat => ((List.range' 0 hs.length).map fun t : Nat => if k < hs.getD (((t : Int) - k) % (hs.length : Int)).toNat 0 then 1 else 0).sum) = (List.range T).map fun k : Nat => ((List.range' 0 hs.length).map fun r : Nat => if k < hs.getD r 0 then 1 else 0).sum := List.map_congr_left fun k _ => sum_res hn (k : Int) fun r => if k < hs.getD r 0 then 1 else 0
  rw [e2, ← sum_swap fun (r k : Nat) => if k < hs.getD r 0 then 1 else 0]
  have e3 : ((List.range' 0 hs.length).map fun r : Nat => ((List.range T).map fun k : Nat => if k < hs.getD r 0 then 1 else 0).sum) = (List.range' 0 hs.length).map fun r : Nat => hs.getD r 0 := List.map_congr_left fun r hr => by
    have hr' : r < hs.length := by have := (List.mem_range'_1.mp hr).2; omega
    rw [sum_lt]
    have : hs.getD r 0 ≤ mx hs := by
      rw [List.getD_eq_getElem?_getD, List.getElem?_eq_getElem hr', Option.getD_some]
      exact (mx_mem hn).2 _ (List.getElem_mem hr')
    omega
  rw [e3]
  congr 1
  refine List.ext_getElem (by simp) fun i h1 h2 => ?_
  rw [List.getElem_map, List.getElem_range', Nat.zero_add, Nat.one_mul, List.getD_eq_getElem?_getD, List.getElem?_eq_getElem h2, Option.getD_some]
theorem Hh.sum : hs.sum = hs.length * P := by
  rw [← sum_beats w.hn (Nat.le_refl _)]
  have : ((List.range' 0 hs.length).map fun t : Nat => ((List.range (mx hs)).filter fun k : Nat => decide (k < hx hs ((t : Int) - k))).length) = (List.range' 0 hs.length).map fun _ : Nat => P := List.map_congr_left fun t _ => w.inair (Nat.le_refl _) (t : Int)
  rw [this, sum_const]
  simp
theorem Hh.pos {i : Nat} (hi : i < a.length) : hs.getD i 0 = 0 ↔ hx a (i : Int) = P := by
  have h1 := w.act (i := (i : Int))
  have h2 := w.w.hx_le (i : Int)
  have h3 : hx hs (i : Int) = hs.getD i 0 := by
    have hi' : i < hs.length := by rw [w.ln]; exact hi
    rw [hx_nat hi', List.getD_eq_getElem?_getD, List.getElem?_eq_getElem hi', Option.getD_some]
  unfold lx at h1
  rw [h3] at h1
  constructor
  · intro z
    rw [z] at h1
    have : ¬ hx a (i : Int) < P := fun q => by have := h1.mpr q; omega
    omega
  · intro z
    have : ¬ hx a (i : Int) < P := by omega
    have := mt h1.mp this
    omega
end
end Pf

/-! A pattern's heights are those that its numbers of overtakings make. -/
namespace Pf
open PySem PySem.Spec PyProof.Rows L2
theorem cntSame {q q' : Nat → Bool} : ∀ L : List Nat, (∀ b ∈ L, q' b = q b) → (L.filter q').length = (L.filter q).length
  | [], _ => rfl
  | b :: L, h => by
    have ih := cntSame (q := q) (q' := q') L fun b hb => h b (List.mem_cons_of_mem _ hb)
    rw [List.filter_cons, List.filter_cons, h b List.mem_cons_self]
    split
    · rw [List.length_cons, List.length_cons, ih]
    · exact ih
theorem cntUp {q q' : Nat → Bool} {b0 : Nat} (h0 : q b0 = false) (h1 : q' b0 = true) : ∀ L : List Nat, L.Nodup → b0 ∈ L → (∀ b ∈ L, b ≠ b0 → q' b = q b) → (L.filter q').length = (L.filter q).length + 1
  | [], _, h, _ => by cases h
  | b :: L, nd, hm, h => by
    rw [List.nodup_cons] at nd
    rw [List.filter_cons, List.filter_cons]
    by_cases hb : b = b0
    · subst hb
      rw [if_pos h1, if_neg (by rw [h0]; simp), List.length_cons, cntSame L fun b' hb' => h b' (List.mem_cons_of_mem _ hb') fun e => nd.1 (e ▸ hb')]
    · have ih := cntUp h0 h1 L nd.2 ((List.mem_cons.mp hm).resolve_left (Ne.symm hb)) fun b hb => h b (List.mem_cons_of_mem _ hb)
      rw [h b List.mem_cons_self hb]
      split
      · rw [List.length_cons, List.length_cons, ih]
      · exact ih
theorem cntLe {q q' : Nat → Bool} : ∀ L : List Nat, (∀ b ∈ L, q b = true → q' b = true) → (L.filter q).length ≤ (L.filter q').length
  | [], _ => Nat.le_refl _
  | b :: L, h => by
    have ih := cntLe (q := q) (q' := q') L fun b hb => h b (List.mem_cons_of_mem _ hb)
    have h1 := h b List.mem_cons_self
    rw [List.filter_cons, List.filter_cons]
    by_cases hq : q b = true
    · rw [if_pos hq, if_pos (h1 hq), List.length_cons, List.length_cons]
      omega
    · rw [if_neg hq]
      split
      · rw [List.length_cons]; omega
      · exact ih
theorem cntLt {q q' : Nat → Bool} {b0 : Nat} (h0 : q b0 = false) (h1 : q' b0 = true) : ∀ L : List Nat, b0 ∈ L → (∀ b ∈ L, q b = true → q' b = true) → (L.filter q).length + 1 ≤ (L.filter q').length
  | [], hm, _ => by cases hm
  | b :: L, hm, h => by
    have h2 := h b List.mem_cons_self
    rw [List.filter_cons, List.filter_cons]
    by_cases hb : b = b0
    · subst hb
      have := cntLe (q := q) (q' := q') L fun b hb => h b (List.mem_cons_of_mem _ hb)
      rw [if_neg (by rw [h0]; simp), if_pos h1, List.length_cons]
      omega
    · have ih := cntLt h0 h1 L ((List.mem_cons.mp hm).resolve_left (Ne.symm hb)) fun b hb => h b (List.mem_cons_of_mem _ hb)
      by_cases hq : q b = true
      · rw [if_pos hq, if_pos (h2 hq), List.length_cons, List.length_cons]
        omega
      · rw [if_neg hq]
        split
        · rw [List.length_cons]; omega
        · exact ih
/-- how many up to t come down behind m -/
def cB (hs : List Nat) (t m : Int) : Nat := ((List.range (mx hs + 1)).filter fun k : Nat => decide (m < lx hs (t - k))).length
section
variable {hs : List Nat} (hn : 0 < hs.length)
include hn
theorem lx_shift (x k : Int) : lx hs (x + (hs.length : Int) * k) = lx hs x + (hs.length : Int) * k := by
  unfold lx
  rw [hx_mod (show (x + (hs.length : Int) * k) % (hs.length : Int) = x % (hs.length : Int) from Int.add_mul_emod_self_left _ _ _)]
  omega
theorem lx_top (x : Int) : lx hs x ≤ x + mx hs := by
  have := hx_le hn x
  unfold lx
  omega
theorem lx_ge (x : Int) : x ≤ lx hs x := by unfold lx; omega
theorem cB_step {t m : Int} (h : t + 1 ≤ m) : cB hs (t + 1) m = cB hs t m + if m < lx hs (t + 1) then 1 else 0 := by
  unfold cB
  have e1 : (List.range (mx hs + 1)).filter (fun k : Nat => decide (m < lx hs (t - k))) = (List.range (mx hs)).filter fun k : Nat => decide (m < lx hs (t - k)) := by
    have ht := lx_top hn (t - (mx hs : Int))
    rw [List.range_succ, List.filter_append, List.filter_cons, if_neg (by simp; omega), List.filter_nil, List.append_nil]
  have e2 : ((List.range (mx hs + 1)).filter fun k : Nat => decide (m < lx hs (t + 1 - k))).length = (if m < lx hs (t + 1) then 1 else 0) + ((List.range (mx hs)).filter fun k : Nat => decide (m < lx hs (t - k))).length := by
    rw [List.range_succ_eq_map, List.filter_cons, List.filter_map, show t + 1 - ((0 : Nat) : Int) = t + 1 by omega]
    have e3 : ((fun k : Nat => decide (m < lx hs (t + 1 - k))) ∘ Nat.succ) = fun k : Nat => decide (m < lx hs (t - k)) := by
      funext k
      show decide (m < lx hs (t + 1 - ((k + 1 : Nat) : Int))) = _
      rw [show t + 1 - ((k + 1 : Nat) : Int) = t - k by omega]
    rw [e3]
    by_cases hm : m < lx hs (t + 1)
    · rw [if_pos (decide_eq_true hm), if_pos hm, List.length_cons, List.length_map]
      omega
    · rw [if_neg (by simpa using hm), if_neg hm, List.length_map]
      omega
  rw [e1, e2]
  omega
theorem cB_mono (t : Int) {m m' : Int} (h : m ≤ m') : cB hs t m' ≤ cB hs t m := cntLe _ fun b _ hb => decide_eq_true (by have := of_decide_eq_true hb; omega)
theorem win {t m j : Int} (hm : t ≤ m) (hj : j ≤ t) (h : m < lx hs j) : (t - j).toNat ∈ List.range (mx hs + 1) := by
  have := lx_top hn j
  exact List.mem_range.mpr (by omega)
theorem cB_lt {t m m' j : Int} (hm : t ≤ m) (h : m ≤ m') (hj : j ≤ t) (h1 : m < lx hs j) (h2 : lx hs j ≤ m') : cB hs t m' + 1 ≤ cB hs t m := by
  have ej : t - ((t - j).toNat : Int) = j := by omega
  exact cntLt (b0 := (t - j).toNat) (decide_eq_false (by rw [ej]; omega)) (decide_eq_true (by rw [ej]; exact h1)) _ (win hn hm hj h1) fun b _ hb => decide_eq_true (by have := of_decide_eq_true hb; omega)
theorem cB_one (p : Inj (nxt hs) hs.length) {t m j : Int} (hm : t ≤ m) (hj : j ≤ t) (h1 : lx hs j = m + 1) : cB hs t m = cB hs t (m + 1) + 1 := by
  have ej : t - ((t - j).toNat : Int) = j := by omega
  refine cntUp (b0 := (t - j).toNat) (decide_eq_false (by rw [ej]; omega)) (decide_eq_true (by rw [ej]; omega)) _ List.nodup_range (win hn hm hj (by omega)) fun b _ hb => decide_eq_decide.mpr ⟨fun h => ?_, fun h => by omega⟩
  have : lx hs (t - b) ≠ m + 1 := fun e => by
    rw [← h1] at e
    have := lx_inj hn p e
    omega
  omega
theorem cB_no {t m : Int} (h : ∀ j, j ≤ t → lx hs j ≠ m + 1) : cB hs t m = cB hs t (m + 1) := cntSame _ fun b _ => decide_eq_decide.mpr ⟨fun h' => by have := h (t - b) (by omega); omega, fun h' => by omega⟩
theorem lx_onto (p : Inj (nxt hs) hs.length) (m : Int) : ∃ j, lx hs j = m := by
  obtain ⟨e, he, h1⟩ := inj_surj p (mod_lt hn m).1
  have h2 : lx hs (e : Int) % (hs.length : Int) = m % (hs.length : Int) := by
    rw [← lx_mod hn, Int.emod_eq_of_lt (by omega) (by omega), Int.toNat_natCast, h1, (mod_lt hn m).2]
  obtain ⟨k, hk⟩ := Int.dvd_of_emod_eq_zero (Int.emod_eq_emod_iff_emod_sub_eq_zero.mp h2.symm)
  refine ⟨(e : Int) + (hs.length : Int) * k, ?_⟩
  rw [lx_shift hn]
  omega
/-- as many in the air at all times -/
theorem cB_air (p : Inj (nxt hs) hs.length) (t : Int) : cB hs (t + 1) (t + 1) = cB hs t t := by
  rw [cB_step hn (Int.le_refl _)]
  obtain ⟨j, hj⟩ := lx_onto hn p (t + 1)
  have hg := lx_ge hn j
  have hg2 := lx_ge hn (t + 1)
  by_cases h : j ≤ t
  · rw [cB_one hn p (Int.le_refl t) h hj, if_pos]
    have : lx hs (t + 1) ≠ t + 1 := fun e => by
      rw [← hj] at e
      have := lx_inj hn p e
      omega
    omega
  · have : j = t + 1 := by omega
    subst this
    rw [hj, if_neg (by omega), Nat.add_zero]
    refine (cB_no hn fun j' hj' e => ?_).symm
    rw [← hj] at e
    have := lx_inj hn p e
    omega
theorem cB_all (p : Inj (nxt hs) hs.length) (t : Int) : cB hs t t = cB hs 0 0 := by
  have up : ∀ d : Nat, cB hs (d : Int) (d : Int) = cB hs 0 0 := by
    intro d
    induction d with
    | zero => rfl
    | succ d ih =>
      rw [show ((d + 1 : Nat) : Int) = (d : Int) + 1 by omega, cB_air hn p, ih]
  have dn : ∀ d : Nat, cB hs (-(d : Int)) (-(d : Int)) = cB hs 0 0 := by
    intro d
    induction d with
    | zero => rfl
    | succ d ih =>
      rw [← ih, ← cB_air hn p (-((d + 1 : Nat) : Int)), show -((d + 1 : Nat) : Int) + 1 = -(d : Int) by omega]
  rcases Int.lt_or_le t 0 with z | z
  · have := dn (-t).toNat
    rwa [show -((-t).toNat : Int) = t by omega] at this
  · have := up t.toNat
    rwa [show (t.toNat : Int) = t by omega] at this
theorem cB_props (p : Inj (nxt hs) hs.length) {P : Nat} (hP : hs.sum = hs.length * P) (t : Int) : cB hs t t = P := by
  have h := sum_beats hn (T := mx hs + 1) (by omega)
  have e : ((List.range' 0 hs.length).map fun t : Nat => ((List.range (mx hs + 1)).filter fun k : Nat => decide (k < hx hs ((t : Int) - k))).length) = (List.range' 0 hs.length).map fun _ : Nat => cB hs 0 0 := List.map_congr_left fun t _ => by
    rw [← cB_all hn p (t : Int)]
    refine cntSame _ fun k _ => decide_eq_decide.mpr ?_
    unfold lx
    omega
  rw [e, sum_const, hP, List.length_range'] at h
  rw [cB_all hn p]
  exact Nat.eq_of_mul_eq_mul_left hn h
theorem ovc_cB (i : Int) : ovc hs (mx hs) i = cB hs i (lx hs i) := by
  unfold ovc cB
  rw [List.range_succ_eq_map, List.filter_cons, if_neg (by simp), List.filter_map, List.length_map]
  have : List.range' 1 (mx hs) = (List.range (mx hs)).map Nat.succ := by
    refine List.ext_getElem (by simp) fun i h1 h2 => ?_
    simp
    omega
  rw [this, List.filter_map, List.length_map]
theorem hx_ov (i : Int) : hx (ovL hs) i = cB hs i (lx hs i) := by
  have hm := mod_lt hn i
  rw [← ovc_cB hn]
  have e1 : hx (ovL hs) i = ovc hs (mx hs) ((i % (hs.length : Int)).toNat : Int) := by
    unfold hx
    rw [show (ovL hs).length = hs.length by simp [ovL]]
    unfold ovL
    rw [List.getD_eq_getElem?_getD, List.getElem?_map, List.getElem?_range' hm.1]
    simp
  rw [e1, hm.2]
  have e2 : i = i % (hs.length : Int) + (hs.length : Int) * (i / (hs.length : Int)) := (Int.emod_add_mul_ediv i (hs.length : Int)).symm
  generalize i / (hs.length : Int) = q at e2
  generalize i % (hs.length : Int) = r at e2
  subst e2
  refine cntSame _ fun b _ => decide_eq_decide.mpr ?_
  rw [show r + (hs.length : Int) * q - (b : Int) = (r - b) + (hs.length : Int) * q by omega, lx_shift hn, lx_shift hn]
  omega
theorem ov_Rw (p : Inj (nxt hs) hs.length) {P : Nat} (hP : hs.sum = hs.length * P) : Rw P (ovL hs) := by
  refine ⟨by simpa [ovL] using hn, fun x hx' => ?_, fun _ => ?_⟩
  · obtain ⟨i, hi, rfl⟩ := List.mem_map.mp hx'
    rw [ovc_cB hn, ← cB_props hn p hP (i : Int)]
    exact cB_mono hn _ (lx_ge hn _)
  · obtain ⟨i, hi, e⟩ := List.getElem_of_mem (mx_mem hn).1
    refine List.mem_map.mpr ⟨i, List.mem_range'_1.mpr ⟨Nat.zero_le _, by omega⟩, ?_⟩
    unfold ovc
    rw [List.filter_eq_nil_iff.mpr]
    · rfl
    · intro b hb
      have h1 := (List.mem_range'_1.mp hb).1
      have h2 := lx_top hn ((i : Int) - b)
      have h3 := lx_nat hi
      rw [e] at h3
      simp
      omega
theorem ov_sa (p : Inj (nxt hs) hs.length) {P : Nat} (hP : hs.sum = hs.length * P) {i : Int} : ∀ d : Nat, i + (d : Int) < lx hs i → sa P (ovL hs) i (i + d) = some (cB hs (i + d) (lx hs i))
  | 0, h => by
    rw [show i + ((0 : Nat) : Int) = i by omega] at h ⊢
    rw [sa_self, hx_ov hn, if_pos]
    have := cB_lt hn (Int.le_refl i) (by omega : i ≤ lx hs i) (Int.le_refl i) h (Int.le_refl _)
    rw [cB_props hn p hP] at this
    omega
  | d + 1, h => by
    have ih := ov_sa p hP (i := i) d (by omega)
    rw [show i + ((d + 1 : Nat) : Int) = (i + d) + 1 by omega] at h ⊢
    generalize ht : i + (d : Int) = t at ih h
    have hit : i ≤ t := by omega
    rw [sa_step hit, ih]
    show up1 P _ _ = _
    rw [hx_ov hn]
    have hN := cB_props hn p hP t
    have hst := cB_step hn (t := t) (m := lx hs i) (by omega)
    have hsj := cB_step hn (t := t) (m := lx hs (t + 1)) (lx_ge hn _)
    rw [if_neg (by omega), Nat.add_zero] at hsj
    have hne : lx hs (t + 1) ≠ lx hs i := fun e => by
      have := lx_inj hn p e
      omega
    have hgj := lx_ge hn (t + 1)
    rw [hsj, hst]
    rcases Int.lt_or_le (t + 1) (lx hs (t + 1)) with ha | ha
    · -- an active beat: another one comes down
      obtain ⟨j, hj⟩ := lx_onto hn p (t + 1)
      have hgj' := lx_ge hn j
      have hjt : j ≤ t := by
        rcases Int.lt_or_le t j with z | z
        · have : j = t + 1 := by omega
          subst this
          omega
        · exact z
      have c1 := cB_lt hn (Int.le_refl t) (by omega : t ≤ lx hs (t + 1)) hjt (by omega) (by omega)
      have b1 := cB_lt hn (Int.le_refl t) (by omega : t ≤ t + 1) hjt (by omega) (by omega)
      have b2 := cB_lt hn (by omega : t ≤ t + 1) (by omega : t + 1 ≤ lx hs i) hit (by omega) (Int.le_refl _)
      rw [hN] at c1 b1
      rcases Int.lt_or_le (lx hs i) (lx hs (t + 1)) with z | z
      · have := cB_mono hn t (by omega : lx hs i ≤ lx hs (t + 1))
        rw [if_pos z]
        exact up1_hi this (by omega)
      · rw [if_neg (by omega), Nat.add_zero]
        have := cB_lt hn (by omega : t ≤ lx hs (t + 1)) z hit (by omega) (Int.le_refl _)
        exact up1_lo (by omega) (by omega)
    · have ha' : lx hs (t + 1) = t + 1 := by omega
      rw [ha', if_neg (by omega), Nat.add_zero]
      refine up1_keep ?_
      have : cB hs t t = cB hs t (t + 1) := cB_no hn fun j hj e => by
        rw [← ha'] at e
        have := lx_inj hn p e
        omega
      omega
theorem ov_down (p : Inj (nxt hs) hs.length) {P : Nat} (hP : hs.sum = hs.length * P) {i : Int} : sa P (ovL hs) i (lx hs i) = none := by
  have hg := lx_ge hn i
  rcases Int.lt_or_le i (lx hs i) with z | z
  · have h := ov_sa hn p hP (i := i) (lx hs i - 1 - i).toNat (by omega)
    rw [show i + ((lx hs i - 1 - i).toNat : Int) = lx hs i - 1 by omega] at h
    have h2 := sa_step (P := P) (a := ovL hs) (i := i) (t := lx hs i - 1) (by omega)
    rw [show lx hs i - 1 + 1 = lx hs i by omega] at h2
    rw [h2, h]
    show up1 P _ _ = none
    rw [hx_ov hn]
    generalize ht : lx hs i - 1 = t at *
    have el : lx hs i = t + 1 := by omega
    have hN := cB_props hn p hP t
    have h1 := cB_one hn p (Int.le_refl t) (show i ≤ t by omega) el
    have hgj := lx_ge hn (t + 1)
    have hne : lx hs (t + 1) ≠ t + 1 := fun e => by
      rw [← el] at e
      have := lx_inj hn p e
      omega
    have hsj := cB_step hn (t := t) (m := lx hs (t + 1)) (lx_ge hn _)
    rw [if_neg (by omega), Nat.add_zero] at hsj
    have := cB_lt hn (Int.le_refl t) (by omega : t ≤ lx hs (t + 1)) (show i ≤ t by omega) (by omega) (by omega)
    rw [el, hsj]
    unfold up1
    rw [if_neg (by omega), if_pos (by omega)]
  · have e : lx hs i = i := by omega
    rw [e, sa_self, hx_ov hn, e, cB_props hn p hP, if_neg (by omega)]
theorem ov_Hh (p : Inj (nxt hs) hs.length) {P : Nat} (hP : hs.sum = hs.length * P) : Hh P (ovL hs) hs := by
  refine ⟨ov_Rw hn p hP, by simp [ovL], fun i hi => ?_⟩
  have hi' : i < hs.length := by simpa [ovL] using hi
  have hd := ov_down hn p hP (i := (i : Int))
  have e : hs.getD i 0 = hx hs (i : Int) := by rw [hx_nat hi', List.getD_eq_getElem?_getD, List.getElem?_eq_getElem hi', Option.getD_some]
  rw [e]
  have el : lx hs (i : Int) = (i : Int) + (hx hs (i : Int) : Int) := rfl
  refine ⟨?_, fun k hk => ?_⟩
  · unfold sa at hd
    rw [el, if_pos (by omega), show ((i : Int) + (hx hs (i : Int) : Int) - (i : Int)).toNat = hx hs (i : Int) by omega] at hd
    exact hd
  · have h := ov_sa hn p hP (i := (i : Int)) k (by rw [el]; omega)
    unfold sa at h
    rw [if_pos (by omega), show ((i : Int) + (k : Int) - (i : Int)).toNat = k by omega] at h
    rw [h]
    simp
end
end Pf

/-! Rules for walks that go by themselves. -/
namespace Pf
open PySem PySem.Spec PyProof.Rows L2
section
variable {G : Gb} {en en1 en2 en3 : En} {P : Pt} {ss : Ss}
theorem as_eq {e : E} {d d' : D} (h : As G e d en en1) (hd : d = d') : As G e d' en en1 := hd ▸ h
theorem as_orF {a b : E} {es : Es} (ha : As G a (.bl false) en en1) (hb : As G (.bop false (.cons b es)) (.bl false) en1 en2) : As G (.bop false (.cons a (.cons b es))) (.bl false) en en2 := as_bopN (t := false) rfl ha hb
theorem as_andT {a b : E} {es : Es} (ha : As G a (.bl true) en en1) (hb : As G (.bop true (.cons b es)) (.bl true) en1 en2) : As G (.bop true (.cons a (.cons b es))) (.bl true) en en2 := as_bopN (t := true) rfl ha hb
/-- all parts are asked in turn and leave things as they are -/
theorem as_andV {a b : E} {es : Es} {s t : Bool} (ha : As G a (.bl s) en en) (hb : s = true → As G (.bop true (.cons b es)) (.bl t) en en) : As G (.bop true (.cons a (.cons b es))) (.bl (s && t)) en en := by
  cases s with
  | true => exact as_bopN rfl ha (hb rfl)
  | false => exact as_bopS rfl ha
theorem as_orV {a b : E} {es : Es} {s t : Bool} (ha : As G a (.bl s) en en) (hb : s = false → As G (.bop false (.cons b es)) (.bl t) en en) : As G (.bop false (.cons a (.cons b es))) (.bl (s || t)) en en := by
  cases s with
  | false => exact as_bopN rfl ha (hb rfl)
  | true => exact as_bopS rfl ha
theorem as_ntF {a : E} (ha : As G a (.bl true) en en1) : As G (.nt a) (.bl false) en en1 := as_nt ha
theorem as_ntT {a : E} (ha : As G a (.bl false) en en1) : As G (.nt a) (.bl true) en en1 := as_nt ha
theorem as_eqT' {a b : E} {x y : Int} (ha : As G a (.int x) en en1) (hb : As G b (.int y) en1 en2) (h : x = y) : As G (.cmp .Eq a b) (.bl true) en en2 := as_castb (as_eqI ha hb) (decide_eq_true h)
theorem as_eqF' {a b : E} {x y : Int} (ha : As G a (.int x) en en1) (hb : As G b (.int y) en1 en2) (h : x ≠ y) : As G (.cmp .Eq a b) (.bl false) en en2 := as_castb (as_eqI ha hb) (decide_eq_false h)
theorem as_neT' {a b : E} {x y : Int} (ha : As G a (.int x) en en1) (hb : As G b (.int y) en1 en2) (h : x ≠ y) : As G (.cmp .NotEq a b) (.bl true) en en2 := as_castb (as_neI ha hb) (by rw [decide_eq_false h]; rfl)
theorem as_neF' {a b : E} {x y : Int} (ha : As G a (.int x) en en1) (hb : As G b (.int y) en1 en2) (h : x = y) : As G (.cmp .NotEq a b) (.bl false) en en2 := as_castb (as_neI ha hb) (by rw [decide_eq_true h]; rfl)
theorem as_ltT' {a b : E} {x y : Int} (ha : As G a (.int x) en en1) (hb : As G b (.int y) en1 en2) (h : x < y) : As G (.cmp .Lt a b) (.bl true) en en2 := as_castb (as_ltI ha hb) (decide_eq_true h)
theorem as_ltF' {a b : E} {x y : Int} (ha : As G a (.int x) en en1) (hb : As G b (.int y) en1 en2) (h : y ≤ x) : As G (.cmp .Lt a b) (.bl false) en en2 := as_castb (as_ltI ha hb) (decide_eq_false (by omega))
theorem as_leT' {a b : E} {x y : Int} (ha : As G a (.int x) en en1) (hb : As G b (.int y) en1 en2) (h : x ≤ y) : As G (.cmp .LtE a b) (.bl true) en en2 := as_castb (as_leI ha hb) (decide_eq_true h)
theorem as_leF' {a b : E} {x y : Int} (ha : As G a (.int x) en en1) (hb : As G b (.int y) en1 en2) (h : y < x) : As G (.cmp .LtE a b) (.bl false) en en2 := as_castb (as_leI ha hb) (decide_eq_false (by omega))
theorem as_gtT' {a b : E} {x y : Int} (ha : As G a (.int x) en en1) (hb : As G b (.int y) en1 en2) (h : y < x) : As G (.cmp .Gt a b) (.bl true) en en2 := as_castb (as_gtI ha hb) (decide_eq_true h)
theorem as_gtF' {a b : E} {x y : Int} (ha : As G a (.int x) en en1) (hb : As G b (.int y) en1 en2) (h : x ≤ y) : As G (.cmp .Gt a b) (.bl false) en en2 := as_castb (as_gtI ha hb) (decide_eq_false (by omega))
theorem as_geT' {a b : E} {x y : Int} (ha : As G a (.int x) en en1) (hb : As G b (.int y) en1 en2) (h : y ≤ x) : As G (.cmp .GtE a b) (.bl true) en en2 := as_castb (as_geI ha hb) (decide_eq_true h)
theorem as_geF' {a b : E} {x y : Int} (ha : As G a (.int x) en en1) (hb : As G b (.int y) en1 en2) (h : x < y) : As G (.cmp .GtE a b) (.bl false) en en2 := as_castb (as_geI ha hb) (decide_eq_false (by omega))
theorem as_isT {a : E} (ha : As G a .non en en1) : As G (.cmp .Is a .non) (.bl true) en en1 := as_isN ha
theorem as_isF {a : E} {x : D} (ha : As G a x en en1) (h : isNon x = false) : As G (.cmp .Is a .non) (.bl false) en en1 := as_castb (as_isN ha) h
theorem as_isnF {a : E} (ha : As G a .non en en1) : As G (.cmp .IsNot a .non) (.bl false) en en1 := as_isnN ha
theorem as_isnT {a : E} {x : D} (ha : As G a x en en1) (h : isNon x = false) : As G (.cmp .IsNot a .non) (.bl true) en en1 := as_castb (as_isnN ha) (by rw [h]; rfl)
theorem as_isiB {a : E} {ts : List String} {x : D} {t : Bool} (ha : As G a x en en1) (hx : isiT x = true) (h : ts.any (isiB x) = t) : As G (.isi a ts) (.bl t) en en1 := as_castb (as_isi ha hx) h
theorem as_isioB {i : Nat} {ts : List String} {x : D} {t : Bool} (ha : (en[i]?).join = some x) (hf : fz x = false) (hx : isiT x = true) (h : ts.any (isiB x) = t) : As G (.isi (.var i) ts) (.bl t) en en := as_castb (as_isio ha hf hx) h
/-- rules with their side goals last -/
theorem as_modL {a b : E} {x y : Int} (ha : As G a (.int x) en en1) (hb : As G b (.int y) en1 en2) (hy : 0 < y) : As G (.bin .Mod a b) (.int (x % y)) en en2 := as_mod hy ha hb
theorem as_fdivL {a b : E} {x y : Int} (ha : As G a (.int x) en en1) (hb : As G b (.int y) en1 en2) (hy : 0 < y ∧ y.natAbs.log2 < 9000) : As G (.bin .FloorDiv a b) (.int (x / y)) en en2 := as_fdiv hy.1 hy.2 ha hb
theorem as_mulX {a b : E} {x y : Int} (ha : As G a (.int x) en en1) (hb : As G b (.int y) en1 en2) (hy : (-(2 ^ 64) < x ∧ x < 2 ^ 64) ∨ (-(2 ^ 64) < y ∧ y < 2 ^ 64)) : As G (.bin .Mult a b) (.int (x * y)) en en2 := hy.elim (fun h => as_mulL h ha hb) fun h => as_mulR h ha hb
theorem as_eqTup {a b : E} {x y : List Int} (ha : As G a (.tup (x.map .int)) en en1) (hb : As G b (.tup (y.map .int)) en1 en2) : As G (.cmp .Eq a b) (.bl (decide (x = y))) en en2 := as_cmp ha hb fun k h => by
  simp only [cmpW, eqW, dat, deq, dats_ints, deqs_ints, Bool.false_xor]
  exact ⟨⟨trivial, trivial⟩, h⟩
theorem as_neTF {a b : E} {x y : List Int} (ha : As G a (.tup (x.map .int)) en en1) (hb : As G b (.tup (y.map .int)) en1 en2) (h : x = y) : As G (.cmp .NotEq a b) (.bl false) en en2 := as_castb (as_neT ha hb) (by rw [decide_eq_true h]; rfl)
theorem as_neLF {a b : E} {o o' : Bool} {x y : List Int} (ha : As G a (.lst o (x.map .int)) en en1) (hb : As G b (.lst o' (y.map .int)) en1 en2) (h : x = y) : As G (.cmp .NotEq a b) (.bl false) en en2 := as_cmp ha hb fun k hk => by
  simp only [cmpW, eqW, dat, deq, dats_ints, deqs_ints, Bool.true_xor, decide_eq_true h]
  exact ⟨⟨trivial, trivial⟩, hk⟩
/-- x != y, both plain and equal -/
theorem as_neDF {a b : E} {x y : D} (ha : As G a x en en1) (hb : As G b y en1 en2) (h1 : dat 60 x = true) (h2 : dat 60 y = true) (h : deq x y = true) : As G (.cmp .NotEq a b) (.bl false) en en2 := as_cmp ha hb fun k hk => by
  simp only [cmpW, eqW, h1, h2, h]
  exact ⟨⟨trivial, trivial⟩, hk⟩
theorem as_eqDT {a b : E} {x y : D} (ha : As G a x en en1) (hb : As G b y en1 en2) (h1 : dat 60 x = true) (h2 : dat 60 y = true) (h : deq x y = true) : As G (.cmp .Eq a b) (.bl true) en en2 := as_cmp ha hb fun k hk => by
  simp only [cmpW, eqW, h1, h2, h]
  exact ⟨⟨trivial, trivial⟩, hk⟩
theorem as_eqD {a b : E} {x y : D} (ha : As G a x en en1) (hb : As G b y en1 en2) (h1 : dat 60 x = true) (h2 : dat 60 y = true) : As G (.cmp .Eq a b) (.bl (deq x y)) en en2 := as_cmp ha hb fun k hk => by
  simp only [cmpW, eqW, h1, h2, Bool.false_xor]
  exact ⟨⟨trivial, trivial⟩, hk⟩
theorem as_neD {a b : E} {x y : D} (ha : As G a x en en1) (hb : As G b y en1 en2) (h1 : dat 60 x = true) (h2 : dat 60 y = true) : As G (.cmp .NotEq a b) (.bl (!deq x y)) en en2 := as_cmp ha hb fun k hk => by
  simp only [cmpW, eqW, h1, h2, Bool.true_xor]
  exact ⟨⟨trivial, trivial⟩, hk⟩
end
/-! loops -/
/-- for i in range(n) -/
theorem fr_rg {j n : Nat} {body : En → (En → Prop) → Prop} {fin : En → Prop} (I : Nat → En → Prop) (step : ∀ s en K, s < n → I s en → (∀ e, I (s + 1) e → K e) → body (en.set j (some (.int (s : Int)))) K) (hf : ∀ en, I n en → fin en) {en : En} (h0 : I 0 en) : frW [j] body fin ((List.range' 0 n).map fun i : Nat => D.int (i : Int)) en := by
  have go : ∀ (m s : Nat) (en : En), s + m = n → I s en → frW [j] body fin ((List.range' s m).map fun i : Nat => D.int (i : Int)) en := by
    intro m
    induction m with
    | zero =>
      intro s en hs h
      have : s = n := by omega
      exact hf en (this ▸ h)
    | succ m ih =>
      intro s en hs h
      rw [List.range'_succ, List.map_cons, frW]
      simp only [bindW]
      exact step s en _ (by omega) h fun e he => ih (s + 1) e (by omega) he
  exact go n 0 en (by omega) h0
/-- for i in range(a, b) -/
theorem fr_rg2 {j a m : Nat} {body : En → (En → Prop) → Prop} {fin : En → Prop} (I : Nat → En → Prop) (step : ∀ s en K, a ≤ s → s < a + m → I s en → (∀ e, I (s + 1) e → K e) → body (en.set j (some (.int (s : Int)))) K) (hf : ∀ en, I (a + m) en → fin en) {en : En} (h0 : I a en) : frW [j] body fin ((List.range' a m).map fun i : Nat => D.int (i : Int)) en := by
  have go : ∀ (k s : Nat) (en : En), a ≤ s → s + k = a + m → I s en → frW [j] body fin ((List.range' s k).map fun i : Nat => D.int (i : Int)) en := by
    intro k
    induction k with
    | zero =>
      intro s en ha hs h
      have : s = a + m := by omega
      exact hf en (this ▸ h)
    | succ k ih =>
      intro s en ha hs h
      rw [List.range'_succ, List.map_cons, frW]
      simp only [bindW]
      exact step s en _ ha (by omega) h fun e he => ih (s + 1) e (by omega) (by omega) he
  exact go m a en (Nat.le_refl _) (by omega) h0
/-- for x in xs -/
theorem fr_xs {α : Type} {j : Nat} {body : En → (En → Prop) → Prop} {fin : En → Prop} (xs : List α) (dm : α → D) (I : Nat → En → Prop) (step : ∀ s (h : s < xs.length) en K, I s en → (∀ e, I (s + 1) e → K e) → body (en.set j (some (dm xs[s]))) K) (hf : ∀ en, I xs.length en → fin en) {en : En} (h0 : I 0 en) : frW [j] body fin (xs.map dm) en := by
  have go : ∀ (m s : Nat) (en : En), s + m = xs.length → I s en → frW [j] body fin ((xs.drop s).map dm) en := by
    intro m
    induction m with
    | zero =>
      intro s en hs h
      have : s = xs.length := by omega
      subst this
      rw [List.drop_length]
      exact hf en h
    | succ m ih =>
      intro s en hs h
      rw [List.drop_eq_getElem_cons (by omega), List.map_cons, frW]
      simp only [bindW]
      exact step s (by omega) en _ h fun e he => ih (s + 1) e (by omega) he
  have := go xs.length 0 en (by omega) h0
  rwa [List.drop_zero] at this
end Pf

/-! Terms that the laws of rows share (printed by gen3.py). -/
namespace Pf
open PySem PySem.Spec PyProof.Rows L2
def m__overtaking_row : Ss := (.cons (.asg 1 (.call "_single_heights" (.cons (.fv 0) .nil))) (.cons (.asg 2 (.fld (.fv 0) "size")) (.cons (.asg 3 (.lst .nil)) (.cons (.forr [4] (.rng (.cons (.var 2) .nil)) (.cons (.asg 5 (.bin .Add (.var 4) (.idx (.var 1) (.var 4)))) (.cons (.asg 6 (.lc [7] (.rng (.cons (.bin .Sub (.var 4) (.fld (.fv 0) "top")) (.cons (.var 4) .nil))) (.cons (.cmp .Gt (.bin .Add (.var 7) (.idx (.var 1) (.bin .Mod (.var 7) (.var 2)))) (.var 5)) .nil) (.var 7))) (.cons (.expr (.mut .append 3 (.cons (.blt .len (.cons (.var 6) .nil)) .nil))) .nil)))) (.cons (.ret (.var 3)) .nil)))))
def m_overtakings : Ss := (.cons (.ret (.blt .tuple1 (.cons (.call "_overtaking_row" (.cons (.fv 0) .nil)) .nil))) .nil)
def m__check_overtakings : Ss := (.cons (.expr (.call "check_whole" (.cons (.var 0) (.cons (.str "props") (.cons (.int 0) .nil))))) (.cons (.iff (.bop false (.cons (.nt (.call "is_row" (.cons (.fv 1) .nil))) (.cons (.cmp .Eq (.blt .len (.cons (.fv 1) .nil)) (.int 0)) .nil))) (.cons (.raise "BadRow" (.cons (.neg (.int 1)) .nil)) .nil) .nil) (.cons (.forr [2] (.rng (.cons (.blt .len (.cons (.fv 1) .nil)) .nil)) (.cons (.iff (.bop false (.cons (.nt (.call "is_whole" (.cons (.idx (.fv 1) (.var 2)) .nil))) (.cons (.cmp .Lt (.idx (.fv 1) (.var 2)) (.int 0)) (.cons (.cmp .Gt (.idx (.fv 1) (.var 2)) (.var 0)) .nil)))) (.cons (.raise "BadRow" (.cons (.var 2) .nil)) .nil) .nil) .nil)) (.cons (.ret (.blt .tuple1 (.cons (.fv 1) .nil))) .nil))))
def m__height_from : Ss := (.cons (.asg 3 (.idx (.fv 1) (.var 2))) (.cons (.iff (.cmp .Eq (.var 3) (.var 0)) (.cons (.ret (.int 0)) .nil) .nil) (.cons (.asg 4 (.int 0)) (.cons (.whl (.bl true) (.cons (.aug 4 .Add (.int 1)) (.cons (.asg 5 (.idx (.fv 1) (.bin .Mod (.bin .Add (.var 2) (.var 4)) (.blt .len (.cons (.fv 1) .nil))))) (.cons (.iff (.cmp .Lt (.var 5) (.var 0)) (.cons (.iff (.cmp .Eq (.var 3) (.bin .Sub (.var 0) (.int 1))) (.cons (.ret (.var 4)) .nil) .nil) (.cons (.iff (.cmp .LtE (.var 5) (.var 3)) (.cons (.aug 3 .Add (.int 1)) .nil) .nil) .nil)) .nil) .nil)))) .nil))))
def m_pattern_by : Ss := (.cons (.asg 2 (.call "_check_overtakings" (.cons (.var 0) (.cons (.fv 1) .nil)))) (.cons (.iff (.bop true (.cons (.cmp .Gt (.var 0) (.int 0)) (.cons (.cmp .Gt (.blt .minL (.cons (.var 2) .nil)) (.int 0)) .nil))) (.cons (.raise "Stuck" .nil) .nil) .nil) (.cons (.ret (.cm "Pattern" "single" (.cons (.lc [3] (.rng (.cons (.blt .len (.cons (.var 2) .nil)) .nil)) .nil (.call "_height_from" (.cons (.var 0) (.cons (.var 2) (.cons (.var 3) .nil))))) .nil))) .nil)))
def m__law_overtakings : Ss := (.cons (.asg 1 (.blt .len (.cons (.fv 0) .nil))) (.cons (.asg 2 (.blt .maxL (.cons (.fv 0) .nil))) (.cons (.asg 3 (.lst .nil)) (.cons (.forr [4] (.rng (.cons (.var 1) .nil)) (.cons (.asg 5 (.int 0)) (.cons (.forr [6] (.rng (.cons (.int 1) (.cons (.bin .Add (.var 2) (.int 1)) .nil))) (.cons (.asg 7 (.bin .Sub (.var 4) (.var 6))) (.cons (.iff (.cmp .Gt (.bin .Add (.var 7) (.idx (.fv 0) (.bin .Mod (.blt .int1 (.cons (.var 7) .nil)) (.var 1)))) (.bin .Add (.var 4) (.idx (.fv 0) (.var 4)))) (.cons (.aug 5 .Add (.int 1)) .nil) .nil) .nil))) (.cons (.expr (.mut .append 3 (.cons (.var 5) .nil))) .nil)))) (.cons (.ret (.var 3)) .nil)))))
def m__law_flat : Ss := (.cons (.ret (.lc [1] (.it (.fv 0)) .nil (.idx (.var 1) (.int 0)))) .nil)
def m__law_row : Ss := (.cons (.asg 3 (.lc [4] (.rng (.cons (.var 1) .nil)) .nil (.call "_law_take" (.cons (.var 0) (.cons (.bin .Add (.var 2) (.int 1)) .nil))))) (.cons (.iff (.cmp .Lt (.call "_law_take" (.cons (.var 0) (.cons (.int 3) .nil))) (.int 2)) (.cons (.put 3 (.call "_law_take" (.cons (.var 0) (.cons (.var 1) .nil))) (.int 0)) .nil) .nil) (.cons (.ret (.var 3)) .nil)))
def m__law_made : Ss := (.cons (.ret (.new "Pattern" (.cons (.new "Line" (.cons (.blt .list1 (.cons (.fv 0) .nil)) .nil)) (.cons (.lc [2] (.it (.fv 1)) .nil (.blt .list1 (.cons (.var 2) .nil))) .nil)))) .nil)
def m__law_props : Ss := (.cons (.asg 1 (.int 0)) (.cons (.forr [2] (.it (.fv 0)) (.cons (.aug 1 .Add (.blt .sum (.cons (.var 2) .nil))) .nil)) (.cons (.ret (.bin .FloorDiv (.var 1) (.blt .len (.cons (.fv 0) .nil)))) .nil)))
end Pf

/-! Overtakings, rows, the pattern of a row. -/
namespace Pf
open PySem PySem.Spec PyProof.Rows L2
def sumH (hs o : List Nat) : Nat := (o.map fun i => hs.getD i 0).sum
theorem sumH_quot (hs : List Nat) : ∀ L : List Nat, ∃ Q, L.sum + sumH hs L = hs.length * Q + (L.map (nxt hs)).sum
  | [] => ⟨0, rfl⟩
  | i :: L => by
    obtain ⟨Q, e⟩ := sumH_quot hs L
    refine ⟨Q + (i + hs.getD i 0) / hs.length, ?_⟩
    have h1 := Nat.div_add_mod (i + hs.getD i 0) hs.length
    have e2 : sumH hs (i :: L) = hs.getD i 0 + sumH hs L := rfl
    rw [List.sum_cons, e2, List.map_cons, List.sum_cons, Nat.mul_add]
    unfold nxt at e ⊢
    omega
theorem sumH_all (hs : List Nat) : sumH hs (List.range' 0 hs.length) = hs.sum := by
  unfold sumH
  have := map_getD (fun x : Nat => x) 0 hs
  rw [List.map_id'] at this
  rw [this]
theorem sumH_perm {hs a b : List Nat} (h : a.Perm b) : sumH hs a = sumH hs b := (h.map _).sum_nat
section
variable {hs : List Nat} (p : SglOk hs)
include p
theorem sum_dvd : hs.sum / hs.length * hs.length = hs.sum := by
  obtain ⟨Q, e⟩ := sumH_quot hs (List.range' 0 hs.length)
  rw [sumH_all, (inj_perm (sgl_inj p)).sum_nat] at e
  have : hs.sum = hs.length * Q := by omega
  rw [this, Nat.mul_div_cancel_left _ p.n, Nat.mul_comm]
theorem sg_props : propsN (ones hs.length) (sg hs) = hs.sum / hs.length := by
  unfold propsN sg ones
  rw [List.length_replicate]
  congr 1
  clear p
  induction hs with
  | nil => rfl
  | cons h hs ih => rw [List.map_cons, List.flatten_cons, List.sum_append, ih, List.sum_cons]; simp
end
section
variable {G : Gb} {en en1 en2 : En} {P : Pt} {ss : Ss}
theorem ass_rgZ {a b : E} {x y : Int} (hx : -(2 ^ 62) ≤ x ∧ x < 2 ^ 62) (hy : -(2 ^ 62) ≤ y ∧ y < 2 ^ 62) (ha : As G a (.int x) en en1) (hb : As G b (.int y) en1 en2) : Ass G (.rng (.cons a (.cons b .nil))) ((List.range (y - x).toNat).map fun i : Nat => D.int (x + (i : Int))) en en2 := fun Q X hq => by
  simp only [evSrc, evs]
  refine ha.e _ _ (hb.e _ _ ?_)
  exact ⟨⟨hx.1, hx.2, hy.1, hy.2⟩, hq⟩
theorem run_aug {i : Nat} {op : Operator} {e : E} : run G (.aug i op e) en P = ((∃ d0, (en[i]?).join = some d0) ∧ ev G e en (fun y e1 => match (e1[i]?).join with
    | some (.int x) => (match op with
      | .Add => ∃ j, y = .int j ∧ P.nx (e1.set i (some (.int (x + j))))
      | .Sub => ∃ j, y = .int j ∧ P.nx (e1.set i (some (.int (x - j))))
      | _ => False)
    | _ => False) P.ex) := by rw [run] <;> rfl
theorem r_augV {i : Nat} {e : E} {x y : Int} {d0 : D} (hw : (en[i]?).join = some d0) (he : As G e (.int y) en en1) (h1 : (en1[i]?).join = some (.int x)) (k : runs G ss (en1.set i (some (.int (x + y)))) P) : runs G (.cons (.aug i .Add e) ss) en P := by
  rw [runs_k, run_aug]
  refine ⟨⟨d0, hw⟩, he.e _ _ ?_⟩
  simp only [h1]
  exact ⟨y, rfl, k⟩
theorem as_cmpL {op : CmpOp} {b : E} {j : Nat} {x y d : D} (ha : (en[j]?).join = some x) (hf : fz x = false) (hb : As G b y en en1) (h1 : (en1[j]?).join = some x) (h : ∀ k : D → Prop, k d → cmpW op x y k) : As G (.cmp op (.var j) b) d en en1 := .of rfl fun Q X hq => by
  rw [ev_cmp, asR_vo ha hf]
  refine hb.r _ _ ?_
  simp only [rv, h1]
  exact h _ hq
theorem as_abs {a : E} {x : Int} (ha : As G a (.int x) en en1) : As G (.blt .abs (.cons a .nil)) (.int (if x < 0 then -x else x)) en en1 := as_blt1 ha fun k h => h
end
theorem neL {o o' : Bool} {x y : List Int} {k : D → Prop} (h : k (.bl (!decide (x = y)))) : cmpW .NotEq (.lst o (x.map .int)) (.lst o' (y.map .int)) k := by
  simp only [cmpW, eqW, dat, deq, dats_ints, deqs_ints, Bool.true_xor]
  exact ⟨⟨trivial, trivial⟩, h⟩
theorem hx_at {hs : List Nat} (hn : 0 < hs.length) (x : Int) : atI ((rI hs).map D.int) (x % (hs.length : Int)) = some (.int (hx hs x : Nat)) := by
  have h := mod_lt hn x
  rw [← h.2]
  unfold hx
  rw [rI_at h.1, List.getD_eq_getElem?_getD, List.getElem?_eq_getElem h.1, Option.getD_some]
theorem hx_at0 {hs : List Nat} {i : Nat} (hi : i < hs.length) : atI ((rI hs).map D.int) (i : Int) = some (.int (hx hs (i : Int) : Nat)) := by
  rw [rI_at hi, hx_nat hi]
section
variable {hs : List Nat}
/-! ### the program's overtakings -/
def orB : Ss := .cons (.asg 5 (.bin .Add (.var 4) (.idx (.var 1) (.var 4)))) (.cons (.asg 6 (.lc [7] (.rng (.cons (.bin .Sub (.var 4) (.fld (.fv 0) "top")) (.cons (.var 4) .nil))) (.cons (.cmp .Gt (.bin .Add (.var 7) (.idx (.var 1) (.bin .Mod (.var 7) (.var 2)))) (.var 5)) .nil) (.var 7))) (.cons (.expr (.mut .append 3 (.cons (.blt .len (.cons (.var 6) .nil)) .nil))) .nil))
theorem ovL_app (hs : List Nat) (s : Nat) : (rI ((List.range' 0 s).map fun i : Nat => ovc hs (mx hs) (i : Int))).map D.int ++ [.int (ovc hs (mx hs) (s : Int) : Nat)] = (rI ((List.range' 0 (s + 1)).map fun i : Nat => ovc hs (mx hs) (i : Int))).map .int := by
  rw [List.range'_concat, List.map_append, rI_map, rI_map, List.map_append]
  simp
def SpORow (F : FSp) : Prop := ∀ (hs : List Nat) (P0 : D), SglOk hs → mx hs ≤ 1000 → frz P0 = sgD false hs → Ret F [P0] (.lst true ((rI (ovL hs)).map .int)) [some (sgD false hs)]
theorem L_orow {G : Gb} {F1 : FSp} (libG : LibG G) (h1 : G.fns "_single_heights" = some F1) (w_hts : SpHts F1) : SpORow (semF G 8 1 [0] m__overtaking_row) := by
  intro hs P0 p hm hP0 q x h
  have eb : m__overtaking_row = .cons (.asg 1 (.call "_single_heights" (.cons (.fv 0) .nil))) (.cons (.asg 2 (.fld (.fv 0) "size")) (.cons (.asg 3 (.lst .nil)) (.cons (.forr [4] (.rng (.cons (.var 2) .nil)) orB) (.cons (.ret (.var 3)) .nil)))) := rfl
  have hP : fz (sgD false hs) = true := fz_pa _ _
  have hH := fz_rowT hs
  have hz := p.z
  have hn := p.n
  have hl1 : (ones hs.length).length = hs.length := by simp [ones]
  have ffP : ∀ {a b c d e f g : Option D}, As G (.fv 0) (sgD false hs) [some (sgD false hs), a, b, c, d, e, f, g] [some (sgD false hs), a, b, c, d, e, f, g] := fun {a b c d e f g} => as_ff rfl hP
  refine ⟨rfl, ?_⟩
  rw [eb]
  refine r_asg (as_call h1 (asr_c (as_fr (d := P0) rfl hP0) asr_0) rfl (w_hts.ok hs _ (frz_pa _ _ _) hz) rfl) ?_
  refine r_asg (as_cast (pa_size libG ffP) (show _ = (hs.length : Int) by rw [hl1])) ?_
  refine r_asg (as_lst asv_0) ?_
  refine r_for (ass_rg1 (n := hs.length) (by omega) (as_v (d := .int hs.length) rfl rfl)) ?_
  refine fr_inv (fun ds en => ∃ s, s ≤ hs.length ∧ ds = ((List.range' s (hs.length - s)).map fun i : Nat => D.int (i : Int)) ∧ ∃ y4 y5 y6 y7, en = [some (sgD false hs), some (rowT hs), some (.int hs.length), some (.lst true ((rI ((List.range' 0 s).map fun i : Nat => ovc hs (mx hs) (i : Int))).map .int)), y4, y5, y6, y7]) ?_ ?_ _ _ ⟨0, Nat.zero_le _, rfl, _, _, _, _, rfl⟩
  · rintro d ds en K ⟨s, hs1, hd, y4, y5, y6, y7, rfl⟩ hK
    have hlt : s < hs.length := by
      rcases Nat.lt_or_ge s hs.length with z | z
      · exact z
      · rw [show hs.length - s = 0 by omega] at hd
        cases hd
    rw [show hs.length - s = (hs.length - (s + 1)) + 1 by omega, List.range'_succ, List.map_cons] at hd
    cases hd
    simp only [bindW, List.set_cons_succ, List.set_cons_zero]
    refine r_asg (as_cast (as_add (as_v (d := .int (s : Int)) rfl rfl) (as_idx (as_v (d := rowT hs) rfl hH) (as_v (d := .int (s : Int)) rfl rfl) rfl (hx_at0 hlt))) (show _ = lx hs (s : Int) from rfl)) ?_
    refine r_asg (as_filt (xs := List.range (mx hs)) (fun k : Nat => D.int ((s : Int) - (mx hs : Int) + (k : Int))) (fun k : Nat => decide (lx hs (s : Int) < lx hs ((s : Int) - ((mx hs - k : Nat) : Int)))) (fun k : Nat => D.int ((s : Int) - (mx hs : Int) + (k : Int))) (en1 := [some (sgD false hs), some (rowT hs), some (.int hs.length), some (.lst true ((rI ((List.range' 0 s).map fun i : Nat => ovc hs (mx hs) (i : Int))).map .int)), some (.int (s : Int)), some (.int (lx hs (s : Int))), y6, y7]) (fun Q X hq => ass_rgZ (x := (s : Int) - (mx hs : Int)) (y := (s : Int)) (by omega) (by omega) (as_sub (as_v (d := .int (s : Int)) rfl rfl) (pa_top libG ffP)) (as_v (d := .int (s : Int)) rfl rfl) Q X (by rw [show ((s : Int) - ((s : Int) - (mx hs : Int))).toNat = mx hs by omega]; exact hq)) (by simp; omega) (fun k hk => ?_) (fun k hk _ => as_v rfl rfl)) ?_
    · have hk' := List.mem_range.mp hk
      refine as_castb (as_gtI (as_add (as_v (d := .int ((s : Int) - (mx hs : Int) + (k : Int))) rfl rfl) (as_idx (as_v (d := rowT hs) rfl hH) (as_mod (by omega) (as_v (d := .int ((s : Int) - (mx hs : Int) + (k : Int))) rfl rfl) (as_v (d := .int hs.length) rfl rfl)) rfl (hx_at hn _))) (as_v (d := .int (lx hs (s : Int))) rfl rfl)) ?_
      rw [show ((s : Int) - ((mx hs - k : Nat) : Int)) = (s : Int) - (mx hs : Int) + (k : Int) by omega]
      rfl
    · refine r_app (xs := (rI ((List.range' 0 s).map fun i : Nat => ovc hs (mx hs) (i : Int))).map .int) (ws := (rI ((List.range' 0 s).map fun i : Nat => ovc hs (mx hs) (i : Int))).map .int) rfl (as_leno rfl) rfl (by simp [rI]; omega) ?_
      rw [runs_0]
      have e9 : (rI ((List.range' 0 s).map fun i : Nat => ovc hs (mx hs) (i : Int))).map D.int ++ [.int (((((List.range (mx hs)).filter (fun k : Nat => decide (lx hs (s : Int) < lx hs ((s : Int) - ((mx hs - k : Nat) : Int))))).map (fun k : Nat => D.int ((s : Int) - (mx hs : Int) + (k : Int)))).length : Nat) : Int)] = (rI ((List.range' 0 (s + 1)).map fun i : Nat => ovc hs (mx hs) (i : Int))).map .int := by
        rw [List.length_map, filt_rev (fun b : Nat => decide (lx hs (s : Int) < lx hs ((s : Int) - (b : Int)))), ← ovL_app]
        rfl
      simp only [List.set_cons_succ, List.set_cons_zero]
      rw [e9]
      exact hK _ ⟨s + 1, hlt, rfl, _, _, _, _, rfl⟩
  · rintro en ⟨s, hs1, hd, y4, y5, y6, y7, rfl⟩
    have : s = hs.length := by
      rcases Nat.lt_or_ge s hs.length with z | z
      · rw [show hs.length - s = (hs.length - (s + 1)) + 1 by omega, List.range'_succ] at hd
        cases hd
      · omega
    subst this
    refine r_retv (d := .lst true ((rI (ovL hs)).map .int)) rfl ?_
    rw [if_neg (by simp)]
    exact h
def SpOvs (F : FSp) : Prop := ∀ (hs : List Nat) (P0 : D), SglOk hs → mx hs ≤ 1000 → frz P0 = sgD false hs → Ret F [P0] (rowT (ovL hs)) [some (sgD false hs)]
theorem L_otakings {G : Gb} {F1 : FSp} (h1 : G.fns "_overtaking_row" = some F1) (w_orow : SpORow F1) : SpOvs (semF G 1 1 [0] m_overtakings) := by
  intro hs P0 p hm hP0 q x h
  have eb : m_overtakings = .cons (.ret (.blt .tuple1 (.cons (.call "_overtaking_row" (.cons (.fv 0) .nil)) .nil))) .nil := rfl
  refine ⟨rfl, ?_⟩
  rw [eb]
  exact r_ret rfl (as_tuple (as_call h1 (asr_c (as_fr (d := P0) rfl hP0) asr_0) rfl (w_orow hs _ p hm (frz_pa _ _ _)) rfl) rfl (by simp)) h
/-! ### the law's -/
def loI : Ss := .cons (.asg 7 (.bin .Sub (.var 4) (.var 6))) (.cons (.iff (.cmp .Gt (.bin .Add (.var 7) (.idx (.fv 0) (.bin .Mod (.blt .int1 (.cons (.var 7) .nil)) (.var 1)))) (.bin .Add (.var 4) (.idx (.fv 0) (.var 4)))) (.cons (.aug 5 .Add (.int 1)) .nil) .nil) .nil)
def loB : Ss := .cons (.asg 5 (.int 0)) (.cons (.forr [6] (.rng (.cons (.int 1) (.cons (.bin .Add (.var 2) (.int 1)) .nil))) loI) (.cons (.expr (.mut .append 3 (.cons (.var 5) .nil))) .nil))
def SpLov (F : FSp) : Prop := ∀ (hs : List Nat) (H0 H : D), 0 < hs.length → hs.length ≤ 1000 → mx hs ≤ 1000 → frz H0 = H → RowD hs H → Ret F [H0] (.lst true ((rI (ovL hs)).map .int)) [some H]
theorem L_lov {G : Gb} : SpLov (semF G 8 1 [0] m__law_overtakings) := by
  intro hs H0 H hn hz hm h0 hH q x h
  have eb : m__law_overtakings = .cons (.asg 1 (.blt .len (.cons (.fv 0) .nil))) (.cons (.asg 2 (.blt .maxL (.cons (.fv 0) .nil))) (.cons (.asg 3 (.lst .nil)) (.cons (.forr [4] (.rng (.cons (.var 1) .nil)) loB) (.cons (.ret (.var 3)) .nil)))) := rfl
  have ffH : ∀ {a b c d e f g : Option D}, As G (.fv 0) H [some H, a, b, c, d, e, f, g] [some H, a, b, c, d, e, f, g] := fun {a b c d e f g} => as_ff rfl hH.fz
  obtain ⟨M1, M2⟩ := mx_mem hn
  refine ⟨rfl, ?_⟩
  rw [eb]
  refine r_asg (as_cast (as_len (as_fr (d := H0) rfl h0) hH.it) (show _ = (hs.length : Int) by rw [List.length_map, rI_len])) ?_
  refine r_asg (as_blt1 (d := .int (mx hs : Int)) ffH fun k hk => ⟨_, hH.it, _, ⟨List.mem_map.mpr ⟨_, M1, rfl⟩, fun y hy => by
    obtain ⟨y', hy', rfl⟩ := List.mem_map.mp hy
    have := M2 y' hy'
    omega⟩, hk⟩) ?_
  refine r_asg (as_lst asv_0) ?_
  refine r_for (ass_rg1 (n := hs.length) (by omega) (as_v (d := .int hs.length) rfl rfl)) ?_
  refine fr_inv (fun ds en => ∃ s, s ≤ hs.length ∧ ds = ((List.range' s (hs.length - s)).map fun i : Nat => D.int (i : Int)) ∧ ∃ y4 y5 y6 y7, en = [some H, some (.int hs.length), some (.int (mx hs)), some (.lst true ((rI ((List.range' 0 s).map fun i : Nat => ovc hs (mx hs) (i : Int))).map .int)), y4, y5, y6, y7]) ?_ ?_ _ _ ⟨0, Nat.zero_le _, rfl, _, _, _, _, rfl⟩
  · rintro d ds en K ⟨s, hs1, hd, y4, y5, y6, y7, rfl⟩ hK
    have hlt : s < hs.length := by
      rcases Nat.lt_or_ge s hs.length with z | z
      · exact z
      · rw [show hs.length - s = 0 by omega] at hd
        cases hd
    rw [show hs.length - s = (hs.length - (s + 1)) + 1 by omega, List.range'_succ, List.map_cons] at hd
    cases hd
    simp only [bindW, List.set_cons_succ, List.set_cons_zero]
    refine r_asg as_i ?_
    refine r_for (ass_rg2 (m := 1) (n := mx hs + 1) (by omega) (by omega) as_i (as_cast (as_add (as_v (d := .int (mx hs : Int)) rfl rfl) as_i) (by push_cast; rfl))) ?_
    rw [Nat.add_sub_cancel]
    refine fr_inv (fun ds en => ∃ (bs : List Nat) (c : Nat) (y6 y7 : Option D), ds = bs.map (fun i : Nat => D.int (i : Int)) ∧ c + (bs.filter fun b : Nat => decide (lx hs (s : Int) < lx hs ((s : Int) - (b : Int)))).length = ovc hs (mx hs) (s : Int) ∧ en = [some H, some (.int hs.length), some (.int (mx hs)), some (.lst true ((rI ((List.range' 0 s).map fun i : Nat => ovc hs (mx hs) (i : Int))).map .int)), some (.int (s : Int)), some (.int (c : Int)), y6, y7]) ?_ ?_ _ _ ⟨List.range' 1 (mx hs), 0, _, _, rfl, by rw [Nat.zero_add]; rfl, rfl⟩
    · rintro d ds en K2 ⟨bs, c, y6, y7, hd, hc, rfl⟩ hK2
      cases bs with
      | nil => cases hd
      | cons b bs =>
        cases hd
        simp only [bindW, List.set_cons_succ, List.set_cons_zero]
        refine r_asg (as_sub (as_v (d := .int (s : Int)) rfl rfl) (as_v (d := .int (b : Int)) rfl rfl)) ?_
        rw [List.filter_cons] at hc
        have cnd : As G (.cmp .Gt (.bin .Add (.var 7) (.idx (.fv 0) (.bin .Mod (.blt .int1 (.cons (.var 7) .nil)) (.var 1)))) (.bin .Add (.var 4) (.idx (.fv 0) (.var 4)))) (.bl (decide (lx hs (s : Int) < lx hs ((s : Int) - (b : Int))))) [some H, some (.int hs.length), some (.int (mx hs)), some (.lst true ((rI ((List.range' 0 s).map fun i : Nat => ovc hs (mx hs) (i : Int))).map .int)), some (.int (s : Int)), some (.int (c : Int)), some (.int (b : Int)), some (.int ((s : Int) - (b : Int)))] [some H, some (.int hs.length), some (.int (mx hs)), some (.lst true ((rI ((List.range' 0 s).map fun i : Nat => ovc hs (mx hs) (i : Int))).map .int)), some (.int (s : Int)), some (.int (c : Int)), some (.int (b : Int)), some (.int ((s : Int) - (b : Int)))] := as_castb (as_gtI (as_add (as_v (d := .int ((s : Int) - (b : Int))) rfl rfl) (as_idx ffH (as_mod (by omega) (as_int1 (as_v (d := .int ((s : Int) - (b : Int))) rfl rfl)) (as_v (d := .int hs.length) rfl rfl)) hH.it (hx_at hn _))) (as_add (as_v (d := .int (s : Int)) rfl rfl) (as_idx ffH (as_v (d := .int (s : Int)) rfl rfl) hH.it (hx_at0 hlt)))) rfl
        by_cases hb : lx hs (s : Int) < lx hs ((s : Int) - (b : Int))
        · rw [if_pos (decide_eq_true hb), List.length_cons] at hc
          refine r_ifT (as_castb cnd (decide_eq_true hb)) ?_
          refine r_augV (x := (c : Int)) (y := 1) rfl as_i rfl ?_
          rw [runs_0]
          dsimp only
          rw [runs_0]
          exact hK2 _ ⟨bs, c + 1, _, _, rfl, by omega, rfl⟩
        · rw [if_neg (by simpa using hb)] at hc
          refine r_ifF (as_castb cnd (decide_eq_false hb)) ?_
          rw [runs_0]
          exact hK2 _ ⟨bs, c, _, _, rfl, hc, rfl⟩
    · rintro en ⟨bs, c, y6, y7, hd, hc, rfl⟩
      cases bs with
      | cons b bs => cases hd
      | nil =>
        rw [List.filter_nil, List.length_nil, Nat.add_zero] at hc
        subst hc
        refine r_app (xs := (rI ((List.range' 0 s).map fun i : Nat => ovc hs (mx hs) (i : Int))).map .int) (ws := (rI ((List.range' 0 s).map fun i : Nat => ovc hs (mx hs) (i : Int))).map .int) rfl (as_v rfl rfl) rfl (by simp [rI]; omega) ?_
        rw [runs_0]
        simp only [List.set_cons_succ, List.set_cons_zero]
        rw [ovL_app]
        exact hK _ ⟨s + 1, hlt, rfl, _, _, _, _, rfl⟩
  · rintro en ⟨s, hs1, hd, y4, y5, y6, y7, rfl⟩
    have : s = hs.length := by
      rcases Nat.lt_or_ge s hs.length with z | z
      · rw [show hs.length - s = (hs.length - (s + 1)) + 1 by omega, List.range'_succ] at hd
        cases hd
      · omega
    subst this
    refine r_retv (d := .lst true ((rI (ovL hs)).map .int)) rfl ?_
    rw [if_neg (by simp)]
    exact h
end
/-! ### the heights exist -/
theorem hl_ex {P : Nat} {a : List Nat} (w : Rw P a) (i : Int) : ∃ h, Hl P a i h := by
  by_cases hc : hx a i < P
  · obtain ⟨k', _, h2⟩ := w.lands (i := i) (by omega) P 0 (hx a i) (by rw [st1, if_pos hc]) (by omega)
    obtain ⟨k0, _, q2, q3⟩ := least (p := fun k => st1 P a i k = none) k' h2
    exact ⟨k0, q2, q3⟩
  · exact ⟨0, by rw [st1, if_neg hc], fun k hk => by omega⟩
theorem hh_ex {P : Nat} {a : List Nat} (w : Rw P a) : ∃ hs, Hh P a hs := by
  refine ⟨(List.range' 0 a.length).map fun i : Nat => Classical.choose (hl_ex w (i : Int)), w, by simp, fun i hi => ?_⟩
  rw [List.getD_eq_getElem?_getD, List.getElem?_map, List.getElem?_range' hi]
  simp only [Option.map_some, Option.getD_some, Nat.zero_add, Nat.one_mul]
  exact Classical.choose_spec (hl_ex w (i : Int))
theorem hl_le {P : Nat} {a : List Nat} (w : Rw P a) {i : Int} {h : Nat} (hh : Hl P a i h) : h ≤ (P + 1) * a.length := by
  by_cases hc : hx a i < P
  · obtain ⟨k', k1, k2⟩ := w.lands (i := i) (by omega) P 0 (hx a i) (by rw [st1, if_pos hc]) (by omega)
    rcases Nat.lt_or_ge k' h with z | z
    · exact absurd k2 (hh.2 k' z)
    · omega
  · rcases Nat.lt_or_ge 0 h with z | z
    · exact absurd (by rw [st1, if_neg hc]) (hh.2 0 z)
    · omega
/-! ### one height -/
def hfB : Ss := .cons (.aug 4 .Add (.int 1)) (.cons (.asg 5 (.idx (.fv 1) (.bin .Mod (.bin .Add (.var 2) (.var 4)) (.blt .len (.cons (.fv 1) .nil))))) (.cons (.iff (.cmp .Lt (.var 5) (.var 0)) (.cons (.iff (.cmp .Eq (.var 3) (.bin .Sub (.var 0) (.int 1))) (.cons (.ret (.var 4)) .nil) .nil) (.cons (.iff (.cmp .LtE (.var 5) (.var 3)) (.cons (.aug 3 .Add (.int 1)) .nil) .nil) .nil)) .nil) .nil))
theorem whl_of {G : Gb} {c : E} {B ss : Ss} {en : En} {P : Pt} (n : Nat) (h : whW (fun e1 K => ev G c e1 (fun d e2 => ∃ t, d = .bl t ∧ K t e2) P.ex) (fun e1 K => runs G B e1 { P with nx := K, ct := K, bk := fun e => runs G ss e P }) (fun e => runs G ss e P) n en) : runs G (.cons (.whl c B) ss) en P := by
  rw [runs_k, run_whl]
  exact ⟨n, h⟩
theorem hf_loop {G : Gb} {P : Nat} {a : List Nat} {i h : Nat} {fin : En → Prop} {rt : D → En → Prop} {bk : En → Prop} {ex ex2 : Xp} (w : Rw P a) (hh : Hl P a (i : Int) h) (hr : ∀ b y, rt (.int (h : Int)) [some (.int P), some (rowT a), some (.int i), some (.int (b : Nat)), some (.int h), y]) : ∀ (m k b : Nat) (y : Option D), k + m = h → 0 < m → st1 P a (i : Int) k = some b →
    whW (fun e1 K => ev G (.bl true) e1 (fun d e2 => ∃ t, d = .bl t ∧ K t e2) ex2) (fun e1 K => runs G hfB e1 { nx := K, rt := rt, bk := bk, ct := K, ex := ex }) fin m [some (.int P), some (rowT a), some (.int i), some (.int b), some (.int k), y]
  | 0, k, b, y, _, h0, _ => by omega
  | m + 1, k, b, y, hk, _, hs => by
    have hn := w.n
    have hA := fz_rowT a
    have hb := st1_lt k b hs
    rw [whW]
    refine as_b.e _ _ ⟨_, rfl, ?_⟩
    dsimp only
    rw [if_pos rfl]
    refine r_augV (x := (k : Int)) (y := 1) rfl as_i rfl ?_
    have hst : st1 P a (i : Int) (k + 1) = up1 P (hx a ((i : Int) + ((k + 1 : Nat) : Int))) b := by rw [st1, hs]; rfl
    generalize ec : hx a ((i : Int) + ((k + 1 : Nat) : Int)) = c at hst
    refine r_asg (as_idx (as_ff (d := rowT a) rfl hA) (as_mod (y := (a.length : Int)) (by omega) (as_cast (as_add (as_v (d := .int (i : Int)) rfl rfl) (as_v (d := .int ((k : Int) + 1)) rfl rfl)) (show _ = (i : Int) + ((k + 1 : Nat) : Int) by push_cast; rfl)) (as_cast (as_len (as_ff (d := rowT a) rfl hA) rfl) (by rw [List.length_map, rI_len]))) rfl (hx_at hn _)) ?_
    rw [ec]
    have more : ∀ (b' : Nat) (P' : Pt), st1 P a (i : Int) (k + 1) = some b' → P'.nx = (fun e => whW (fun e1 K => ev G (.bl true) e1 (fun d e2 => ∃ t, d = .bl t ∧ K t e2) ex2) (fun e1 K => runs G hfB e1 { nx := K, rt := rt, bk := bk, ct := K, ex := ex }) fin m e) → runs G .nil [some (.int P), some (rowT a), some (.int i), some (.int b'), some (.int ((k : Int) + 1)), some (.int c)] P' := by
      intro b' P' h1 h2
      rw [runs_0, h2]
      have hlt : k + 1 < h := by
        rcases Nat.lt_or_ge (k + 1) h with z | z
        · exact z
        · have : k + 1 = h := by omega
          rw [this, hh.1] at h1
          cases h1
      exact hf_loop w hh hr m (k + 1) b' _ (by omega) (by omega) h1
    by_cases hc : c < P
    · refine r_ifT (as_castb (as_ltI (as_v (d := .int (c : Int)) rfl rfl) (as_v (d := .int (P : Int)) rfl rfl)) (decide_eq_true (by omega))) ?_
      by_cases hb1 : b + 1 = P
      · refine r_ifT (as_castb (as_eqI (as_v (d := .int (b : Int)) rfl rfl) (as_sub (as_v (d := .int (P : Int)) rfl rfl) as_i)) (decide_eq_true (by omega))) ?_
        have e0 : st1 P a (i : Int) (k + 1) = none := by
          rw [hst]
          unfold up1
          rw [if_neg (by omega), if_pos hb1]
        have ek : k + 1 = h := by
          rcases Nat.lt_or_ge (k + 1) h with z | z
          · exact absurd e0 (hh.2 _ z)
          · omega
        refine r_retf (d := .int ((k : Int) + 1)) rfl rfl ?_
        have := hr b (some (.int (c : Int)))
        rw [← ek] at this
        exact this
      · refine r_ifF (as_castb (as_eqI (as_v (d := .int (b : Int)) rfl rfl) (as_sub (as_v (d := .int (P : Int)) rfl rfl) as_i)) (decide_eq_false (by omega))) ?_
        by_cases hcb : c ≤ b
        · refine r_ifT (as_castb (as_leI (as_v (d := .int (c : Int)) rfl rfl) (as_v (d := .int (b : Int)) rfl rfl)) (decide_eq_true (by omega))) ?_
          refine r_augV (x := (b : Int)) (y := 1) rfl as_i rfl ?_
          rw [runs_0]
          dsimp only
          rw [runs_0]
          dsimp only
          exact more (b + 1) _ (by rw [hst]; exact up1_hi hcb (by omega)) rfl
        · refine r_ifF (as_castb (as_leI (as_v (d := .int (c : Int)) rfl rfl) (as_v (d := .int (b : Int)) rfl rfl)) (decide_eq_false (by omega))) ?_
          rw [runs_0]
          dsimp only
          exact more b _ (by rw [hst]; exact up1_lo hc (by omega)) rfl
    · refine r_ifF (as_castb (as_ltI (as_v (d := .int (c : Int)) rfl rfl) (as_v (d := .int (P : Int)) rfl rfl)) (decide_eq_false (by omega))) ?_
      exact more b _ (by rw [hst]; exact up1_keep (by omega)) rfl
def SpHf (F : FSp) : Prop := ∀ (P : Nat) (a : List Nat) (i h : Nat), Rw P a → i < a.length → Hl P a (i : Int) h → Ret F [.int P, rowT a, .int i] (.int h) [some (.int P), some (rowT a), some (.int i)]
theorem L_height {G : Gb} : SpHf (semF G 6 3 [0, 1, 2] m__height_from) := by
  intro P a i h w hi hh q x hq
  have eb : m__height_from = .cons (.asg 3 (.idx (.fv 1) (.var 2))) (.cons (.iff (.cmp .Eq (.var 3) (.var 0)) (.cons (.ret (.int 0)) .nil) .nil) (.cons (.asg 4 (.int 0)) (.cons (.whl (.bl true) hfB) .nil))) := rfl
  have hA := fz_rowT a
  refine ⟨rfl, ?_⟩
  rw [eb]
  refine r_asg (as_idx (as_ff (d := rowT a) rfl hA) (as_v (d := .int (i : Int)) rfl rfl) rfl (hx_at0 hi)) ?_
  have hle := w.hx_le (i : Int)
  by_cases hc : hx a (i : Int) = P
  · have h0 : h = 0 := by
      rcases Nat.lt_or_ge 0 h with z | z
      · exact absurd (by rw [st1, if_neg (by omega)]) (hh.2 0 z)
      · omega
    subst h0
    refine r_ifT (as_castb (as_eqI (as_v (d := .int (hx a (i : Int) : Nat)) rfl rfl) (as_v (d := .int (P : Int)) rfl rfl)) (decide_eq_true (by omega))) ?_
    exact r_ret rfl as_i hq
  · refine r_ifF (as_castb (as_eqI (as_v (d := .int (hx a (i : Int) : Nat)) rfl rfl) (as_v (d := .int (P : Int)) rfl rfl)) (decide_eq_false (by omega))) ?_
    refine r_asg as_i ?_
    have s0 : st1 P a (i : Int) 0 = some (hx a (i : Int)) := by rw [st1, if_pos (by omega)]
    have hpos : 0 < h := by
      rcases Nat.lt_or_ge 0 h with z | z
      · exact z
      · have : h = 0 := by omega
        subst this
        have := hh.1
        rw [s0] at this
        cases this
    refine whl_of h ?_
    exact hf_loop w hh (fun b y => hq) h 0 (hx a (i : Int)) _ (by omega) hpos s0
end Pf

/-! Rows checked, the pattern of a row, drawn rows. -/
namespace Pf
open PySem PySem.Spec PyProof.Rows L2
structure LibR (G : Gb) : Prop where
  row : G.excs "BadRow" = some [Str.ofString "place"]
  stk : G.excs "Stuck" = some []
def ckB : Ss := .cons (.iff (.bop false (.cons (.nt (.call "is_whole" (.cons (.idx (.fv 1) (.var 2)) .nil))) (.cons (.cmp .Lt (.idx (.fv 1) (.var 2)) (.int 0)) (.cons (.cmp .Gt (.idx (.fv 1) (.var 2)) (.var 0)) .nil)))) (.cons (.raise "BadRow" (.cons (.var 2) .nil)) .nil) .nil) .nil
theorem m_ck : m__check_overtakings = .cons (.expr (.call "check_whole" (.cons (.var 0) (.cons (.str "props") (.cons (.int 0) .nil))))) (.cons (.iff (.bop false (.cons (.nt (.call "is_row" (.cons (.fv 1) .nil))) (.cons (.cmp .Eq (.blt .len (.cons (.fv 1) .nil)) (.int 0)) .nil))) (.cons (.raise "BadRow" (.cons (.neg (.int 1)) .nil)) .nil) .nil) (.cons (.forr [2] (.rng (.cons (.blt .len (.cons (.fv 1) .nil)) .nil)) ckB) (.cons (.ret (.blt .tuple1 (.cons (.fv 1) .nil))) .nil))) := rfl
/-- a number that does not fit -/
def BadN (P : Nat) (d : D) : Prop := isiT d = true ∧ fz d = true ∧ (whole d = false ∨ ∃ z : Int, d = .int z ∧ (z < 0 ∨ (P : Int) < z))
section
variable {P : Nat} {N0 N : D} {G : Gb} {F1 F2 F3 : FSp} (LG : LibG G) (LR : LibR G) (i1 : G.fns "is_whole" = some F1) (w_is_whole : SpWhole F1) (i2 : G.fns "is_row" = some F2) (w_is_row : SpRow F2) (i3 : G.fns "check_whole" = some F3) (w_check : SpCheck F3)
include LG LR i1 w_is_whole i2 w_is_row i3 w_check
theorem ck_pass {xs : List D} {i k : Nat} {y : Option D} {P' : Pt} {ss : Ss} (hN : fz N = true) (hI : itms N = some xs) (hx : xs[i]? = some (.int (k : Int))) (hk : k ≤ P) (h : runs G ss [some (.int P), some N, some (.int i)] P') : runs G (.cons (.iff (.bop false (.cons (.nt (.call "is_whole" (.cons (.idx (.fv 1) (.var 2)) .nil))) (.cons (.cmp .Lt (.idx (.fv 1) (.var 2)) (.int 0)) (.cons (.cmp .Gt (.idx (.fv 1) (.var 2)) (.var 0)) .nil)))) (.cons (.raise "BadRow" (.cons (.var 2) .nil)) .nil) .nil) ss) [some (.int P), some N, some (.int i)] P' := by
  have at_ : As G (.idx (.fv 1) (.var 2)) (.int (k : Int)) [some (.int P), some N, some (.int i)] [some (.int P), some N, some (.int i)] := as_idx (as_ff (d := N) rfl hN) (as_v (d := .int (i : Int)) rfl rfl) hI (atI_ofN hx)
  refine r_ifF (as_bopN (t := false) rfl (as_castb (as_nt (as_call i1 (asr_c at_ asr_0) rfl (w_is_whole _ rfl) rfl)) rfl) (as_bopN (t := false) rfl (as_castb (as_ltI at_ as_i) (decide_eq_false (by omega))) (as_bop1 (as_castb (as_gtI at_ (as_v (d := .int (P : Int)) rfl rfl)) (decide_eq_false (by omega)))))) h
theorem ck_fail {xs : List D} {i : Nat} {d : D} {P' : Pt} {ss : Ss} (hN : fz N = true) (hI : itms N = some xs) (hx : xs[i]? = some d) (hd : BadN P d) (h : P'.ex "BadRow" [.int (i : Int)] [some (.int P), some N, some (.int i)]) : runs G (.cons (.iff (.bop false (.cons (.nt (.call "is_whole" (.cons (.idx (.fv 1) (.var 2)) .nil))) (.cons (.cmp .Lt (.idx (.fv 1) (.var 2)) (.int 0)) (.cons (.cmp .Gt (.idx (.fv 1) (.var 2)) (.var 0)) .nil)))) (.cons (.raise "BadRow" (.cons (.var 2) .nil)) .nil) .nil) ss) [some (.int P), some N, some (.int i)] P' := by
  have at_ : As G (.idx (.fv 1) (.var 2)) d [some (.int P), some N, some (.int i)] [some (.int P), some N, some (.int i)] := as_idx (as_ff (d := N) rfl hN) (as_v (d := .int (i : Int)) rfl rfl) hI (atI_ofN hx)
  obtain ⟨hT, hf, hd⟩ := hd
  have fin : ∀ (P2 : Pt), P2.ex = P'.ex → runs G (.cons (.raise "BadRow" (.cons (.var 2) .nil)) .nil) [some (.int P), some N, some (.int i)] P2 := fun P2 e => r_rais (asv_c (as_v (d := .int (i : Int)) rfl rfl) asv_0) LR.row rfl (by rw [e]; exact h)
  rcases hd with hw | ⟨z, rfl, hz⟩
  · exact r_ifT (as_bopS rfl (as_castb (as_nt (as_call i1 (asr_c at_ asr_0) rfl (w_is_whole d hT) (by rfl))) (by rw [hw]; rfl))) (fin _ rfl)
  · by_cases h0 : z < 0
    · exact r_ifT (as_bopN (t := false) rfl (as_castb (as_nt (as_call i1 (asr_c at_ asr_0) rfl (w_is_whole _ rfl) rfl)) rfl) (as_bopS rfl (as_castb (as_ltI at_ as_i) (decide_eq_true h0)))) (fin _ rfl)
    · exact r_ifT (as_bopN (t := false) rfl (as_castb (as_nt (as_call i1 (asr_c at_ asr_0) rfl (w_is_whole _ rfl) rfl)) rfl) (as_bopN (t := false) rfl (as_castb (as_ltI at_ as_i) (decide_eq_false h0)) (as_bop1 (as_castb (as_gtI at_ (as_v (d := .int (P : Int)) rfl rfl)) (decide_eq_true (by omega)))))) (fin _ rfl)
/-- the way in, for a row of some length -/
theorem ck_in {xs : List D} {P' : Pt} (h0 : frz N0 = N) (hR : isRow N = true) (hN : fz N = true) (hI : itms N = some xs) (hl : 0 < xs.length) (hl2 : xs.length ≤ 100000) (h : frW [2] (fun e2 K => runs G ckB e2 { P' with nx := K, ct := K, bk := fun e => runs G (.cons (.ret (.blt .tuple1 (.cons (.fv 1) .nil))) .nil) e P' }) (fun e => runs G (.cons (.ret (.blt .tuple1 (.cons (.fv 1) .nil))) .nil) e P') ((List.range' 0 xs.length).map fun i : Nat => D.int (i : Int)) [some (.int P), some N, none]) : runs G m__check_overtakings [some (.int P), some N0, none] P' := by
  rw [m_ck]
  refine r_exp (as_call i3 (asr_c (as_v (d := .int (P : Int)) rfl rfl) (asr_c as_s (asr_c as_i asr_0))) rfl (w_check.low _ _ _ (by omega)) rfl) ?_
  refine r_ifF (as_bopN (t := false) rfl (as_castb (as_nt (as_call i2 (asr_c (as_fr (d := N0) rfl h0) asr_0) rfl (w_is_row _ (isRow_T hR)) rfl)) (by rw [hR]; rfl)) (as_bop1 (as_castb (as_eqI (as_len (as_ff (d := N) rfl hN) hI) as_i) (decide_eq_false (by omega))))) ?_
  exact r_for (ass_rg1 (n := xs.length) hl2 (as_len (as_ff (d := N) rfl hN) hI)) h
theorem ck_ok {a : List Nat} (h0 : frz N0 = N) (hA : RowD a N) (hl : 0 < a.length) (hl2 : a.length ≤ 1000) (hle : ∀ x ∈ a, x ≤ P) : Ret (semF G 3 2 [0, 1] m__check_overtakings) [.int P, N0] (rowT a) [some (.int P), some N] := by
  intro q x h
  refine ⟨rfl, ck_in LG LR i1 w_is_whole i2 w_is_row i3 w_check h0 hA.row hA.fz hA.it (by rw [List.length_map, rI_len]; exact hl) (by rw [List.length_map, rI_len]; omega) ?_⟩
  rw [List.length_map, rI_len]
  refine fr_inv (fun ds en => (∀ d ∈ ds, ∃ i : Nat, i < a.length ∧ d = .int (i : Int)) ∧ ∃ y, en = [some (.int P), some N, y]) ?_ ?_ _ _ ⟨fun d hd => ?_, _, rfl⟩
  · rintro d ds en K ⟨hd, y, rfl⟩ hK
    obtain ⟨i, hi, rfl⟩ := hd d List.mem_cons_self
    simp only [bindW, List.set_cons_succ, List.set_cons_zero]
    refine ck_pass LG LR i1 w_is_whole i2 w_is_row i3 w_check (k := a.getD i 0) (y := none) hA.fz hA.it (by rw [rI_map, List.getElem?_map, List.getElem?_eq_getElem hi, List.getD_eq_getElem?_getD, List.getElem?_eq_getElem hi]; rfl) (hle _ (by rw [List.getD_eq_getElem?_getD, List.getElem?_eq_getElem hi]; exact List.getElem_mem hi)) ?_
    rw [runs_0]
    exact hK _ ⟨fun d hd' => hd d (List.mem_cons_of_mem _ hd'), _, rfl⟩
  · rintro en ⟨_, y, rfl⟩
    exact r_ret rfl (as_tuple (as_ff (d := N) rfl hA.fz) hA.it (by simp)) h
  · obtain ⟨i, hi, rfl⟩ := List.mem_map.mp hd
    exact ⟨i, by have := (List.mem_range'_1.mp hi).2; omega, rfl⟩
theorem ck_bad {xs : List D} {pl : Nat} {d : D} (h0 : frz N0 = N) (hR : isRow N = true) (hN : fz N = true) (hI : itms N = some xs) (hl2 : xs.length ≤ 100000) (hp : ∀ i, i < pl → ∃ k : Nat, xs[i]? = some (.int (k : Int)) ∧ k ≤ P) (hx : xs[pl]? = some d) (hd : BadN P d) : Exc (semF G 3 2 [0, 1] m__check_overtakings) [.int P, N0] "BadRow" [.int (pl : Int)] [some (.int P), some N] := by
  intro q x h
  have hlt : pl < xs.length := (List.getElem?_eq_some_iff.mp hx).1
  refine ⟨rfl, ck_in LG LR i1 w_is_whole i2 w_is_row i3 w_check h0 hR hN hI (by omega) hl2 ?_⟩
  have go : ∀ (m s : Nat) (y : Option D) (fin : En → Prop) (rt : D → En → Prop) (bk : En → Prop), s + m = xs.length → s ≤ pl → frW [2] (fun e2 K => runs G ckB e2 { nx := K, rt := rt, bk := bk, ct := K, ex := fun c fs en => x c fs (back [0, 1] en 0 [.int (P : Int), N0]) }) fin ((List.range' s m).map fun i : Nat => D.int (i : Int)) [some (.int P), some N, y] := by
    intro m
    induction m with
    | zero => intro s y fin rt bk h1 h2; omega
    | succ m ih =>
      intro s y fin rt bk h1 h2
      rw [List.range'_succ, List.map_cons, frW]
      simp only [bindW, List.set_cons_succ, List.set_cons_zero]
      rcases Nat.lt_or_ge s pl with z | z
      · obtain ⟨k, k1, k2⟩ := hp s z
        refine ck_pass LG LR i1 w_is_whole i2 w_is_row i3 w_check (y := none) hN hI k1 k2 ?_
        rw [runs_0]
        exact ih (s + 1) _ _ _ _ (by omega) (by omega)
      · have : s = pl := by omega
        subst this
        exact ck_fail LG LR i1 w_is_whole i2 w_is_row i3 w_check hN hI hx hd h
  exact go xs.length 0 none _ _ _ (by omega) (Nat.zero_le _)
theorem ck_none {d : D} (hT : isiT d = true) (hf : fz d = true) (hd : isRow d = false ∨ (isRow d = true ∧ itms d = some [])) : Exc (semF G 3 2 [0, 1] m__check_overtakings) [.int P, d] "BadRow" [.int (-1)] [some (.int P), some d] := by
  intro q x h
  refine ⟨rfl, ?_⟩
  rw [m_ck]
  refine r_exp (as_call i3 (asr_c (as_v (d := .int (P : Int)) rfl rfl) (asr_c as_s (asr_c as_i asr_0))) rfl (w_check.low _ _ _ (by omega)) rfl) ?_
  rcases hd with hd | ⟨hd, hI⟩
  · refine r_ifT (as_bopS rfl (as_castb (as_nt (as_call i2 (asr_c (as_fr (d := d) (d' := d) rfl (frz_of _ hf)) asr_0) rfl (w_is_row _ hT) rfl)) (by rw [hd]; rfl))) ?_
    exact r_rais (asv_c (as_neg as_i) asv_0) LR.row rfl h
  · refine r_ifT (as_bopN (t := false) rfl (as_castb (as_nt (as_call i2 (asr_c (as_fr (d := d) (d' := d) rfl (frz_of _ hf)) asr_0) rfl (w_is_row _ hT) rfl)) (by rw [hd]; rfl)) (as_bop1 (as_castb (as_eqI (as_len (as_ff (d := d) rfl hf) hI) as_i) rfl))) ?_
    exact r_rais (asv_c (as_neg as_i) asv_0) LR.row rfl h
theorem ck_num {p d : D} (hp : (isiT p = true ∧ fz p = true ∧ whole p = false) ∨ ∃ z : Int, p = .int z ∧ z < 0) (hf : fz d = true) : Exc (semF G 3 2 [0, 1] m__check_overtakings) [p, d] "BadNumber" [.str (Str.ofString "props")] [some p, some d] := by
  intro q x h
  refine ⟨rfl, ?_⟩
  rw [m_ck]
  rcases hp with ⟨h1, h2, h3⟩ | ⟨z, rfl, hz⟩
  · exact r_expX i3 (asr_c (as_v (d := p) rfl h2) (asr_c as_s (asr_c as_i asr_0))) rfl (w_check.bad p (.int 0) _ h1 h2 h3 rfl) rfl h
  · exact r_expX i3 (asr_c (as_v (d := .int z) rfl rfl) (asr_c as_s (asr_c as_i asr_0))) rfl (w_check.low_ z 0 _ hz) rfl h
end
structure SpCk (F : FSp) : Prop where
  ok : ∀ {P : Nat} {a : List Nat} {N0 N : D}, frz N0 = N → RowD a N → 0 < a.length → a.length ≤ 1000 → (∀ x ∈ a, x ≤ P) → Ret F [.int P, N0] (rowT a) [some (.int P), some N]
  bad : ∀ {P pl : Nat} {xs : List D} {N0 N d : D}, frz N0 = N → isRow N = true → fz N = true → itms N = some xs → xs.length ≤ 100000 → (∀ i, i < pl → ∃ k : Nat, xs[i]? = some (.int (k : Int)) ∧ k ≤ P) → xs[pl]? = some d → BadN P d → Exc F [.int P, N0] "BadRow" [.int (pl : Int)] [some (.int P), some N]
  none : ∀ {P : Nat} {d : D}, isiT d = true → fz d = true → (isRow d = false ∨ (isRow d = true ∧ itms d = some [])) → Exc F [.int P, d] "BadRow" [.int (-1)] [some (.int P), some d]
  num : ∀ {p d : D}, ((isiT p = true ∧ fz p = true ∧ whole p = false) ∨ ∃ z : Int, p = .int z ∧ z < 0) → fz d = true → Exc F [p, d] "BadNumber" [.str (Str.ofString "props")] [some p, some d]
theorem L_ck {G : Gb} {F1 F2 F3 : FSp} (LG : LibG G) (LR : LibR G) (i1 : G.fns "is_whole" = some F1) (w_is_whole : SpWhole F1) (i2 : G.fns "is_row" = some F2) (w_is_row : SpRow F2) (i3 : G.fns "check_whole" = some F3) (w_check : SpCheck F3) : SpCk (semF G 3 2 [0, 1] m__check_overtakings) where
  ok := fun a b c d e => ck_ok LG LR i1 w_is_whole i2 w_is_row i3 w_check a b c d e
  bad := fun a b c d e f g h => ck_bad LG LR i1 w_is_whole i2 w_is_row i3 w_check a b c d e f g h
  none := fun a b c => ck_none LG LR i1 w_is_whole i2 w_is_row i3 w_check a b c
  num := fun a b => ck_num LG LR i1 w_is_whole i2 w_is_row i3 w_check a b
theorem m_pb : m_pattern_by = .cons (.asg 2 (.call "_check_overtakings" (.cons (.var 0) (.cons (.fv 1) .nil)))) (.cons (.iff (.bop true (.cons (.cmp .Gt (.var 0) (.int 0)) (.cons (.cmp .Gt (.blt .minL (.cons (.var 2) .nil)) (.int 0)) .nil))) (.cons (.raise "Stuck" .nil) .nil) .nil) (.cons (.ret (.cm "Pattern" "single" (.cons (.lc [3] (.rng (.cons (.blt .len (.cons (.var 2) .nil)) .nil)) .nil (.call "_height_from" (.cons (.var 0) (.cons (.var 2) (.cons (.var 3) .nil))))) .nil))) .nil)) := rfl
theorem Hh.ok {P : Nat} {a hs : List Nat} (w : Hh P a hs) (hz : a.length ≤ 1000) : SglOk hs := inj_sgl w.hn (by rw [w.ln]; exact hz) w.inj
section
variable {P : Nat} {N0 N : D} {G : Gb} {F1 F2 F3 : FSp} (LR : LibR G) (j1 : G.fns "_check_overtakings" = some F1) (w_ck : SpCk F1) (j2 : G.cmt "Pattern" "single" = some F2) (w_PatS : SpPatS F2) (j3 : G.fns "_height_from" = some F3) (w_height : SpHf F3)
include LR j1 w_ck j2 w_PatS j3 w_height
theorem pb_ok {a hs : List Nat} (w : Hh P a hs) (hz : a.length ≤ 1000) (h0 : frz N0 = N) (hA : RowD a N) : Ret (semF G 4 2 [0, 1] m_pattern_by) [.int P, N0] (sgD true hs) [some (.int P), some N] := by
  intro q x h
  have hn := w.w.n
  have vA := fz_rowT a
  refine ⟨rfl, ?_⟩
  rw [m_pb]
  refine r_asg (as_call j1 (asr_c (as_v (d := .int (P : Int)) rfl rfl) (asr_c (as_fr (d := N0) rfl h0) asr_0)) rfl (w_ck.ok (frz_of _ hA.fz) hA hn hz w.w.le) rfl) ?_
  obtain ⟨m, hm1, hm2⟩ := ex_min a hn
  have cnd : As G (.bop true (.cons (.cmp .Gt (.var 0) (.int 0)) (.cons (.cmp .Gt (.blt .minL (.cons (.var 2) .nil)) (.int 0)) .nil))) (.bl false) [some (.int P), some N, some (rowT a), none] [some (.int P), some N, some (rowT a), none] := by
    by_cases hP : 0 < P
    · have hm0 : m = 0 := by have := hm2 0 (w.w.z hP); omega
      exact as_bopN (t := true) rfl (as_castb (as_gtI (as_v (d := .int (P : Int)) rfl rfl) as_i) (decide_eq_true (by omega))) (as_bop1 (as_castb (as_gtI (as_minL (as_v (d := rowT a) rfl vA) rfl hm1 hm2) as_i) (decide_eq_false (by omega))))
    · exact as_bopS rfl (as_castb (as_gtI (as_v (d := .int (P : Int)) rfl rfl) as_i) (decide_eq_false (by omega)))
  refine r_ifF cnd ?_
  have e1 : ((List.range' 0 a.length).map fun i : Nat => D.int (hs.getD i 0 : Nat)) = (rI hs).map .int := by
    rw [rI_map]
    refine List.ext_getElem (by simp [w.ln]) fun i h1 h2 => ?_
    have h3 : i < hs.length := by simpa using h2
    simp [List.getD_eq_getElem?_getD, List.getElem?_eq_getElem h3]
  refine r_ret rfl (as_cm j2 (asr_c (as_map (xs := List.range' 0 a.length) (fun i : Nat => D.int (i : Int)) (fun i : Nat => D.int (hs.getD i 0 : Nat)) (ass_rg1 (n := a.length) (by omega) (as_cast (as_len (as_v (d := rowT a) rfl vA) rfl) (by rw [List.length_map, rI_len]))) (by simp; omega) fun i hi => ?_) asr_0) rfl (w_PatS hs (.lst true ((List.range' 0 a.length).map fun i : Nat => D.int (hs.getD i 0 : Nat))) (.lst false ((rI hs).map .int)) (by rw [e1, frz_li]) (rI_row _) (w.ok hz)) rfl) h
  have hi' : i < a.length := by have := (List.mem_range'_1.mp hi).2; omega
  exact as_call j3 (asr_c (as_v (d := .int (P : Int)) rfl rfl) (asr_c (as_v (d := rowT a) rfl vA) (asr_c (as_v (d := .int (i : Int)) rfl rfl) asr_0))) rfl (w_height P a i _ w.w hi' (w.hl i hi')) rfl
theorem pb_exc {p : D} {c : String} {fs : List D} (hp : fz p = true) (h0 : frz N0 = N) (hck : Exc F1 [p, N] c fs [some p, some N]) : Exc (semF G 4 2 [0, 1] m_pattern_by) [p, N0] c fs [some p, some N] := by
  intro q x h
  refine ⟨rfl, ?_⟩
  rw [m_pb]
  exact r_asgX j1 (asr_c (as_v (d := p) rfl hp) (asr_c (as_fr (d := N0) rfl h0) asr_0)) rfl hck rfl h
theorem pb_stuck {a : List Nat} (hP : 0 < P) (hl : 0 < a.length) (hz : a.length ≤ 1000) (hle : ∀ x ∈ a, x ≤ P) (hn : 0 ∉ a) (h0 : frz N0 = N) (hA : RowD a N) : Exc (semF G 4 2 [0, 1] m_pattern_by) [.int P, N0] "Stuck" [] [some (.int P), some N] := by
  intro q x h
  have vA := fz_rowT a
  refine ⟨rfl, ?_⟩
  rw [m_pb]
  refine r_asg (as_call j1 (asr_c (as_v (d := .int (P : Int)) rfl rfl) (asr_c (as_fr (d := N0) rfl h0) asr_0)) rfl (w_ck.ok (frz_of _ hA.fz) hA hl hz hle) rfl) ?_
  obtain ⟨m, hm1, hm2⟩ := ex_min a hl
  have hm0 : 0 < m := by
    rcases Nat.lt_or_ge 0 m with z | z
    · exact z
    · have : m = 0 := by omega
      exact absurd (this ▸ hm1) hn
  refine r_ifT (as_bopN (t := true) rfl (as_castb (as_gtI (as_v (d := .int (P : Int)) rfl rfl) as_i) (decide_eq_true (by omega))) (as_bop1 (as_castb (as_gtI (as_minL (as_v (d := rowT a) rfl vA) rfl hm1 hm2) as_i) (decide_eq_true (by omega))))) ?_
  exact r_rais asv_0 LR.stk rfl h
end
structure SpPb (F : FSp) (Fk : FSp) : Prop where
  ok : ∀ {P : Nat} {a hs : List Nat} {N0 N : D}, Hh P a hs → a.length ≤ 1000 → frz N0 = N → RowD a N → Ret F [.int P, N0] (sgD true hs) [some (.int P), some N]
  exc : ∀ {p N0 N : D} {c : String} {fs : List D}, fz p = true → frz N0 = N → Exc Fk [p, N] c fs [some p, some N] → Exc F [p, N0] c fs [some p, some N]
  stuck : ∀ {P : Nat} {a : List Nat} {N0 N : D}, 0 < P → 0 < a.length → a.length ≤ 1000 → (∀ x ∈ a, x ≤ P) → 0 ∉ a → frz N0 = N → RowD a N → Exc F [.int P, N0] "Stuck" [] [some (.int P), some N]
theorem L_pb {G : Gb} {F1 F2 F3 : FSp} (LR : LibR G) (j1 : G.fns "_check_overtakings" = some F1) (w_ck : SpCk F1) (j2 : G.cmt "Pattern" "single" = some F2) (w_PatS : SpPatS F2) (j3 : G.fns "_height_from" = some F3) (w_height : SpHf F3) : SpPb (semF G 4 2 [0, 1] m_pattern_by) F1 where
  ok := fun a b c d => pb_ok LR j1 w_ck j2 w_PatS j3 w_height a b c d
  exc := fun a b c => pb_exc LR j1 w_ck j2 w_PatS j3 w_height a b c
  stuck := fun a b c d e f g => pb_stuck LR j1 w_ck j2 w_PatS j3 w_height a b c d e f g
/-! ### the law's views of rows -/
/-- rows of one height each, as the pattern has them or as they were drawn -/
structure Flat (hs : List Nat) (R : D) : Prop where
  fz : fz R = true
  it : ∃ ds, itms R = some ds ∧ fzs ds = true ∧ ds.length = hs.length ∧ ∀ i (h : i < hs.length), ∃ d, ds[i]? = some d ∧ RowD [hs[i]] d
theorem flat_T (hs : List Nat) : Flat hs (rowsT (sg hs)) := ⟨fz_rowsT _, _, rfl, fzs_rowT _, by simp [sg], fun i h => ⟨rowT [hs[i]], by simp [sg, h], rowT_D _⟩⟩
theorem flat_L (hs : List Nat) : Flat hs (.lst false ((sg hs).map fun r => D.lst false ((rI r).map .int))) := ⟨by rw [fz, fzs_lF]; rfl, _, rfl, fzs_lF _, by simp [sg], fun i h => ⟨.lst false ((rI [hs[i]]).map .int), by simp [sg, h], rI_row _⟩⟩
theorem Flat.map {hs : List Nat} {R : D} (f : Flat hs R) : ∃ rs : List (Nat × D), rs.map (·.1) = hs ∧ itms R = some (rs.map (·.2)) ∧ fzs (rs.map (·.2)) = true ∧ ∀ r ∈ rs, RowD [r.1] r.2 := by
  obtain ⟨ds, h1, h2, h3, h4⟩ := f.it
  refine ⟨hs.zip ds, by rw [List.map_fst_zip (by omega)], by rw [List.map_snd_zip (by omega)]; exact h1, by rw [List.map_snd_zip (by omega)]; exact h2, fun r hr => ?_⟩
  obtain ⟨i, hi, rfl⟩ := List.getElem_of_mem hr
  rw [List.length_zip] at hi
  obtain ⟨d, e, hd⟩ := h4 i (by omega)
  rw [List.getElem_zip]
  rw [List.getElem?_eq_getElem (by omega)] at e
  cases e
  exact hd
def SpFlat (F : FSp) : Prop := ∀ {hs : List Nat} {R0 R : D}, frz R0 = R → Flat hs R → hs.length ≤ 1000 → Ret F [R0] (.lst true ((rI hs).map .int)) [some R]
theorem L_flat {G : Gb} : SpFlat (semF G 2 1 [0] m__law_flat) := by
  intro hs R0 R h0 f hz q x h
  have eb : m__law_flat = .cons (.ret (.lc [1] (.it (.fv 0)) .nil (.idx (.var 1) (.int 0)))) .nil := rfl
  obtain ⟨rs, e1, hI, hf, hr⟩ := f.map
  have hl : rs.length = hs.length := by rw [← e1, List.length_map]
  refine ⟨rfl, ?_⟩
  rw [eb]
  have e2 : rs.map (fun r => D.int (r.1 : Int)) = (rI hs).map .int := by rw [rI_map, ← e1, List.map_map]; rfl
  rw [← e2] at h
  exact r_ret rfl (as_map (xs := rs) (fun r => r.2) (fun r => D.int (r.1 : Int)) (ass_it (as_fr (d := R0) rfl h0) hI hf) (by omega) fun r hr' => as_idx (as_v (d := r.2) rfl (hr r hr').fz) as_i (hr r hr').it rfl) h
theorem dats_rows (n : Nat) : ∀ rows : List (List Nat), dats (n + 1) (rows.map rowT) = true
  | [] => rfl
  | r :: rows => by rw [List.map_cons, dats, dats_rows n rows, rowT, dat, dats_ints]; rfl
theorem deqs_rows : ∀ a b : List (List Nat), deqs (a.map rowT) (b.map rowT) = decide (a = b)
  | [], [] => by simp [deqs]
  | [], _ :: _ => by simp [deqs]
  | _ :: _, [] => by simp [deqs]
  | x :: a, y :: b => by
    rw [List.map_cons, List.map_cons, deqs, deqs_rows a b, rowT, rowT, deq, deqs_ints]
    simp [rI_inj]
theorem tw_rep (n c : Nat) : ((List.range' 0 n).map fun _ : Nat => D.int (c : Int)) = (rI (List.replicate n c)).map .int := by
  rw [rI_map]
  refine List.ext_getElem (by simp) fun i h1 h2 => ?_
  simp
theorem as_ninI {G : Gb} {a b : E} {x : Int} {y : D} {ns : List Int} {en en1 en2 : En} (ha : As G a (.int x) en en1) (hb : As G b y en1 en2) (hI : itms y = some (ns.map .int)) : As G (.cmp .NotIn a b) (.bl (!(ns.contains x))) en en2 := as_cmp ha hb fun k h => by
  simp only [cmpW, inW, hI]
  refine ⟨⟨rfl, ?_⟩, ?_⟩
  · rw [List.all_eq_true]
    intro d hd
    obtain ⟨z, _, rfl⟩ := List.mem_map.mp hd
    rfl
  · rw [any_deq, Bool.true_xor]
    exact h
theorem rI_set (hs : List Nat) (i h' : Nat) : ((rI hs).map D.int).set i (.int (h' : Int)) = (rI (hs.set i h')).map .int := by
  simp [rI, List.map_set]
theorem mem_set0 {a : List Nat} {k : Nat} {P : Nat} (h : ∀ x ∈ a, x ≤ P) : ∀ x ∈ a.set k 0, x ≤ P := fun x hx => by
  rcases List.mem_or_eq_of_mem_set hx with z | z
  · exact h x z
  · omega
def SpRowTk (F : FSp) : Prop := ∀ {n P : Nat}, 0 < n → n ≤ 1000 → ∀ ds : List Int, ∃ (a : List Nat) (ds' : List Int), a.length = n ∧ (∀ x ∈ a, x ≤ P) ∧ Ret F [.lst true (ds.map .int), .int n, .int P] (.lst true ((rI a).map .int)) [some (.lst true (ds'.map .int)), some (.int n), some (.int P)]
theorem L_row {G : Gb} {F1 : FSp} (i1 : G.fns "_law_take" = some F1) (w_take : SpTake F1) : SpRowTk (semF G 5 3 [0, 1, 2] m__law_row) := by
  intro n P hn hz ds
  have eb : m__law_row = .cons (.asg 3 (.lc [4] (.rng (.cons (.var 1) .nil)) .nil (.call "_law_take" (.cons (.var 0) (.cons (.bin .Add (.var 2) (.int 1)) .nil))))) (.cons (.iff (.cmp .Lt (.call "_law_take" (.cons (.var 0) (.cons (.int 3) .nil))) (.int 2)) (.cons (.put 3 (.call "_law_take" (.cons (.var 0) (.cons (.var 1) .nil))) (.int 0)) .nil) .nil) (.cons (.ret (.var 3)) .nil)) := rfl
  obtain ⟨L, eL, lL, bL⟩ := takes_nat (m := (P : Int) + 1) (by omega) n ds
  obtain ⟨k2, e2, h2⟩ := take_nat (dropsI ds n) (m := 3) (by omega)
  obtain ⟨k3, e3, h3⟩ := take_nat (dropsI ds n).dropLast (m := (n : Int)) (by omega)
  have bL' : ∀ x ∈ L, x ≤ P := fun x hx => by have := bL x hx; omega
  have el : ((List.range' 0 n).map fun i : Nat => D.int (i : Int)).length = n := by simp
  have m1 : As G (.lc [4] (.rng (.cons (.var 1) .nil)) .nil (.call "_law_take" (.cons (.var 0) (.cons (.bin .Add (.var 2) (.int 1)) .nil)))) (.lst true ((rI L).map .int)) [some (.lst true (ds.map .int)), some (.int n), some (.int P), none, none] [some (.lst true ((dropsI ds n).map .int)), some (.int n), some (.int P), none, none] := by
    have m := as_takes (G := G) (s := .rng (.cons (.var 1) .nil)) (en := [some (.lst true (ds.map .int)), some (.int n), some (.int P), none, none]) (en1 := [none, some (.int n), some (.int P), none, none]) (i := 0) (j := 4) (e := .bin .Add (.var 2) (.int 1)) (m := (P : Int) + 1) (ds := ds) i1 w_take (by omega) (by decide) (ass_rg1 (n := n) (by omega) (as_v (d := .int (n : Int)) rfl rfl)) (by simp) (fun ds d => as_add (as_v (d := .int (P : Int)) rfl rfl) as_i) (by simp; omega) rfl
    rw [el, eL] at m
    exact m
  by_cases hk : k2 < 2
  · refine ⟨L.set k3 0, (dropsI ds n).dropLast.dropLast, by rw [List.length_set]; exact lL, mem_set0 bL', fun q x h => ⟨rfl, ?_⟩⟩
    rw [eb]
    refine r_asg m1 ?_
    refine r_ifT (as_castb (as_ltI (as_take0 (ds := dropsI ds n) i1 w_take (by omega) rfl as_i rfl) as_i) (by rw [e2]; exact decide_eq_true (by omega))) ?_
    refine r_put (xs := (rI L).map .int) (ws := (rI L).map .int) (z := (k3 : Int)) (j := k3) as_i rfl (as_cast (as_take0 (ds := (dropsI ds n).dropLast) i1 w_take (by omega) rfl (as_v (d := .int (n : Int)) rfl rfl) rfl) e3) rfl (by rw [List.length_map, rI_len, lL]; exact ixN_nat (by omega) (by omega)) ?_
    rw [runs_0]
    have e9 : ((rI L).map D.int).set k3 (.int 0) = (rI (L.set k3 0)).map .int := rI_set L k3 0
    rw [e9]
    dsimp only
    refine r_retv (d := .lst true ((rI (L.set k3 0)).map .int)) rfl ?_
    rw [if_neg (by simp)]
    exact h
  · refine ⟨L, (dropsI ds n).dropLast, lL, bL', fun q x h => ⟨rfl, ?_⟩⟩
    rw [eb]
    refine r_asg m1 ?_
    refine r_ifF (as_castb (as_ltI (as_take0 (ds := dropsI ds n) i1 w_take (by omega) rfl as_i rfl) as_i) (by rw [e2]; exact decide_eq_false (by omega))) ?_
    refine r_retv (d := .lst true ((rI L).map .int)) rfl ?_
    rw [if_neg (by simp)]
    exact h
end Pf

/-! More rules: slices, lists added, told pairs. -/
namespace Pf
open PySem PySem.Spec PyProof.Rows L2
/-- != of equal pairs of a text and a number, of two texts -/
theorem neP {s : Str} {z : Int} {k : D → Prop} (hs : PyData.strOk s = true) (h : k (.bl false)) : cmpW .NotEq (.tup [.str s, .int z]) (.tup [.str s, .int z]) k := by
  simp only [cmpW, eqW, dat, dats, deq, deqs, hs, Bool.and_self, BEq.rfl, Bool.xor_self, Bool.and_true]
  exact ⟨⟨trivial, trivial⟩, h⟩
theorem nePS {s s' : Str} {k : D → Prop} (hs : PyData.strOk s = true) (hs' : PyData.strOk s' = true) (h : k (.bl false)) : cmpW .NotEq (.tup [.str s, .str s']) (.tup [.str s, .str s']) k := by
  simp only [cmpW, eqW, dat, dats, deq, deqs, hs, hs', Bool.and_self, BEq.rfl, Bool.xor_self, Bool.and_true]
  exact ⟨⟨trivial, trivial⟩, h⟩
theorem r_retBX {G : Gb} {en en1 en2 en3 : En} {P : Pt} {ss : Ss} {b : Bf} {f : String} {F : FSp} {es : Es} {rs : List R} {ds fs : List D} {c : String} {us : List (Option D)} (hF : G.fns f = some F) (hr : Asr G es rs en en1) (ht : takeA en1 rs = some (ds, en2)) (hs : Exc F ds c fs us) (hp : putA en2 rs us = en3) (k : P.ex c fs en3) : runs G (.cons (.ret (.blt b (.cons (.call f es) .nil))) ss) en P := by
  rw [runs_k, run_ret rfl, ev_blt, evr_c, asR_n rfl]
  exact ev_callX hF hr ht hs hp k
theorem cut_from {xs : List D} {i : Nat} : cutD xs (some (i : Int)) none = xs.drop i := by
  unfold cutD
  rw [HT.sIx_nat, HT.sIx_none]
  by_cases h : i ≤ xs.length
  · rw [Nat.min_eq_left h, List.take_of_length_le (by rw [List.length_drop]; omega)]
  · rw [Nat.min_eq_right (by omega), List.drop_length, List.drop_eq_nil_of_le (by omega)]
    simp
theorem cut_to {xs : List D} {i : Nat} : cutD xs none (some (i : Int)) = xs.take i := by
  unfold cutD
  rw [HT.sIx_nat, HT.sIx_none, List.drop_zero, Nat.sub_zero]
  by_cases h : i ≤ xs.length
  · rw [Nat.min_eq_left h]
  · rw [Nat.min_eq_right (by omega), List.take_length, List.take_of_length_le (by omega)]
section
variable {G : Gb} {en en1 en2 : En}
theorem as_slcTo {a b : E} {o : Bool} {xs : List D} {i : Nat} (ha : As G a (.lst o xs) en en1) (hf : fzs xs = true) (hb : As G b (.int (i : Int)) en1 en2) : As G (.slc a .no (.so b)) (.lst true (xs.take i)) en en2 := .of rfl fun Q X hq => by
  rw [ev_slc]
  refine ha.r _ _ ?_
  simp only [evO]
  refine hb.e _ _ ⟨_, rfl, ?_⟩
  refine ⟨hf, ?_⟩
  rw [cut_to]
  exact hq
theorem as_slcFrom {a b : E} {o : Bool} {xs : List D} {i : Nat} (ha : As G a (.lst o xs) en en1) (hf : fzs xs = true) (hb : As G b (.int (i : Int)) en1 en2) : As G (.slc a (.so b) .no) (.lst true (xs.drop i)) en en2 := .of rfl fun Q X hq => by
  rw [ev_slc]
  refine ha.r _ _ ?_
  simp only [evO]
  refine hb.e _ _ ⟨_, rfl, ?_⟩
  refine ⟨hf, ?_⟩
  rw [cut_from]
  exact hq
theorem as_addL {a b : E} {o o' : Bool} {xs ys : List D} (ha : As G a (.lst o xs) en en1) (hb : As G b (.lst o' ys) en1 en2) (hx : fzs xs = true) (hy : fzs ys = true) (hl : xs.length + ys.length ≤ 16777216) : As G (.bin .Add a b) (.lst true (xs ++ ys)) en en2 := as_bin ha hb fun k h => ⟨⟨hx, hy, hl⟩, h⟩
/-- a source whose items are frozen on the way -/
theorem ass_itF {a : E} {x : D} {xs ys : List D} (ha : As G a x en en1) (hI : itms x = some xs) (hf : frzs xs = ys) : Ass G (.it a) ys en en1 := fun Q X hq => by
  rw [src_it]
  refine ha.e _ _ ⟨xs, hI, ?_⟩
  rw [hf]
  exact hq
end
theorem fzs_app : ∀ {xs ys : List D}, fzs xs = true → fzs ys = true → fzs (xs ++ ys) = true
  | [], _, _, h => h
  | x :: xs, ys, h1, h2 => by
    simp only [fzs, Bool.and_eq_true] at h1
    rw [List.cons_append, fzs, h1.1, fzs_app h1.2 h2]
    rfl
theorem fzs_mI (ns : List Int) : fzs (ns.map D.int) = true := by simp
theorem app_rowT (rows : List (List Nat)) (r : List Nat) : rows.map rowT ++ [rowT r] = (rows ++ [r]).map rowT := by simp
theorem rg_rI (n : Nat) : rgL 0 (n : Int) = (rI (List.range' 0 n)).map .int := by
  rw [rgL_0, rI_map]
theorem as_lrg1 {G : Gb} {a : E} {n : Nat} {en en1 : En} (hn : n ≤ 100000) (ha : As G a (.int n) en en1) : As G (.lrg (.cons a .nil)) (.lst true ((rI (List.range' 0 n)).map .int)) en en1 := .of rfl fun Q X hq => by
  rw [ev, evs_c]
  refine ha.e _ _ ?_
  rw [evs_0]
  refine ⟨by omega, ?_⟩
  rw [rg_rI]
  exact hq
/-- xs.insert(i, x) -/
theorem r_ins {G : Gb} {P : Pt} {ss : Ss} {i : Nat} {a b : E} {z : Int} {d : D} {xs ws : List D} {en en1 en2 : En} (hw : (en[i]?).join = some (.lst true ws)) (ha : As G a (.int z) en en1) (hb : As G b d en1 en2) (hi : (en2[i]?).join = some (.lst true xs)) (hc : fzs xs = true ∧ fz d = true ∧ xs.length < 16777216 ∧ 0 ≤ z ∧ z < 2 ^ 63) (k : runs G ss (en2.set i (some (.lst true (xs.take z.toNat ++ [d] ++ xs.drop z.toNat)))) P) : runs G (.cons (.expr (.mut .insert i (.cons a (.cons b .nil)))) ss) en P := by
  rw [runs_k, run_expr, ev_mut]
  refine ⟨⟨ws, hw⟩, ?_⟩
  rw [evs_c]
  refine ha.e _ _ ?_
  rw [evs_c]
  refine hb.e _ _ ?_
  rw [evs_0]
  simp only [hi, mutW]
  exact ⟨hc, k⟩
theorem rows_map {rows : List (List Nat)} {R : D} (h : RowsD rows R) : ∃ rs : List (List Nat × D), rs.map (·.1) = rows ∧ itms R = some (rs.map (·.2)) ∧ ∀ r ∈ rs, RowD r.1 r.2 := by
  obtain ⟨ds, h1, h3, h4⟩ := h.it
  refine ⟨rows.zip ds, by rw [List.map_fst_zip (by omega)], by rw [List.map_snd_zip (by omega)]; exact h1, fun r hr => ?_⟩
  obtain ⟨i, hi, rfl⟩ := List.getElem_of_mem hr
  rw [List.length_zip] at hi
  obtain ⟨d, e, hd⟩ := h4 i (by omega)
  rw [List.getElem_zip]
  rw [List.getElem?_eq_getElem (by omega)] at e
  cases e
  exact hd
theorem fzs_rs : ∀ {rs : List (List Nat × D)}, (∀ r ∈ rs, RowD r.1 r.2) → fzs (rs.map (·.2)) = true
  | [], _ => rfl
  | r :: rs, h => by
    rw [List.map_cons, fzs, (h r List.mem_cons_self).fz, fzs_rs fun r hr => h r (List.mem_cons_of_mem _ hr)]
    rfl
theorem log_lt {n : Nat} (hn : 0 < n) (hz : n ≤ 1000) : ((n : Int)).natAbs.log2 < 9000 := by
  rw [Int.natAbs_natCast]
  have h1 := Nat.log2_self_le (n := n) (by omega)
  have h2 : n.log2 < 2 ^ n.log2 := Nat.lt_two_pow_self
  omega
/-- told pairs, as the laws compare them -/
theorem as_nePx {G : Gb} {a b : E} {s : String} {z : Int} {en en1 en2 : En} (ha : As G a (.tup [.str (Str.ofString s), .int z]) en en1) (hb : As G b (.int z) en1 en2) (hs : PyData.strOk (Str.ofString s) = true) : As G (.cmp .NotEq a (.tup (.cons (.str s) (.cons b .nil)))) (.bl false) en en2 := as_cmp ha (as_tup (asv_c as_s (asv_c hb asv_0))) fun _ hk => neP hs hk
theorem as_nePSx {G : Gb} {a : E} {s s' : String} {en en1 : En} (ha : As G a (.tup [.str (Str.ofString s), .str (Str.ofString s')]) en en1) (hs : PyData.strOk (Str.ofString s) = true) (hs' : PyData.strOk (Str.ofString s') = true) : As G (.cmp .NotEq a (.tup (.cons (.str s) (.cons (.str s') .nil)))) (.bl false) en en1 := as_cmp ha (as_tup (asv_c as_s (asv_c as_s asv_0))) fun _ hk => nePS hs hs' hk
theorem as_addLl {G : Gb} {a : E} {es : Es} {o : Bool} {xs ys : List D} {en en1 en2 : En} (ha : As G a (.lst o xs) en en1) (hb : Asv G es ys en1 en2) (hx : fzs xs = true) (hy : fzs ys = true) (hl : xs.length + ys.length ≤ 16777216) : As G (.bin .Add a (.lst es)) (.lst true (xs ++ ys)) en en2 := as_addL ha (as_lst hb) hx hy hl
theorem ass_rg1L {G : Gb} {a : E} {x : Int} {en en1 : En} (n : Nat) (ha : As G a (.int x) en en1) (hx : x = (n : Int)) (hn : n ≤ 100000) : Ass G (.rng (.cons a .nil)) ((List.range' 0 n).map fun i : Nat => D.int (i : Int)) en en1 := ass_rg1 hn (as_cast ha hx)
theorem ass_rg2L {G : Gb} {a b : E} {x y : Int} {en en1 en2 : En} (m n : Nat) (ha : As G a (.int x) en en1) (hb : As G b (.int y) en1 en2) (hx : x = (m : Int)) (hy : y = (n : Int)) (hm : m ≤ 100000) (hn : n ≤ 100000) : Ass G (.rng (.cons a (.cons b .nil))) ((List.range' m (n - m)).map fun i : Nat => D.int (i : Int)) en en2 := ass_rg2 hm hn (as_cast ha hx) (as_cast hb hy)
theorem as_iscT {G : Gb} {a : E} {c : String} {o : Bool} {ns : List Str} {fs : List D} {en en1 : En} (hI : G.isc (Str.ofString c) = true) (ha : As G a (.ins o (Str.ofString c) ns fs) en en1) : As G (.isc a c) (.bl true) en en1 := as_castb (as_isc hI ha hI) (by simp)
theorem as_andF1 {G : Gb} {a b : E} {es : Es} {en en1 : En} (ha : As G a (.bl false) en en1) : As G (.bop true (.cons a (.cons b es))) (.bl false) en en1 := as_bopS rfl ha
theorem as_orT1 {G : Gb} {a b : E} {es : Es} {en en1 : En} (ha : As G a (.bl true) en en1) : As G (.bop false (.cons a (.cons b es))) (.bl true) en en1 := as_bopS rfl ha
theorem as_andF2 {G : Gb} {a b : E} {es : Es} {en en1 en2 : En} (ha : As G a (.bl true) en en1) (hb : As G (.bop true (.cons b es)) (.bl false) en1 en2) : As G (.bop true (.cons a (.cons b es))) (.bl false) en en2 := as_bopN rfl ha hb
theorem as_orT2 {G : Gb} {a b : E} {es : Es} {en en1 en2 : En} (ha : As G a (.bl false) en en1) (hb : As G (.bop false (.cons b es)) (.bl true) en1 en2) : As G (.bop false (.cons a (.cons b es))) (.bl true) en en2 := as_bopN rfl ha hb
theorem as_castL {G : Gb} {e : E} {x y : Int} {en en1 : En} (h : As G e (.int x) en en1) (hxy : x = y) : As G e (.int y) en en1 := as_cast h hxy
end Pf

/-! The rows with a zero, one behind the other. -/
namespace Pf
open PySem PySem.Spec PyProof.Rows L2
/-- so many rows of l more numbers, with a zero already (z) or with one still to come -/
def cnt (P : Nat) (z : Bool) (l : Nat) : Nat := if z = true then (P + 1) ^ l else (P + 1) ^ l - P ^ l
theorem pow_le (P l : Nat) : P ^ l ≤ (P + 1) ^ l := Nat.pow_le_pow_left (by omega) l
theorem pow_pos' (P l : Nat) : 0 < (P + 1) ^ l := Nat.pow_pos (by omega)
theorem cnt_t (P l : Nat) : cnt P true l = (P + 1) ^ l := rfl
theorem cnt_f (P l : Nat) : cnt P false l = (P + 1) ^ l - P ^ l := rfl
theorem cnt_succ_f (P l : Nat) : cnt P false (l + 1) = (P + 1) ^ l + P * cnt P false l := by
  rw [cnt_f, cnt_f, Nat.pow_succ, Nat.pow_succ, Nat.mul_sub]
  have h := pow_le P l
  have h2 : P * P ^ l ≤ P * (P + 1) ^ l := Nat.mul_le_mul_left _ h
  rw [Nat.mul_comm (P ^ l) P, Nat.mul_comm ((P + 1) ^ l) (P + 1), Nat.add_mul, Nat.one_mul]
  omega
theorem cnt_succ_t (P l : Nat) : cnt P true (l + 1) = (P + 1) * (P + 1) ^ l := by rw [cnt_t, Nat.pow_succ, Nat.mul_comm]
/-- the next number, and what is left -/
def dig (P : Nat) (z : Bool) (l left : Nat) : Nat × Nat := if z = true then (left / (P + 1) ^ l, left % (P + 1) ^ l) else if left < (P + 1) ^ l then (0, left) else (1 + (left - (P + 1) ^ l) / cnt P false l, (left - (P + 1) ^ l) % cnt P false l)
theorem dig_lt {P l left : Nat} {z : Bool} (h : left < cnt P z (l + 1)) : (dig P z l left).1 ≤ P ∧ (dig P z l left).2 < cnt P (z || (dig P z l left).1 == 0) l := by
  unfold dig
  cases z with
  | true =>
    rw [cnt_succ_t] at h
    rw [if_pos rfl]
    exact ⟨by have := Nat.div_lt_of_lt_mul (Nat.mul_comm _ _ ▸ h : left < (P + 1) ^ l * (P + 1)); dsimp only; omega, Nat.mod_lt _ (pow_pos' P l)⟩
  | false =>
    rw [cnt_succ_f] at h
    rw [if_neg Bool.false_ne_true]
    by_cases h1 : left < (P + 1) ^ l
    · rw [if_pos h1]
      exact ⟨Nat.zero_le _, h1⟩
    · rw [if_neg h1]
      have h2 : left - (P + 1) ^ l < cnt P false l * P := by rw [Nat.mul_comm]; omega
      have h3 : 0 < cnt P false l := by
        rcases Nat.eq_zero_or_pos (cnt P false l) with e | e
        · rw [e, Nat.zero_mul] at h2; omega
        · exact e
      have h4 := Nat.div_lt_of_lt_mul h2
      refine ⟨by dsimp only; generalize (left - (P + 1) ^ l) / cnt P false l = s at h4 ⊢; omega, ?_⟩
      have e : (1 + (left - (P + 1) ^ l) / cnt P false l == 0) = false := by
        rw [beq_eq_false_iff_ne]
        generalize (left - (P + 1) ^ l) / cnt P false l = s
        omega
      dsimp only
      rw [e]
      exact Nat.mod_lt _ h3
/-- so many rows stand before those that go on with c -/
def pre (P : Nat) (z : Bool) (l c : Nat) : Nat := if z = true then c * (P + 1) ^ l else if c = 0 then 0 else (P + 1) ^ l + (c - 1) * cnt P false l
theorem dig_pre {P l left : Nat} {z : Bool} : pre P z l (dig P z l left).1 + (dig P z l left).2 = left := by
  unfold dig pre
  cases z with
  | true =>
    rw [if_pos rfl, if_pos rfl]
    dsimp only
    rw [Nat.mul_comm]
    exact Nat.div_add_mod _ _
  | false =>
    rw [if_neg Bool.false_ne_true, if_neg Bool.false_ne_true]
    by_cases h1 : left < (P + 1) ^ l
    · rw [if_pos h1]
      dsimp only
      rw [if_pos rfl]
      omega
    · rw [if_neg h1]
      dsimp only
      rw [if_neg (by generalize (left - (P + 1) ^ l) / cnt P false l = s; omega), show 1 + (left - (P + 1) ^ l) / cnt P false l - 1 = (left - (P + 1) ^ l) / cnt P false l by generalize (left - (P + 1) ^ l) / cnt P false l = s; omega, Nat.add_assoc, Nat.mul_comm, Nat.div_add_mod]
      omega
theorem pre_dig {P l c r : Nat} {z : Bool} (hr : r < cnt P (z || c == 0) l) : dig P z l (pre P z l c + r) = (c, r) := by
  unfold dig pre
  cases z with
  | true =>
    rw [if_pos rfl, if_pos rfl]
    have h : r < (P + 1) ^ l := hr
    rw [Nat.mul_comm, Nat.mul_add_div (pow_pos' P l), Nat.mul_add_mod, Nat.div_eq_of_lt h, Nat.mod_eq_of_lt h, Nat.add_zero]
  | false =>
    rw [if_neg Bool.false_ne_true, if_neg Bool.false_ne_true]
    by_cases hc : c = 0
    · subst hc
      have h : r < (P + 1) ^ l := hr
      rw [if_pos rfl, Nat.zero_add, if_pos h]
    · have e : (c == 0) = false := beq_eq_false_iff_ne.mpr hc
      rw [e, Bool.or_false] at hr
      rw [if_neg hc, if_neg (by omega), show (P + 1) ^ l + (c - 1) * cnt P false l + r - (P + 1) ^ l = cnt P false l * (c - 1) + r by rw [Nat.mul_comm]; omega, Nat.mul_add_div (by omega), Nat.mul_add_mod, Nat.div_eq_of_lt hr, Nat.mod_eq_of_lt hr]
      rw [show 1 + (c - 1 + 0) = c by omega]
theorem pre_lt {P l c r : Nat} {z : Bool} (hc : c ≤ P) (hr : r < cnt P (z || c == 0) l) : pre P z l c + r < cnt P z (l + 1) := by
  unfold pre
  cases z with
  | true =>
    have h : r < (P + 1) ^ l := hr
    rw [cnt_succ_t, if_pos rfl]
    have : (c + 1) * (P + 1) ^ l ≤ (P + 1) * (P + 1) ^ l := Nat.mul_le_mul_right _ (by omega)
    rw [Nat.add_mul, Nat.one_mul] at this
    omega
  | false =>
    rw [cnt_succ_f, if_neg Bool.false_ne_true]
    by_cases h0 : c = 0
    · subst h0
      have h : r < (P + 1) ^ l := hr
      rw [if_pos rfl]
      omega
    · have e : (c == 0) = false := beq_eq_false_iff_ne.mpr h0
      rw [e, Bool.or_false] at hr
      rw [if_neg h0]
      have : (c - 1 + 1) * cnt P false l ≤ P * cnt P false l := Nat.mul_le_mul_right _ (by omega)
      rw [Nat.add_mul, Nat.one_mul] at this
      omega
/-- the row at a place, and the place of a row -/
def rowAt (P : Nat) : Nat → Bool → Nat → List Nat
  | 0, _, _ => []
  | l + 1, z, left => (dig P z l left).1 :: rowAt P l (z || (dig P z l left).1 == 0) (dig P z l left).2
def rankOf (P : Nat) : Bool → List Nat → Nat
  | _, [] => 0
  | z, c :: r => pre P z r.length c + rankOf P (z || c == 0) r
theorem rowAt_len (P : Nat) : ∀ (l : Nat) (z : Bool) (left : Nat), (rowAt P l z left).length = l
  | 0, _, _ => rfl
  | l + 1, z, left => by rw [rowAt, List.length_cons, rowAt_len]
theorem rowAt_ok {P : Nat} : ∀ {l : Nat} {z : Bool} {left : Nat}, left < cnt P z l → (∀ c ∈ rowAt P l z left, c ≤ P) ∧ (z = true ∨ 0 ∈ rowAt P l z left)
  | 0, z, left, h => by
    refine ⟨by simp [rowAt], ?_⟩
    cases z with
    | true => exact .inl rfl
    | false => rw [cnt_f] at h; simp at h
  | l + 1, z, left, h => by
    obtain ⟨h1, h2⟩ := dig_lt h
    obtain ⟨h3, h4⟩ := rowAt_ok h2
    rw [rowAt]
    refine ⟨fun c hc => ?_, ?_⟩
    · rcases List.mem_cons.mp hc with rfl | hc
      · exact h1
      · exact h3 c hc
    · rcases h4 with h4 | h4
      · rcases (Bool.or_eq_true _ _).mp h4 with e | e
        · exact .inl e
        · right
          rw [eq_of_beq e]
          exact List.mem_cons_self
      · exact .inr (List.mem_cons_of_mem _ h4)
theorem rowAt_rank {P : Nat} : ∀ {r : List Nat} {z : Bool}, (∀ c ∈ r, c ≤ P) → (z = true ∨ 0 ∈ r) → rankOf P z r < cnt P z r.length ∧ rowAt P r.length z (rankOf P z r) = r
  | [], z, _, h => by
    have : z = true := h.elim id fun h => by cases h
    subst this
    exact ⟨Nat.one_pos, rfl⟩
  | c :: r, z, hle, h0 => by
    have hz : (z || c == 0) = true ∨ 0 ∈ r := by
      rcases h0 with h | h
      · exact .inl (by rw [h]; rfl)
      · rcases List.mem_cons.mp h with e | e
        · exact .inl (by rw [← e]; simp)
        · exact .inr e
    obtain ⟨h1, h2⟩ := rowAt_rank (r := r) (fun c hc => hle c (List.mem_cons_of_mem _ hc)) hz
    refine ⟨pre_lt (hle c List.mem_cons_self) h1, ?_⟩
    rw [List.length_cons, rowAt, rankOf, pre_dig h1, h2]
theorem rank_rowAt {P : Nat} : ∀ {l : Nat} {z : Bool} {left : Nat}, left < cnt P z l → rankOf P z (rowAt P l z left) = left
  | 0, z, left, h => by
    cases z with
    | true => rw [cnt_t] at h; simp at h; rw [h]; rfl
    | false => rw [cnt_f] at h; simp at h
  | l + 1, z, left, h => by
    obtain ⟨h1, h2⟩ := dig_lt h
    rw [rowAt, rankOf, rowAt_len, rank_rowAt h2]
    exact dig_pre
theorem rowAt_Rw {P n left : Nat} (hn : 0 < n) (h : left < cnt P false n) : Rw P (rowAt P n false left) := by
  obtain ⟨h1, h2⟩ := rowAt_ok h
  exact ⟨by rw [rowAt_len]; exact hn, h1, fun _ => h2.resolve_left Bool.false_ne_true⟩
/-- every row of numbers that is a pattern's has a zero, also where there are no props -/
theorem Rw.zero_in {P : Nat} {a : List Nat} (w : Rw P a) : 0 ∈ a := by
  rcases Nat.eq_zero_or_pos P with e | e
  · have hn := w.n
    have := w.le a[0] (List.getElem_mem hn)
    have h0 : a[0] = 0 := by omega
    rw [← h0]
    exact List.getElem_mem hn
  · exact w.z e
theorem Rw.rank {P : Nat} {a : List Nat} (w : Rw P a) : rankOf P false a < cnt P false a.length ∧ rowAt P a.length false (rankOf P false a) = a := rowAt_rank w.le (.inr w.zero_in)
theorem cnt_pos (P : Nat) {n : Nat} (hn : 0 < n) : 0 < cnt P false n := by
  obtain ⟨m, rfl⟩ := Nat.exists_eq_succ_of_ne_zero (show n ≠ 0 by omega)
  rw [Nat.succ_eq_add_one, cnt_succ_f]
  have := pow_pos' P m
  omega
theorem cnt_int (P n : Nat) : ((cnt P false n : Nat) : Int) = ((P : Int) + 1) ^ n - (P : Int) ^ n := by
  rw [cnt_f]
  have := pow_le P n
  push_cast [Int.ofNat_sub this]
  rfl
end Pf

/-! Terms that the laws of places share (printed by gen3.py). -/
namespace Pf
open PySem PySem.Spec PyProof.Rows L2
def m__all_times : Ss := (.cons (.asg 1 (.int 1)) (.cons (.forr [2] (.it (.fv 0)) (.cons (.asg 1 (.bin .Mult (.var 1) (.var 2))) .nil)) (.cons (.ret (.var 1)) .nil)))
def m__power_of : Ss := (.cons (.ret (.call "_all_times" (.cons (.bin .Mult (.lst (.cons (.var 0) .nil)) (.var 1)) .nil))) .nil)
def m__row_counts : Ss := (.cons (.asg 2 (.call "_power_of" (.cons (.bin .Add (.var 0) (.int 1)) (.cons (.var 1) .nil)))) (.cons (.ret (.tup (.cons (.var 2) (.cons (.bin .Sub (.var 2) (.call "_power_of" (.cons (.var 0) (.cons (.var 1) .nil)))) .nil)))) .nil))
def m_how_many : Ss := (.cons (.expr (.call "check_whole" (.cons (.var 0) (.cons (.str "size") (.cons (.int 1) .nil))))) (.cons (.expr (.call "check_whole" (.cons (.var 1) (.cons (.str "props") (.cons (.int 0) .nil))))) (.cons (.ret (.bin .Sub (.call "_power_of" (.cons (.bin .Add (.var 1) (.int 1)) (.cons (.var 0) .nil))) (.call "_power_of" (.cons (.var 1) (.cons (.var 0) .nil))))) .nil)))
def m_nth : Ss := (.cons (.asg 3 (.call "how_many" (.cons (.var 0) (.cons (.var 1) .nil)))) (.cons (.expr (.call "check_whole" (.cons (.var 2) (.cons (.str "place") (.cons (.int 0) .nil))))) (.cons (.iff (.cmp .GtE (.var 2) (.var 3)) (.cons (.raise "BadNumber" (.cons (.str "place") .nil)) .nil) .nil) (.cons (.asg 4 (.lst .nil)) (.cons (.asg 5 (.var 2)) (.cons (.forr [6] (.rng (.cons (.var 0) .nil)) (.cons (.asgT [7, 8] (.call "_row_counts" (.cons (.var 1) (.cons (.bin .Sub (.bin .Sub (.var 0) (.var 6)) (.int 1)) .nil)))) (.cons (.iff (.cmp .In (.int 0) (.var 4)) (.cons (.asgT [9, 5] (.blt .dvm (.cons (.var 5) (.cons (.var 7) .nil)))) .nil) (.cons (.iff (.cmp .Lt (.var 5) (.var 7)) (.cons (.asg 9 (.int 0)) .nil) (.cons (.asgT [10, 5] (.blt .dvm (.cons (.bin .Sub (.var 5) (.var 7)) (.cons (.var 8) .nil)))) (.cons (.asg 9 (.bin .Add (.int 1) (.var 10))) .nil))) .nil)) (.cons (.expr (.mut .append 4 (.cons (.var 9) .nil))) .nil)))) (.cons (.ret (.call "pattern_by" (.cons (.var 1) (.cons (.var 4) .nil)))) .nil)))))))
def m_place_of : Ss := (.cons (.asg 1 (.call "overtakings" (.cons (.fv 0) .nil))) (.cons (.asg 2 (.int 0)) (.cons (.asg 3 (.bl false)) (.cons (.forr [4] (.rng (.cons (.blt .len (.cons (.var 1) .nil)) .nil)) (.cons (.asgT [5, 6] (.call "_row_counts" (.cons (.fld (.fv 0) "props") (.cons (.bin .Sub (.bin .Sub (.blt .len (.cons (.var 1) .nil)) (.var 4)) (.int 1)) .nil)))) (.cons (.iff (.var 3) (.cons (.aug 2 .Add (.bin .Mult (.idx (.var 1) (.var 4)) (.var 5))) .nil) (.cons (.iff (.cmp .Gt (.idx (.var 1) (.var 4)) (.int 0)) (.cons (.aug 2 .Add (.bin .Add (.var 5) (.bin .Mult (.bin .Sub (.idx (.var 1) (.var 4)) (.int 1)) (.var 6)))) .nil) .nil) .nil)) (.cons (.asg 3 (.bop false (.cons (.var 3) (.cons (.cmp .Eq (.idx (.var 1) (.var 4)) (.int 0)) .nil)))) .nil)))) (.cons (.ret (.var 2)) .nil)))))
def m_all_patterns : Ss := (.cons (.asg 2 (.call "how_many" (.cons (.var 0) (.cons (.var 1) .nil)))) (.cons (.iff (.cmp .Gt (.var 2) (.int 5000)) (.cons (.raise "TooMany" (.cons (.int 5000) .nil)) .nil) .nil) (.cons (.ret (.lc [3] (.rng (.cons (.var 2) .nil)) .nil (.ice (.call "nth" (.cons (.var 0) (.cons (.var 1) (.cons (.var 3) .nil))))))) .nil)))
def m__law_power : Ss := (.cons (.asg 2 (.int 1)) (.cons (.forr [3] (.rng (.cons (.var 1) .nil)) (.cons (.asg 2 (.bin .Mult (.var 2) (.var 0))) .nil)) (.cons (.ret (.var 2)) .nil)))
def m__law_times : Ss := (.cons (.asg 2 (.int 1)) (.cons (.forr [3] (.rng (.cons (.var 1) .nil)) (.cons (.asg 2 (.bin .Mult (.var 2) (.var 0))) .nil)) (.cons (.ret (.var 2)) .nil)))
end Pf

/-! Products, powers, how many rows, places. -/
namespace Pf
open PySem PySem.Spec PyProof.Rows L2
theorem fok_of {fkL icL ciL exL emL} {fs : List (String × FSp)} {ms cs : List ((String × String) × FSp)} {c f : String} (h : (fkL.any fun p => Str.ofString c == Str.ofString p.1 && Str.ofString f == Str.ofString p.2) = true) : (mkP fs ms cs icL fkL exL emL ciL).fok (Str.ofString c) (Str.ofString f) = true := h
theorem isc_of {fkL icL ciL exL emL} {fs : List (String × FSp)} {ms cs : List ((String × String) × FSp)} {c : String} (h : (icL.any fun x => Str.ofString c == Str.ofString x) = true) : (mkP fs ms cs icL fkL exL emL ciL).isc (Str.ofString c) = true := h
local macro_rules
  | `(tactic| infer_instance) => `(tactic| first
    | rfl
    | assumption
    | exact fz_lst_ints _
    | exact fz_tup_ints _
    | exact fz_rowT _
    | exact fz_rowsT _
    | exact fz_pa _ _
    | exact fz_li _
    | exact fz_lst_true _
    | (simp only [fz, fzs, Bool.and_true, fz_lst_ints, fz_tup_ints]; done))
local macro_rules
  | `(tactic| and_intros) => `(tactic| repeat' first
    | (show As _ _ _ _ _; with_reducible assumption)
    | exact as_i
    | exact as_s
    | exact as_n
    | exact as_b
    | exact as_v rfl (by infer_instance)
    | exact as_ff rfl (by infer_instance)
    | exact as_fr rfl (frz_li _)
    | exact as_fr rfl (frz_sgD _ _)
    | exact as_fr rfl (frz_pa _ _ _)
    | exact as_fr rfl (lstR_frz _)
    | exact as_fr rfl (by assumption)
    | exact as_leno rfl
    | exact as_sumo rfl
    | exact as_sortedo rfl
    | exact as_tupleo rfl (by infer_instance)
    | exact as_listo rfl (by infer_instance)
    | exact asr_0
    | exact asv_0
    | apply as_ntF
    | apply as_ntT
    | apply as_orF
    | apply as_andT
    | apply as_bop1
    | apply as_eqSx
    | apply as_eqT'
    | apply as_eqF'
    | apply as_nePSx
    | apply as_neSx
    | apply as_nePx
    | apply as_neT'
    | apply as_neF'
    | apply as_ltT'
    | apply as_ltF'
    | apply as_leT'
    | apply as_leF'
    | apply as_gtT'
    | apply as_gtF'
    | apply as_geT'
    | apply as_geF'
    | apply as_isT
    | apply as_isF
    | apply as_isnF
    | apply as_isnT
    | apply as_addLl
    | apply as_add
    | apply as_sub
    | apply as_modL
    | apply as_fdivL
    | apply as_mulX
    | apply as_neg
    | apply as_int1
    | (apply as_idxo; (· rfl))
    | apply as_idx
    | apply as_len
    | apply as_sum
    | apply as_sorted
    | apply as_list
    | apply as_tuple
    | apply as_tup
    | apply as_lst
    | (apply as_isioB; (· rfl); (· first | rfl | exact fz_lst_true _))
    | apply as_isiB
    | apply asv_c
    | (apply asr_o; (· rfl); (· first | rfl | exact fz_lst_true _))
    | apply asr_c
    | apply as_iscT
    | apply as_fld
    | apply as_meth
    | apply as_call
    | apply as_cm
    | apply as_new
    | (apply as_newv; (· rfl))
    | (show Ret _ _ _ _; with_reducible assumption)
    | (show Gb.fns _ _ = _; rfl)
    | (show Gb.cmt _ _ _ = _; rfl)
    | (show Gb.mth _ _ _ = _; rfl)
    | (show itms _ = some _; first | rfl | assumption)
    | (show Option.join _ = some _; rfl)
    | (show takeA _ _ = _; rfl)
    | (show putA _ _ _ = _; rfl)
    | (show PyData.strOk _ = true; decide +kernel)
    | (show isiT _ = true; rfl)
    | (show Gb.fok _ _ _ = true; exact fok_of (by decide))
    | (show Gb.isc _ _ = true; exact isc_of (by decide))
    | (show List.contains _ _ = false; decide)
    | (show List.lookup _ _ = some _; rfl)
    | (show List.any _ _ = _; rfl)
    | (show atI _ _ = _; with_reducible assumption)
    | (show (0 : Int) < _; omega)
    | (show isNon _ = false; rfl)
    | (show fz _ = true; infer_instance)
    | (show fz _ = false; infer_instance)
    | (show fzs _ = true; infer_instance))

def MulOk (i j : Int) : Prop := (-(2 ^ 64) < i ∧ i < 2 ^ 64) ∨ (-(2 ^ 64) < j ∧ j < 2 ^ 64) ∨ i.natAbs.log2 + j.natAbs.log2 < 1000000
section
variable {G : Gb} {en en1 en2 : En} {P : Pt} {ss : Ss}
theorem as_mulG {a b : E} {x y : Int} (ha : As G a (.int x) en en1) (hb : As G b (.int y) en1 en2) (hy : MulOk x y) : As G (.bin .Mult a b) (.int (x * y)) en en2 := as_bin ha hb fun k h => ⟨hy, h⟩
theorem as_inIo {a : E} {j : Nat} {x : Int} {ns : List Int} (ha : As G a (.int x) en en1) (hb : (en1[j]?).join = some (.lst true (ns.map .int))) : As G (.cmp .In a (.var j)) (.bl (ns.contains x)) en en1 := as_cmpR ha hb (by simp) fun k h => by
  simp only [cmpW, inW, itms]
  refine ⟨⟨rfl, ?_⟩, ?_⟩
  · rw [List.all_eq_true]
    intro d hd
    obtain ⟨z, _, rfl⟩ := List.mem_map.mp hd
    rfl
  · rw [any_deq, Bool.false_xor]
    exact h
theorem run_asgT {is : List Nat} {e : E} : run G (.asgT is e) en P = ev G e en (fun d e1 => ∃ ds e2, d = .tup ds ∧ setN e1 is ds = some e2 ∧ P.nx e2) P.ex := by rw [run]
theorem r_asgT {is : List Nat} {e : E} {ds : List D} (h : As G e (.tup ds) en en1) (hs : setN en1 is ds = some en2) (k : runs G ss en2 P) : runs G (.cons (.asgT is e) ss) en P := by
  rw [runs_k, run_asgT]
  exact h.e _ _ ⟨ds, en2, rfl, hs, k⟩
theorem r_augS {i : Nat} {e : E} {x y : Int} {d0 : D} (hw : (en[i]?).join = some d0) (he : As G e (.int y) en en1) (h1 : (en1[i]?).join = some (.int x)) (k : runs G ss (en1.set i (some (.int (x - y)))) P) : runs G (.cons (.aug i .Sub e) ss) en P := by
  rw [runs_k, run_aug]
  refine ⟨⟨d0, hw⟩, he.e _ _ ?_⟩
  simp only [h1]
  exact ⟨y, rfl, k⟩
theorem as_mulLst {a b : E} {o : Bool} {xs : List D} {n : Nat} (ha : As G a (.lst o xs) en en1) (hb : As G b (.int (n : Int)) en1 en2) (hx : fzs xs = true) (hl : xs.length * n ≤ 16777216) (hn : n ≤ 16777216) : As G (.bin .Mult a b) (.lst true (List.replicate n xs).flatten) en en2 := as_bin ha hb fun k h => by
  refine ⟨⟨hx, by omega, by omega, by rw [Int.toNat_natCast]; exact hl⟩, ?_⟩
  rw [Int.toNat_natCast]
  exact h
end
def lprod (xs : List Int) : Int := xs.foldl (· * ·) 1
theorem lprod_app (xs : List Int) (x : Int) : lprod (xs ++ [x]) = lprod xs * x := by
  unfold lprod
  rw [List.foldl_append]
  rfl
theorem lprod_rep (b : Int) : ∀ n : Nat, lprod (List.replicate n b) = b ^ n
  | 0 => by simp [lprod]
  | n + 1 => by rw [List.replicate_succ', lprod_app, lprod_rep b n, Int.pow_succ]
theorem take_succ' {α : Type} {xs : List α} {s : Nat} (h : s < xs.length) : xs.take (s + 1) = xs.take s ++ [xs[s]] := by rw [List.take_succ, List.getElem?_eq_getElem h]; rfl
def SpAll (F : FSp) : Prop := ∀ (ns : List Int) (N0 N : D), frz N0 = N → fz N = true → itms N = some (ns.map .int) → (∀ i (h : i < ns.length), MulOk (lprod (ns.take i)) ns[i]) → Ret F [N0] (.int (lprod ns)) [some N]
theorem L_all {G : Gb} : SpAll (semF G 3 1 [0] m__all_times) := by
  intro ns N0 N h0 hf hI hm q x h
  refine ⟨rfl, ?_⟩
  unfold m__all_times
  simp only [List.map_cons, List.map_nil, List.cons_append, List.nil_append, Nat.reduceSub, List.replicate]
  apply r_asg
  · and_intros
  try dsimp only [putA, List.set_cons_succ, List.set_cons_zero]
  apply r_for
  · exact ass_it (as_fr rfl h0) hI (by simp)
  try dsimp only [putA, List.set_cons_succ, List.set_cons_zero]
  refine fr_xs ns D.int (fun s en => s ≤ ns.length ∧ ∃ y, en = [some N, some (.int (lprod (ns.take s))), y]) ?_ ?_ ⟨Nat.zero_le _, _, rfl⟩
  · rintro s hs en K ⟨_, y, rfl⟩ hK
    try dsimp only [putA, List.set_cons_succ, List.set_cons_zero]
    refine r_asg (as_mulG (as_v rfl rfl) (as_v rfl rfl) (hm s hs)) ?_
    rw [runs_0]
    try dsimp only [putA, List.set_cons_succ, List.set_cons_zero]
    rw [← lprod_app, ← take_succ' hs]
    exact hK _ ⟨hs, _, rfl⟩
  · rintro en ⟨_, y, rfl⟩
    refine r_retf rfl rfl ?_
    rw [List.take_length]
    exact h
theorem rep_int (b : Int) : ∀ n : Nat, (List.replicate n [D.int b]).flatten = (List.replicate n b).map D.int
  | 0 => rfl
  | n + 1 => by rw [List.replicate_succ, List.flatten_cons, rep_int b n, List.replicate_succ, List.map_cons]; rfl
def SpPow (F : FSp) : Prop := ∀ (b n : Nat), b < 2 ^ 63 → n ≤ 100000 → Ret F [.int b, .int n] (.int ((b : Int) ^ n)) [some (.int b), some (.int n)]
theorem L_pow {G : Gb} {F1 : FSp} (h1 : G.fns "_all_times" = some F1) (s1 : SpAll F1) : SpPow (semF G 2 2 [0, 1] m__power_of) := by
  intro b n hb hn q x h
  refine ⟨rfl, ?_⟩
  unfold m__power_of
  simp only [List.map_cons, List.map_nil, List.cons_append, List.nil_append, Nat.reduceSub, List.replicate]
  have m1 := s1 (List.replicate n (b : Int)) (.lst true ((List.replicate n (b : Int)).map .int)) _ (frz_li _) (fz_lst_ints _) rfl (fun i hi => .inr (.inl (by rw [List.getElem_replicate]; omega)))
  rw [lprod_rep] at m1
  refine r_ret rfl (as_call h1 (asr_c (as_eq (as_mulLst (as_lst (asv_c (as_v rfl rfl) asv_0)) (as_v rfl rfl) rfl (by simp; omega) (by omega)) (by rw [rep_int])) asr_0) rfl m1 rfl) ?_
  exact h
structure SpMany (F : FSp) : Prop where
  ok : ∀ {n P : Nat}, 1 ≤ n → n ≤ 100000 → P < 2 ^ 60 → Ret F [.int n, .int P] (.int (cnt P false n : Nat)) [some (.int n), some (.int P)]
  size : ∀ {s p : D}, fz s = true → fz p = true → ((isiT s = true ∧ whole s = false) ∨ ∃ z : Int, s = .int z ∧ z < 1) → Exc F [s, p] "BadNumber" [.str (Str.ofString "size")] [some s, some p]
  props : ∀ {n : Nat} {p : D}, 1 ≤ n → fz p = true → ((isiT p = true ∧ whole p = false) ∨ ∃ z : Int, p = .int z ∧ z < 0) → Exc F [.int n, p] "BadNumber" [.str (Str.ofString "props")] [some (.int n), some p]
theorem chk_bad {F : FSp} (w_check : SpCheck F) {d : D} {l : Int} {nm : Str} (hf : fz d = true) (h : (isiT d = true ∧ whole d = false) ∨ ∃ z : Int, d = .int z ∧ z < l) : Exc F [d, .str nm, .int l] "BadNumber" [.str nm] [some d, some (.str nm), some (.int l)] := by
  rcases h with ⟨h1, h2⟩ | ⟨z, rfl, hz⟩
  · exact w_check.bad d (.int l) _ h1 hf h2 rfl
  · exact w_check.low_ z l _ hz
theorem L_many {G : Gb} {F1 F2 : FSp} (h1 : G.fns "check_whole" = some F1) (w_check : SpCheck F1) (h2 : G.fns "_power_of" = some F2) (w_pow : SpPow F2) : SpMany (semF G 2 2 [0, 1] m_how_many) where
  ok := fun {n P} hn hn2 hP q x h => by
    refine ⟨rfl, ?_⟩
    unfold m_how_many
    simp only [List.map_cons, List.map_nil, List.cons_append, List.nil_append, Nat.reduceSub, List.replicate]
    refine r_exp (as_call h1 (asr_c (as_v rfl rfl) (asr_c as_s (asr_c as_i asr_0))) rfl (w_check.low _ _ _ (by omega)) rfl) ?_
    refine r_exp (as_call h1 (asr_c (as_v rfl rfl) (asr_c as_s (asr_c as_i asr_0))) rfl (w_check.low _ _ _ (by omega)) rfl) ?_
    try dsimp only [putA, List.set_cons_succ, List.set_cons_zero]
    have m1 := w_pow (P + 1) n (by omega) hn2
    have m2 := w_pow P n (by omega) hn2
    have e1 : ((P + 1 : Nat) : Int) = (P : Int) + 1 := by push_cast; rfl
    rw [e1] at m1
    refine r_ret rfl (as_castL (as_sub (as_call h2 (asr_c (as_add (as_v rfl rfl) as_i) (asr_c (as_v rfl rfl) asr_0)) rfl m1 rfl) (as_call h2 (asr_c (as_v rfl rfl) (asr_c (as_v rfl rfl) asr_0)) rfl m2 rfl)) (cnt_int P n).symm) ?_
    exact h
  size := fun {s p} hs hp hb q x h => by
    refine ⟨rfl, ?_⟩
    unfold m_how_many
    simp only [List.map_cons, List.map_nil, List.cons_append, List.nil_append, Nat.reduceSub, List.replicate]
    exact r_expX h1 (asr_c (as_v rfl hs) (asr_c as_s (asr_c as_i asr_0))) rfl (chk_bad w_check hs hb) rfl h
  props := fun {n p} hn hp hb q x h => by
    refine ⟨rfl, ?_⟩
    unfold m_how_many
    simp only [List.map_cons, List.map_nil, List.cons_append, List.nil_append, Nat.reduceSub, List.replicate]
    refine r_exp (as_call h1 (asr_c (as_v rfl rfl) (asr_c as_s (asr_c as_i asr_0))) rfl (w_check.low _ _ _ (by omega)) rfl) ?_
    exact r_expX h1 (asr_c (as_v rfl hp) (asr_c as_s (asr_c as_i asr_0))) rfl (chk_bad w_check hp hb) rfl h
def SpRC (F : FSp) : Prop := ∀ (P l : Nat), P < 2 ^ 60 → l ≤ 100000 → Ret F [.int P, .int l] (.tup [.int ((P + 1) ^ l : Nat), .int (cnt P false l : Nat)]) [some (.int P), some (.int l)]
theorem L_rc {G : Gb} {F2 : FSp} (h2 : G.fns "_power_of" = some F2) (w_pow : SpPow F2) : SpRC (semF G 3 2 [0, 1] m__row_counts) := by
  intro P l hP hl q x h
  refine ⟨rfl, ?_⟩
  unfold m__row_counts
  simp only [List.map_cons, List.map_nil, List.cons_append, List.nil_append, Nat.reduceSub, List.replicate]
  have m1 := w_pow (P + 1) l (by omega) hl
  have m2 := w_pow P l (by omega) hl
  have e1 : ((P + 1 : Nat) : Int) = (P : Int) + 1 := by push_cast; rfl
  rw [e1] at m1
  refine r_asg (d := .int ((P + 1) ^ l : Nat)) (as_castL (as_call h2 (asr_c (as_add (as_v rfl rfl) as_i) (asr_c (as_v rfl rfl) asr_0)) rfl m1 rfl) (by push_cast; rfl)) ?_
  try dsimp only [putA, List.set_cons_succ, List.set_cons_zero]
  refine r_ret rfl (as_tup (asv_c (as_v rfl rfl) (asv_c (as_castL (y := ((cnt P false l : Nat) : Int)) (as_sub (as_v rfl rfl) (as_call h2 (asr_c (as_v rfl rfl) (asr_c (as_v rfl rfl) asr_0)) rfl m2 rfl)) (by rw [cnt_int]; push_cast; rfl)) asv_0))) ?_
  exact h
def SpLPow (F : FSp) : Prop := ∀ (b n : Nat), b < 2 ^ 63 → n ≤ 100000 → Ret F [.int b, .int n] (.int ((b : Int) ^ n)) [some (.int b), some (.int n)]
theorem L_lpow {G : Gb} : SpLPow (semF G 4 2 [0, 1] m__law_power) := by
  intro b n hb hn q x h
  refine ⟨rfl, ?_⟩
  unfold m__law_power
  simp only [List.map_cons, List.map_nil, List.cons_append, List.nil_append, Nat.reduceSub, List.replicate]
  apply r_asg
  · and_intros
  try dsimp only [putA, List.set_cons_succ, List.set_cons_zero]
  refine r_for (ass_rg1 (n := n) hn (as_v rfl rfl)) ?_
  refine fr_rg (fun s en => ∃ y, en = [some (.int (b : Int)), some (.int (n : Int)), some (.int ((b : Int) ^ s)), y]) ?_ ?_ ⟨_, rfl⟩
  · rintro s en K hs ⟨y, rfl⟩ hK
    try dsimp only [putA, List.set_cons_succ, List.set_cons_zero]
    refine r_asg (as_mulR (by omega) (as_v rfl rfl) (as_v rfl rfl)) ?_
    rw [runs_0]
    try dsimp only [putA, List.set_cons_succ, List.set_cons_zero]
    rw [← Int.pow_succ]
    exact hK _ ⟨_, rfl⟩
  · rintro en ⟨y, rfl⟩
    exact r_retf rfl rfl h
theorem L_ltimes {G : Gb} : SpLPow (semF G 4 2 [0, 1] m__law_times) := L_lpow
theorem log_pow {P l : Nat} (hP : P ≤ 1000) (hl : l ≤ 200) : (((P + 1) ^ l : Nat) : Int).natAbs.log2 < 9000 := by
  rw [Int.natAbs_natCast]
  have h1 : (P + 1) ^ l ≤ (2 ^ 10) ^ l := Nat.pow_le_pow_left (by omega) l
  rw [← Nat.pow_mul] at h1
  rw [Nat.log2_lt (by have := pow_pos' P l; omega)]
  refine Nat.lt_of_le_of_lt h1 (Nat.pow_lt_pow_right (by omega) (by omega))
theorem log_cnt {P l : Nat} (hP : P ≤ 1000) (hl : l ≤ 200) (hc : 0 < cnt P false l) : ((cnt P false l : Nat) : Int).natAbs.log2 < 9000 := by
  have h := log_pow hP hl
  rw [Int.natAbs_natCast] at h ⊢
  rw [Nat.log2_lt (by have := pow_pos' P l; omega)] at h
  rw [Nat.log2_lt (by omega)]
  refine Nat.lt_of_le_of_lt ?_ h
  rw [cnt_f]
  omega
structure SpNth (F : FSp) : Prop where
  ok : ∀ {n P pl : Nat} {hs : List Nat}, 1 ≤ n → n ≤ 200 → P ≤ 1000 → pl < cnt P false n → Hh P (rowAt P n false pl) hs → Ret F [.int n, .int P, .int pl] (sgD true hs) [some (.int n), some (.int P), some (.int pl)]
  size : ∀ {s p l : D}, fz s = true → fz p = true → fz l = true → ((isiT s = true ∧ whole s = false) ∨ ∃ z : Int, s = .int z ∧ z < 1) → Exc F [s, p, l] "BadNumber" [.str (Str.ofString "size")] [some s, some p, some l]
  props : ∀ {n : Nat} {p l : D}, 1 ≤ n → fz p = true → fz l = true → ((isiT p = true ∧ whole p = false) ∨ ∃ z : Int, p = .int z ∧ z < 0) → Exc F [.int n, p, l] "BadNumber" [.str (Str.ofString "props")] [some (.int n), some p, some l]
  place : ∀ {n P : Nat} {l : D}, 1 ≤ n → n ≤ 200 → P ≤ 1000 → fz l = true → ((isiT l = true ∧ whole l = false) ∨ ∃ z : Int, l = .int z ∧ (z < 0 ∨ (cnt P false n : Nat) ≤ z)) → Exc F [.int n, .int P, l] "BadNumber" [.str (Str.ofString "place")] [some (.int n), some (.int P), some l]
def nthB : Ss := .cons (.asgT [7, 8] (.call "_row_counts" (.cons (.var 1) (.cons (.bin .Sub (.bin .Sub (.var 0) (.var 6)) (.int 1)) .nil)))) (.cons (.iff (.cmp .In (.int 0) (.var 4)) (.cons (.asgT [9, 5] (.blt .dvm (.cons (.var 5) (.cons (.var 7) .nil)))) .nil) (.cons (.iff (.cmp .Lt (.var 5) (.var 7)) (.cons (.asg 9 (.int 0)) .nil) (.cons (.asgT [10, 5] (.blt .dvm (.cons (.bin .Sub (.var 5) (.var 7)) (.cons (.var 8) .nil)))) (.cons (.asg 9 (.bin .Add (.int 1) (.var 10))) .nil))) .nil)) (.cons (.expr (.mut .append 4 (.cons (.var 9) .nil))) .nil))
theorem rI_app (r : List Nat) (c : Nat) : (rI r).map D.int ++ [.int (c : Int)] = (rI (r ++ [c])).map .int := by simp [rI]
theorem rI_zero (r : List Nat) : (rI r).contains (0 : Int) = decide (0 ∈ r) := by
  rw [Bool.eq_iff_iff]
  simp only [List.contains_iff_mem, decide_eq_true_eq]
  unfold rI
  rw [List.mem_map]
  constructor
  · rintro ⟨y, hy, e⟩
    have : y = 0 := by omega
    exact this ▸ hy
  · intro h
    exact ⟨0, h, rfl⟩
theorem dec_app (r : List Nat) (c : Nat) : decide (0 ∈ r ++ [c]) = (decide (0 ∈ r) || c == 0) := by
  rw [Bool.eq_iff_iff, decide_eq_true_eq, Bool.or_eq_true, decide_eq_true_eq, List.mem_append, List.mem_singleton, beq_iff_eq]
  constructor
  · rintro (h | h)
    · exact .inl h
    · exact .inr h.symm
  · rintro (h | h)
    · exact .inl h
    · exact .inr h.symm
theorem nth_step {G : Gb} {F : FSp} {P' : Pt} {n P s left : Nat} {r : List Nat} {A2 A3 y7 y8 y9 y10 : Option D} (j1 : G.fns "_row_counts" = some F) (w_rc : SpRC F) (hn : n ≤ 200) (hP : P ≤ 1000) (hs : s < n) (hr : r.length = s) (hl : left < cnt P (decide (0 ∈ r)) (n - s)) (h : ∀ y7 y8 y9 y10, P'.nx [some (.int (n : Int)), some (.int (P : Int)), A2, A3, some (.lst true ((rI (r ++ [(dig P (decide (0 ∈ r)) (n - s - 1) left).1])).map .int)), some (.int ((dig P (decide (0 ∈ r)) (n - s - 1) left).2 : Nat)), some (.int (s : Int)), y7, y8, y9, y10]) : runs G nthB [some (.int (n : Int)), some (.int (P : Int)), A2, A3, some (.lst true ((rI r).map .int)), some (.int (left : Int)), some (.int (s : Int)), y7, y8, y9, y10] P' := by
  have m1 := w_rc P (n - s - 1) (by omega) (by omega)
  have e1 : ((n - s - 1 : Nat) : Int) = (n : Int) - (s : Int) - 1 := by omega
  have fin : ∀ (c left' : Nat) (y7 y8 y10 : Option D) (P2 : Pt), P2.nx = P'.nx → dig P (decide (0 ∈ r)) (n - s - 1) left = (c, left') → runs G (.cons (.expr (.mut .append 4 (.cons (.var 9) .nil))) .nil) [some (.int (n : Int)), some (.int (P : Int)), A2, A3, some (.lst true ((rI r).map .int)), some (.int (left' : Int)), some (.int (s : Int)), y7, y8, some (.int (c : Int)), y10] P2 := by
    intro c left' y7 y8 y10 P2 e2 hd
    rw [hd] at h
    apply r_app
    · rfl
    · and_intros
    · rfl
    · rw [List.length_map, rI_len]; omega
    try dsimp only [putA, List.set_cons_succ, List.set_cons_zero]
    rw [runs_0, e2, rI_app]
    exact h _ _ _ _
  unfold nthB
  refine r_asgT (as_call j1 (asr_c (as_v rfl rfl) (asr_c (as_castL (as_sub (as_sub (as_v rfl rfl) (as_v rfl rfl)) as_i) e1.symm) asr_0)) rfl m1 rfl) rfl ?_
  try dsimp only [putA, List.set_cons_succ, List.set_cons_zero]
  have hp := pow_pos' P (n - s - 1)
  by_cases hz : 0 ∈ r
  · apply r_ifT
    · refine as_castb (as_inIo as_i rfl) ?_
      rw [rI_zero]
      exact decide_eq_true hz
    refine r_asgT (as_dvm (x := (left : Int)) (y := (((P + 1) ^ (n - s - 1) : Nat) : Int)) (by omega) (log_pow hP (by omega)) (as_v rfl rfl) (as_v rfl rfl)) rfl ?_
    rw [runs_0]
    try dsimp only [putA, List.set_cons_succ, List.set_cons_zero]
    rw [show (left : Int) / (((P + 1) ^ (n - s - 1) : Nat) : Int) = ((left / (P + 1) ^ (n - s - 1) : Nat) : Int) from rfl, show (left : Int) % (((P + 1) ^ (n - s - 1) : Nat) : Int) = ((left % (P + 1) ^ (n - s - 1) : Nat) : Int) from rfl]
    refine fin _ _ _ _ _ _ rfl ?_
    unfold dig
    rw [decide_eq_true hz, if_pos rfl]
  · apply r_ifE
    · refine as_castb (as_inIo as_i rfl) ?_
      rw [rI_zero]
      exact decide_eq_false hz
    rw [decide_eq_false hz] at hl
    by_cases hc : left < (P + 1) ^ (n - s - 1)
    · apply r_ifT
      · and_intros
        exact Int.ofNat_lt.mpr hc
      refine r_asg as_i ?_
      rw [runs_0]
      try dsimp only [putA, List.set_cons_succ, List.set_cons_zero]
      rw [runs_0]
      try dsimp only [putA, List.set_cons_succ, List.set_cons_zero]
      refine fin 0 left _ _ _ _ rfl ?_
      unfold dig
      rw [decide_eq_false hz, if_neg Bool.false_ne_true, if_pos hc]
    · apply r_ifE
      · and_intros
        exact Int.ofNat_le.mpr (by omega)
      have hc0 : 0 < cnt P false (n - s - 1) := by
        rw [show n - s = n - s - 1 + 1 by omega, cnt_succ_f] at hl
        rcases Nat.eq_zero_or_pos (cnt P false (n - s - 1)) with e | e
        · rw [e, Nat.mul_zero] at hl; omega
        · exact e
      refine r_asgT (as_dvm (y := ((cnt P false (n - s - 1) : Nat) : Int)) (x := ((left - (P + 1) ^ (n - s - 1) : Nat) : Int)) (by omega) (log_cnt hP (by omega) hc0) (as_castL (as_sub (as_v rfl rfl) (as_v rfl rfl)) (by omega)) (as_v rfl rfl)) rfl ?_
      try dsimp only [putA, List.set_cons_succ, List.set_cons_zero]
      refine r_asg (as_add as_i (as_v rfl rfl)) ?_
      rw [runs_0]
      try dsimp only [putA, List.set_cons_succ, List.set_cons_zero]
      rw [runs_0]
      try dsimp only [putA, List.set_cons_succ, List.set_cons_zero]
      rw [show ((left - (P + 1) ^ (n - s - 1) : Nat) : Int) % ((cnt P false (n - s - 1) : Nat) : Int) = (((left - (P + 1) ^ (n - s - 1)) % cnt P false (n - s - 1) : Nat) : Int) from rfl, show 1 + ((left - (P + 1) ^ (n - s - 1) : Nat) : Int) / ((cnt P false (n - s - 1) : Nat) : Int) = ((1 + (left - (P + 1) ^ (n - s - 1)) / cnt P false (n - s - 1) : Nat) : Int) by rw [Int.natCast_add]; rfl]
      refine fin _ _ _ _ _ _ rfl ?_
      unfold dig
      rw [decide_eq_false hz, if_neg Bool.false_ne_true, if_neg hc]
end Pf

/-! The pattern at a place, the place of a pattern, all patterns. -/
namespace Pf
open PySem PySem.Spec PyProof.Rows L2
local macro_rules
  | `(tactic| infer_instance) => `(tactic| first
    | rfl
    | assumption
    | exact fz_lst_ints _
    | exact fz_tup_ints _
    | exact fz_rowT _
    | exact fz_rowsT _
    | exact fz_pa _ _
    | exact fz_li _
    | exact fz_lst_true _
    | (simp only [fz, fzs, Bool.and_true, fz_lst_ints, fz_tup_ints]; done))
local macro_rules
  | `(tactic| and_intros) => `(tactic| repeat' first
    | (show As _ _ _ _ _; with_reducible assumption)
    | exact as_i
    | exact as_s
    | exact as_n
    | exact as_b
    | exact as_v rfl (by infer_instance)
    | exact as_ff rfl (by infer_instance)
    | exact as_fr rfl (frz_li _)
    | exact as_fr rfl (frz_sgD _ _)
    | exact as_fr rfl (frz_pa _ _ _)
    | exact as_fr rfl (lstR_frz _)
    | exact as_fr rfl (by assumption)
    | exact as_leno rfl
    | exact as_sumo rfl
    | exact as_sortedo rfl
    | exact as_tupleo rfl (by infer_instance)
    | exact as_listo rfl (by infer_instance)
    | exact asr_0
    | exact asv_0
    | apply as_ntF
    | apply as_ntT
    | apply as_orF
    | apply as_andT
    | apply as_bop1
    | apply as_eqSx
    | apply as_eqT'
    | apply as_eqF'
    | apply as_nePSx
    | apply as_neSx
    | apply as_nePx
    | apply as_neT'
    | apply as_neF'
    | apply as_ltT'
    | apply as_ltF'
    | apply as_leT'
    | apply as_leF'
    | apply as_gtT'
    | apply as_gtF'
    | apply as_geT'
    | apply as_geF'
    | apply as_isT
    | apply as_isF
    | apply as_isnF
    | apply as_isnT
    | apply as_addLl
    | apply as_add
    | apply as_sub
    | apply as_modL
    | apply as_fdivL
    | apply as_mulX
    | apply as_neg
    | apply as_int1
    | (apply as_idxo; (· rfl))
    | apply as_idx
    | apply as_len
    | apply as_sum
    | apply as_sorted
    | apply as_list
    | apply as_tuple
    | apply as_tup
    | apply as_lst
    | (apply as_isioB; (· rfl); (· first | rfl | exact fz_lst_true _))
    | apply as_isiB
    | apply asv_c
    | (apply asr_o; (· rfl); (· first | rfl | exact fz_lst_true _))
    | apply asr_c
    | apply as_iscT
    | apply as_fld
    | apply as_meth
    | apply as_call
    | apply as_cm
    | apply as_new
    | (apply as_newv; (· rfl))
    | (show Ret _ _ _ _; with_reducible assumption)
    | (show Gb.fns _ _ = _; rfl)
    | (show Gb.cmt _ _ _ = _; rfl)
    | (show Gb.mth _ _ _ = _; rfl)
    | (show itms _ = some _; first | rfl | assumption)
    | (show Option.join _ = some _; rfl)
    | (show takeA _ _ = _; rfl)
    | (show putA _ _ _ = _; rfl)
    | (show PyData.strOk _ = true; decide +kernel)
    | (show isiT _ = true; rfl)
    | (show Gb.fok _ _ _ = true; exact fok_of (by decide))
    | (show Gb.isc _ _ = true; exact isc_of (by decide))
    | (show List.contains _ _ = false; decide)
    | (show List.lookup _ _ = some _; rfl)
    | (show List.any _ _ = _; rfl)
    | (show atI _ _ = _; with_reducible assumption)
    | (show (0 : Int) < _; omega)
    | (show isNon _ = false; rfl)
    | (show fz _ = true; infer_instance)
    | (show fz _ = false; infer_instance)
    | (show fzs _ = true; infer_instance))

theorem nth_in {G : Gb} {F : FSp} {P' : Pt} {n P pl : Nat} {A2 A3 : Option D} (j1 : G.fns "_row_counts" = some F) (w_rc : SpRC F) (hn : n ≤ 200) (hP : P ≤ 1000) (hpl : pl < cnt P false n) {ss : Ss} (h : ∀ y5 y6 y7 y8 y9 y10, runs G ss [some (.int (n : Int)), some (.int (P : Int)), A2, A3, some (.lst true ((rI (rowAt P n false pl)).map .int)), y5, y6, y7, y8, y9, y10] P') : runs G (.cons (.forr [6] (.rng (.cons (.var 0) .nil)) nthB) ss) [some (.int (n : Int)), some (.int (P : Int)), A2, A3, some (.lst true []), some (.int (pl : Int)), none, none, none, none, none] P' := by
  refine r_for (ass_rg1 (n := n) (by omega) (as_v rfl rfl)) ?_
  refine fr_rg (fun s en => s ≤ n ∧ ∃ (r : List Nat) (left : Nat) (y6 y7 y8 y9 y10 : Option D), r.length = s ∧ left < cnt P (decide (0 ∈ r)) (n - s) ∧ r ++ rowAt P (n - s) (decide (0 ∈ r)) left = rowAt P n false pl ∧ en = [some (.int (n : Int)), some (.int (P : Int)), A2, A3, some (.lst true ((rI r).map .int)), some (.int (left : Int)), y6, y7, y8, y9, y10]) ?_ ?_ ⟨Nat.zero_le _, [], pl, _, _, _, _, _, rfl, hpl, rfl, rfl⟩
  · rintro s en K hs ⟨_, r, left, y6, y7, y8, y9, y10, hr, hl, he, rfl⟩ hK
    try dsimp only [putA, List.set_cons_succ, List.set_cons_zero]
    refine nth_step j1 w_rc hn hP hs hr hl fun y7 y8 y9 y10 => hK _ ⟨hs, _, _, _, _, _, _, _, ?_, ?_, ?_, rfl⟩
    · rw [List.length_append, hr]; rfl
    · rw [dec_app]
      have := (dig_lt (l := n - s - 1) (left := left) (z := decide (0 ∈ r)) (by rw [show n - s - 1 + 1 = n - s by omega]; exact hl)).2
      rw [show n - (s + 1) = n - s - 1 by omega]
      exact this
    · rw [← he, dec_app, List.append_assoc]
      rw [show n - s = n - (s + 1) + 1 by omega, rowAt]
      rw [show n - (s + 1) + 1 - 1 = n - (s + 1) by omega]
      rfl
  · rintro en ⟨_, r, left, y6, y7, y8, y9, y10, hr, hl, he, rfl⟩
    rw [Nat.sub_self] at he
    rw [rowAt, List.append_nil] at he
    subst he
    exact h _ _ _ _ _ _
theorem L_nth {G : Gb} {F1 F2 F3 F4 Fk : FSp} (LG : LibG G) (j0 : G.fns "check_whole" = some F1) (w_check : SpCheck F1) (j1 : G.fns "_row_counts" = some F2) (w_rc : SpRC F2) (j2 : G.fns "how_many" = some F3) (w_many : SpMany F3) (j3 : G.fns "pattern_by" = some F4) (w_pb : SpPb F4 Fk) : SpNth (semF G 11 3 [0, 1, 2] m_nth) where
  ok := fun {n P pl hs} hn hn2 hP hpl wh q x h => by
    have eb : m_nth = .cons (nthS 0 m_nth) (.cons (nthS 1 m_nth) (.cons (nthS 2 m_nth) (.cons (nthS 3 m_nth) (.cons (nthS 4 m_nth) (.cons (.forr [6] (.rng (.cons (.var 0) .nil)) nthB) (dropS 6 m_nth)))))) := rfl
    have h1 := w_many.ok (P := P) hn (by omega) (by omega)
    have h2 := w_check.low (pl : Int) 0 (Str.ofString "place") (by omega)
    have h3 := w_pb.ok (N0 := .lst true ((rI (rowAt P n false pl)).map .int)) wh (by rw [rowAt_len]; omega) (frz_li _) (rI_row _)
    refine ⟨rfl, ?_⟩
    rw [eb]
    unfold m_nth
    simp only [nthS, dropS]
    simp only [List.map_cons, List.map_nil, List.cons_append, List.nil_append, Nat.reduceSub, List.replicate]
    refine r_asg (as_call j2 (asr_c (as_v rfl rfl) (asr_c (as_v rfl rfl) asr_0)) rfl h1 rfl) ?_
    try dsimp only [putA, List.set_cons_succ, List.set_cons_zero]
    refine r_exp (as_call j0 (asr_c (as_v rfl rfl) (asr_c as_s (asr_c as_i asr_0))) rfl h2 rfl) ?_
    try dsimp only [putA, List.set_cons_succ, List.set_cons_zero]
    apply r_ifF
    · and_intros
      exact Int.ofNat_lt.mpr hpl
    refine r_asg (as_lst asv_0) ?_
    refine r_asg (as_v rfl rfl) ?_
    try dsimp only [putA, List.set_cons_succ, List.set_cons_zero]
    refine nth_in j1 w_rc hn2 hP hpl fun y5 y6 y7 y8 y9 y10 => ?_
    refine r_ret rfl (as_call j3 (asr_c (as_v rfl rfl) (asr_o rfl (by simp) asr_0)) rfl h3 rfl) ?_
    exact h
  size := fun {s p l} hs hp hl hb q x h => by
    refine ⟨rfl, ?_⟩
    unfold m_nth
    simp only [List.map_cons, List.map_nil, List.cons_append, List.nil_append, Nat.reduceSub, List.replicate]
    exact r_asgX j2 (asr_c (as_v rfl hs) (asr_c (as_v rfl hp) asr_0)) rfl (w_many.size hs hp hb) rfl h
  props := fun {n p l} hn hp hl hb q x h => by
    refine ⟨rfl, ?_⟩
    unfold m_nth
    simp only [List.map_cons, List.map_nil, List.cons_append, List.nil_append, Nat.reduceSub, List.replicate]
    exact r_asgX j2 (asr_c (as_v rfl rfl) (asr_c (as_v rfl hp) asr_0)) rfl (w_many.props hn hp hb) rfl h
  place := fun {n P l} hn hn2 hP hl hb q x h => by
    have h1 := w_many.ok (P := P) hn (by omega) (by omega)
    refine ⟨rfl, ?_⟩
    unfold m_nth
    simp only [List.map_cons, List.map_nil, List.cons_append, List.nil_append, Nat.reduceSub, List.replicate]
    refine r_asg (as_call j2 (asr_c (as_v rfl rfl) (asr_c (as_v rfl rfl) asr_0)) rfl h1 rfl) ?_
    try dsimp only [putA, List.set_cons_succ, List.set_cons_zero]
    by_cases hb2 : (isiT l = true ∧ whole l = false) ∨ ∃ z : Int, l = .int z ∧ z < 0
    · exact r_expX j0 (asr_c (as_v rfl hl) (asr_c as_s (asr_c as_i asr_0))) rfl (chk_bad w_check hl hb2) rfl h
    · have : ∃ z : Int, l = .int z ∧ 0 ≤ z ∧ (cnt P false n : Nat) ≤ z := by
        rcases hb with hb | ⟨z, rfl, hz⟩
        · exact absurd (.inl hb) hb2
        · by_cases h0 : z < 0
          · exact absurd (.inr ⟨z, rfl, h0⟩) hb2
          · exact ⟨z, rfl, by omega, hz.resolve_left h0⟩
      obtain ⟨z, rfl, h0, hz⟩ := this
      have h2 := w_check.low z 0 (Str.ofString "place") h0
      refine r_exp (as_call j0 (asr_c (as_v rfl rfl) (asr_c as_s (asr_c as_i asr_0))) rfl h2 rfl) ?_
      try dsimp only [putA, List.set_cons_succ, List.set_cons_zero]
      apply r_ifT
      · and_intros
        exact hz
      exact r_rais (asv_c as_s asv_0) LG.num rfl h
open Classical in
/-- the heights of a row -/
noncomputable def hsOf (P : Nat) (a : List Nat) : List Nat := if h : Rw P a then Classical.choose (hh_ex h) else []
theorem hsOf_ok {P : Nat} {a : List Nat} (w : Rw P a) : Hh P a (hsOf P a) := by
  unfold hsOf
  rw [dif_pos w]
  exact Classical.choose_spec (hh_ex w)
theorem Hh.eq {P : Nat} {a hs hs' : List Nat} (w : Hh P a hs) (w' : Hh P a hs') : hs = hs' := by
  refine List.ext_getElem (by rw [w.ln, w'.ln]) fun i h1 h2 => ?_
  have k1 := w.hl i (by rw [← w.ln]; exact h1)
  have k2 := w'.hl i (by rw [← w.ln]; exact h1)
  rw [List.getD_eq_getElem?_getD, List.getElem?_eq_getElem h1, Option.getD_some] at k1
  rw [List.getD_eq_getElem?_getD, List.getElem?_eq_getElem h2, Option.getD_some] at k2
  rcases Nat.lt_trichotomy hs[i] hs'[i] with z | z | z
  · exact absurd k1.1 (k2.2 _ z)
  · exact z
  · exact absurd k2.1 (k1.2 _ z)
/-- all patterns, in order -/
noncomputable def allR (n P : Nat) : List (List Nat) := (List.range' 0 (cnt P false n)).map fun i => hsOf P (rowAt P n false i)
structure SpAllP (F : FSp) : Prop where
  ok : ∀ {n P : Nat}, 1 ≤ n → n ≤ 200 → P ≤ 1000 → cnt P false n ≤ 5000 → Ret F [.int n, .int P] (.lst true ((allR n P).map (sgD false))) [some (.int n), some (.int P)]
  many : ∀ {n P : Nat}, 1 ≤ n → n ≤ 200 → P ≤ 1000 → 5000 < cnt P false n → Exc F [.int n, .int P] "TooMany" [.int 5000] [some (.int n), some (.int P)]
theorem L_allP {G : Gb} {F1 F2 : FSp} (hT : G.excs "TooMany" = some [Str.ofString "limit"]) (j1 : G.fns "how_many" = some F1) (w_many : SpMany F1) (j2 : G.fns "nth" = some F2) (w_nth : SpNth F2) : SpAllP (semF G 4 2 [0, 1] m_all_patterns) where
  ok := fun {n P} hn hn2 hP hc q x h => by
    have h1 := w_many.ok (P := P) hn (by omega) (by omega)
    refine ⟨rfl, ?_⟩
    unfold m_all_patterns
    simp only [List.map_cons, List.map_nil, List.cons_append, List.nil_append, Nat.reduceSub, List.replicate]
    refine r_asg (as_call j1 (asr_c (as_v rfl rfl) (asr_c (as_v rfl rfl) asr_0)) rfl h1 rfl) ?_
    try dsimp only [putA, List.set_cons_succ, List.set_cons_zero]
    apply r_ifF
    · and_intros
      omega
    have e1 : ((allR n P).map (sgD false)) = (List.range' 0 (cnt P false n)).map fun i => sgD false (hsOf P (rowAt P n false i)) := by
      unfold allR
      rw [List.map_map]
      rfl
    rw [e1] at h
    refine r_ret rfl (as_map (xs := List.range' 0 (cnt P false n)) (fun i : Nat => D.int (i : Int)) (fun i => sgD false (hsOf P (rowAt P n false i))) (ass_rg1 (n := cnt P false n) (by omega) (as_v rfl rfl)) (by simp; omega) fun i hi => ?_) h
    have hi' : i < cnt P false n := by have := (List.mem_range'_1.mp hi).2; omega
    have h2 := w_nth.ok hn hn2 hP hi' (hsOf_ok (rowAt_Rw (by omega) hi'))
    exact as_ice (as_call j2 (asr_c (as_v rfl rfl) (asr_c (as_v rfl rfl) (asr_c (as_v rfl rfl) asr_0))) rfl h2 rfl) (frz_pa _ _ _)
  many := fun {n P} hn hn2 hP hc q x h => by
    have h1 := w_many.ok (P := P) hn (by omega) (by omega)
    refine ⟨rfl, ?_⟩
    unfold m_all_patterns
    simp only [List.map_cons, List.map_nil, List.cons_append, List.nil_append, Nat.reduceSub, List.replicate]
    refine r_asg (as_call j1 (asr_c (as_v rfl rfl) (asr_c (as_v rfl rfl) asr_0)) rfl h1 rfl) ?_
    try dsimp only [putA, List.set_cons_succ, List.set_cons_zero]
    apply r_ifT
    · and_intros
      omega
    exact r_rais (asv_c as_i asv_0) hT rfl h
/-! ### the place -/
def SpNoS (F : FSp) : Prop := ∀ {rooms : List Nat} {rows : List (List Nat)} {P0 : D}, frz P0 = paD false rooms rows → (∃ r ∈ rooms, r ≠ 1) → Exc F [P0] "NotSingle" [] [some (paD false rooms rows)]
theorem L_orow_no {G : Gb} {F1 : FSp} (h1 : G.fns "_single_heights" = some F1) (w_hts : SpHts F1) : SpNoS (semF G 8 1 [0] m__overtaking_row) := by
  intro rooms rows P0 hP0 hr q x h
  refine ⟨rfl, ?_⟩
  unfold m__overtaking_row
  simp only [List.map_cons, List.map_nil, List.cons_append, List.nil_append, Nat.reduceSub, List.replicate]
  exact r_asgX h1 (asr_c (as_fr rfl hP0) asr_0) rfl (w_hts.no rooms rows _ (frz_pa _ _ _) hr) rfl h
theorem L_ovs_no {G : Gb} {F1 : FSp} (h1 : G.fns "_overtaking_row" = some F1) (w_no : SpNoS F1) : SpNoS (semF G 1 1 [0] m_overtakings) := by
  intro rooms rows P0 hP0 hr q x h
  refine ⟨rfl, ?_⟩
  unfold m_overtakings
  simp only [List.map_cons, List.map_nil, List.cons_append, List.nil_append, Nat.reduceSub, List.replicate]
  exact r_retBX h1 (asr_c (as_fr rfl hP0) asr_0) rfl (w_no (frz_pa _ _ _) hr) rfl h
structure SpPlace (F : FSp) : Prop where
  ok : ∀ {hs : List Nat} {P0 : D}, SglOk hs → mx hs ≤ 1000 → hs.length ≤ 200 → hs.sum / hs.length ≤ 1000 → (∀ c ∈ ovL hs, c ≤ hs.sum / hs.length) → frz P0 = sgD false hs → Ret F [P0] (.int (rankOf (hs.sum / hs.length) false (ovL hs) : Nat)) [some (sgD false hs)]
  no : SpNoS F
def plB : Ss := .cons (.asgT [5, 6] (.call "_row_counts" (.cons (.fld (.fv 0) "props") (.cons (.bin .Sub (.bin .Sub (.blt .len (.cons (.var 1) .nil)) (.var 4)) (.int 1)) .nil)))) (.cons (.iff (.var 3) (.cons (.aug 2 .Add (.bin .Mult (.idx (.var 1) (.var 4)) (.var 5))) .nil) (.cons (.iff (.cmp .Gt (.idx (.var 1) (.var 4)) (.int 0)) (.cons (.aug 2 .Add (.bin .Add (.var 5) (.bin .Mult (.bin .Sub (.idx (.var 1) (.var 4)) (.int 1)) (.var 6)))) .nil) .nil) .nil)) (.cons (.asg 3 (.bop false (.cons (.var 3) (.cons (.cmp .Eq (.idx (.var 1) (.var 4)) (.int 0)) .nil)))) .nil))
theorem m_pl : m_place_of = .cons (.asg 1 (.call "overtakings" (.cons (.fv 0) .nil))) (.cons (.asg 2 (.int 0)) (.cons (.asg 3 (.bl false)) (.cons (.forr [4] (.rng (.cons (.blt .len (.cons (.var 1) .nil)) .nil)) plB) (.cons (.ret (.var 2)) .nil)))) := rfl
theorem pre_int {P l c : Nat} : ((pre P true l c : Nat) : Int) = (c : Int) * (((P + 1) ^ l : Nat) : Int) := by unfold pre; rw [if_pos rfl]; push_cast; rfl
theorem pl_in {G : Gb} {F : FSp} {P' : Pt} {hs a : List Nat} {P : Nat} (LG : LibG G) (j1 : G.fns "_row_counts" = some F) (w_rc : SpRC F) (hn : a.length ≤ 200) (hP : P ≤ 1000) (hle : ∀ c ∈ a, c ≤ P) (hp : propsN (ones hs.length) (sg hs) = P) (h : ∀ en, P'.rt (.int (rankOf P false a : Nat)) ((some (sgD false hs)) :: en)) : runs G (.cons (.forr [4] (.rng (.cons (.blt .len (.cons (.var 1) .nil)) .nil)) plB) (.cons (.ret (.var 2)) .nil)) [some (sgD false hs), some (rowT a), some (.int 0), some (.bl false), none, none, none] P' := by
  have lI : ((rI a).map D.int).length = a.length := by rw [List.length_map, rI_len]
  apply r_for
  · apply ass_rg1L a.length
    · and_intros
    · rw [lI]
    · omega
  refine fr_rg (fun s en => s ≤ a.length ∧ ∃ (acc : Nat) (y4 y5 y6 : Option D), acc + rankOf P (decide (0 ∈ a.take s)) (a.drop s) = rankOf P false a ∧ en = [some (sgD false hs), some (rowT a), some (.int (acc : Int)), some (.bl (decide (0 ∈ a.take s))), y4, y5, y6]) ?_ ?_ ⟨Nat.zero_le _, 0, none, none, none, by simp, by simp⟩
  · rintro s en K hs' ⟨_, acc, y4, y5, y6, he, rfl⟩ hK
    try dsimp only [putA, List.set_cons_succ, List.set_cons_zero]
    have m1 := w_rc P (a.length - s - 1) (by omega) (by omega)
    have at1 : atI ((rI a).map D.int) (s : Int) = some (.int (a[s] : Int)) := rI_at hs'
    have hca := hle _ (List.getElem_mem hs')
    rw [List.drop_eq_getElem_cons hs', rankOf, List.length_drop] at he
    have et : decide (0 ∈ a.take (s + 1)) = (decide (0 ∈ a.take s) || a[s] == 0) := by rw [take_succ' hs', dec_app]
    have fin : ∀ (acc' : Nat) (y5 y6 : Option D) (P2 : Pt), P2.nx = K → acc' = acc + pre P (decide (0 ∈ a.take s)) (a.length - (s + 1)) a[s] → runs G (.cons (.asg 3 (.bop false (.cons (.var 3) (.cons (.cmp .Eq (.idx (.var 1) (.var 4)) (.int 0)) .nil)))) .nil) [some (sgD false hs), some (rowT a), some (.int (acc' : Int)), some (.bl (decide (0 ∈ a.take s))), some (.int (s : Int)), y5, y6] P2 := by
      intro acc' y5 y6 P2 e2 e3
      refine r_asg (as_castb (as_orV (s := decide (0 ∈ a.take s)) (t := decide ((a[s] : Int) = 0)) (as_v rfl rfl) fun _ => as_bop1 (as_eqI (as_idx (as_v rfl (fz_rowT _)) (as_v rfl rfl) rfl at1) as_i)) (y := decide (0 ∈ a.take (s + 1))) ?_) ?_
      · rw [et]
        congr 1
        rw [Bool.eq_iff_iff, decide_eq_true_eq, beq_iff_eq]
        omega
      rw [runs_0, e2]
      try dsimp only [putA, List.set_cons_succ, List.set_cons_zero]
      refine hK _ ⟨hs', acc', _, _, _, ?_, rfl⟩
      rw [e3, et]
      omega
    unfold plB
    refine r_asgT (as_call j1 (asr_c (as_cast (pa_props LG (as_ff rfl (fz_pa _ _))) (by rw [hp])) (asr_c (as_castL (as_sub (as_sub (as_len (as_v rfl (fz_rowT _)) rfl) (as_v rfl rfl)) as_i) (y := ((a.length - s - 1 : Nat) : Int)) (by rw [lI]; omega)) asr_0)) rfl m1 rfl) rfl ?_
    try dsimp only [putA, List.set_cons_succ, List.set_cons_zero]
    rw [show a.length - s - 1 = a.length - (s + 1) by omega]
    by_cases hz : 0 ∈ a.take s
    · apply r_ifT
      · exact as_castb (as_v rfl rfl) (decide_eq_true hz)
      refine r_augV rfl (as_mulL (x := (a[s] : Int)) (by omega) (as_idx (as_v rfl (fz_rowT _)) (as_v rfl rfl) rfl at1) (as_v rfl rfl)) rfl ?_
      rw [runs_0]
      try dsimp only [putA, List.set_cons_succ, List.set_cons_zero]
      rw [show (acc : Int) + (a[s] : Int) * (((P + 1) ^ (a.length - (s + 1)) : Nat) : Int) = ((acc + pre P (decide (0 ∈ a.take s)) (a.length - (s + 1)) a[s] : Nat) : Int) by rw [decide_eq_true hz, Int.natCast_add, pre_int]]
      exact fin _ _ _ _ rfl rfl
    · apply r_ifE
      · exact as_castb (as_v rfl rfl) (decide_eq_false hz)
      by_cases hc : a[s] = 0
      · apply r_ifF
        · apply as_gtF'
          · exact as_idx (as_v rfl (fz_rowT _)) (as_v rfl rfl) rfl at1
          · exact as_i
          · omega
        rw [runs_0]
        try dsimp only [putA, List.set_cons_succ, List.set_cons_zero]
        refine fin acc _ _ _ rfl ?_
        unfold pre
        rw [decide_eq_false hz, if_neg Bool.false_ne_true, if_pos hc]
        rfl
      · apply r_ifT
        · apply as_gtT'
          · exact as_idx (as_v rfl (fz_rowT _)) (as_v rfl rfl) rfl at1
          · exact as_i
          · omega
        refine r_augV rfl (as_add (as_v rfl rfl) (as_mulL (x := (a[s] : Int) - 1) (by omega) (as_sub (as_idx (as_v rfl (fz_rowT _)) (as_v rfl rfl) rfl at1) as_i) (as_v rfl rfl))) rfl ?_
        rw [runs_0]
        try dsimp only [putA, List.set_cons_succ, List.set_cons_zero]
        rw [runs_0]
        try dsimp only [putA, List.set_cons_succ, List.set_cons_zero]
        rw [show (acc : Int) + ((((P + 1) ^ (a.length - (s + 1)) : Nat) : Int) + ((a[s] : Int) - 1) * ((cnt P false (a.length - (s + 1)) : Nat) : Int)) = ((acc + pre P (decide (0 ∈ a.take s)) (a.length - (s + 1)) a[s] : Nat) : Int) by
          unfold pre
          rw [decide_eq_false hz, if_neg Bool.false_ne_true, if_neg hc, Int.natCast_add, Int.natCast_add, Int.natCast_mul, show ((a[s] - 1 : Nat) : Int) = (a[s] : Int) - 1 by omega]]
        exact fin _ _ _ _ rfl rfl
  · rintro en ⟨_, acc, y4, y5, y6, he, rfl⟩
    rw [List.drop_length, rankOf, Nat.add_zero] at he
    refine r_retf rfl rfl ?_
    rw [he]
    exact h _
theorem L_place {G : Gb} {F1 F2 : FSp} (LG : LibG G) (j1 : G.fns "_row_counts" = some F1) (w_rc : SpRC F1) (j2 : G.fns "overtakings" = some F2) (w_ovs : SpOvs F2) (w_no : SpNoS F2) : SpPlace (semF G 7 1 [0] m_place_of) where
  ok := fun {hs P0} p hm hn hP hle h0 q x h => by
    refine ⟨rfl, ?_⟩
    rw [m_pl]
    simp only [List.map_cons, List.map_nil, List.cons_append, List.nil_append, Nat.reduceSub, List.replicate]
    refine r_asg (as_call j2 (asr_c (as_fr rfl h0) asr_0) rfl (w_ovs hs _ p hm (frz_pa _ _ _)) rfl) ?_
    refine r_asg as_i ?_
    refine r_asg as_b ?_
    try dsimp only [putA, List.set_cons_succ, List.set_cons_zero]
    exact pl_in LG j1 w_rc (by simp [ovL]; exact hn) hP hle (sg_props p) fun en => h
  no := fun {rooms rows P0} h0 hr q x h => by
    refine ⟨rfl, ?_⟩
    rw [m_pl]
    simp only [List.map_cons, List.map_nil, List.cons_append, List.nil_append, Nat.reduceSub, List.replicate]
    exact r_asgX j2 (asr_c (as_fr rfl h0) asr_0) rfl (w_no (frz_pa _ _ _) hr) rfl h
end Pf

/-! More rules. -/
namespace Pf
open PySem PySem.Spec PyProof.Rows L2
theorem rowsT_dat (rows : List (List Nat)) : dat 60 (rowsT rows) = true := by rw [rowsT, dat, dats_rows]
theorem rowsT_deq (rows : List (List Nat)) : deq (rowsT rows) (rowsT rows) = true := by rw [rowsT, deq, deqs_rows, decide_eq_true rfl]
theorem frz_sgD (o : Bool) (hs : List Nat) : frz (sgD o hs) = sgD false hs := frz_pa _ _ _
section
variable {G : Gb} {en en1 en2 : En} {P : Pt} {ss : Ss} {Φ Ψ : D → En → Prop}
theorem as_neSx {a : E} {s : String} (ha : As G a (.str (Str.ofString s)) en en1) (hs : PyData.strOk (Str.ofString s) = true) : As G (.cmp .NotEq a (.str s)) (.bl false) en en1 := as_castb (as_neS hs hs ha as_s) (by simp)
theorem as_eqSx {a : E} {s : String} (ha : As G a (.str (Str.ofString s)) en en1) (hs : PyData.strOk (Str.ofString s) = true) : As G (.cmp .Eq a (.str s)) (.bl true) en en1 := as_castb (as_eqS hs hs ha as_s) (by simp)
theorem asp_call1 {f : String} {F : FSp} {a : E} (hF : G.fns f = some F) (ha : AsP G a Ψ en) (hs : ∀ d e1, Ψ d e1 → ∃ r us, Ret F [d] r us ∧ Φ r e1) : AsP G (.call f (.cons a .nil)) Φ en := .of rfl fun Q X hq => by
  rw [ev_call, evr_c]
  refine ha.r _ _ fun d e1 h1 => ?_
  rw [evr_0]
  obtain ⟨r, us, h2, h3⟩ := hs d e1 h1
  rw [hF, callW_some (ds := [d]) (en2 := e1) rfl]
  refine h2 _ _ ?_
  rw [putA_v, putA]
  · exact hq _ _ h3
  all_goals (intros; simp_all)
theorem r_rev {i : Nat} {xs : List D} (hi : (en[i]?).join = some (.lst true xs)) (hz : fzs xs = true) (k : runs G ss (en.set i (some (.lst true xs.reverse))) P) : runs G (.cons (.expr (.mut .reverse i .nil)) ss) en P := by
  rw [runs_k, run_expr, ev_mut]
  refine ⟨⟨xs, hi⟩, ?_⟩
  rw [evs_0]
  simp only [hi, mutW]
  exact ⟨hz, k⟩
theorem r_popl {i : Nat} {xs : List D} (hi : (en[i]?).join = some (.lst true xs)) (hz : fzs xs = true) (h0 : 0 < xs.length) (k : runs G ss (en.set i (some (.lst true xs.dropLast))) P) : runs G (.cons (.expr (.mut .pop0 i .nil)) ss) en P := by
  rw [runs_k, run_expr, ev_mut]
  refine ⟨⟨xs, hi⟩, ?_⟩
  rw [evs_0]
  simp only [hi, mutW]
  exact ⟨hz, xs[xs.length - 1], List.getElem?_eq_getElem (by omega), k⟩
theorem r_augL {i : Nat} {e : E} {o : Bool} {xs ys ws : List D} (hw : (en[i]?).join = some (.lst true ws)) (he : As G e (.lst o ys) en en1) (h1 : (en1[i]?).join = some (.lst true xs)) (hc : fzs xs = true ∧ fzs ys = true ∧ xs.length + ys.length ≤ 16777216) (k : runs G ss (en1.set i (some (.lst true (xs ++ ys)))) P) : runs G (.cons (.augL i e) ss) en P := by
  rw [runs_k, run]
  refine ⟨⟨ws, hw⟩, he.e _ _ ?_⟩
  simp only [h1]
  exact ⟨hc, k⟩
theorem ev_chn {o1 o2 : CmpOp} {a b c : E} {Q : D → En → Prop} {X : Xp} : ev G (.chn o1 o2 a b c) en Q X = ev G a en (fun x e1 => ev G b e1 (fun y e2 => ∃ i j, x = .int i ∧ y = .int j ∧ cmpW o1 x y fun d => ∃ t, d = .bl t ∧ if t = true then ev G c e2 (fun z e3 => ∃ l, z = .int l ∧ cmpW o2 y z fun d => Q d e3) X else Q (.bl false) e2) X) X := by rw [ev]
/-- a o1 b o2 c, all asked -/
theorem as_chnT {o1 o2 : CmpOp} {a b c : E} {x y z : Int} {t : Bool} {en3 : En} (ha : As G a (.int x) en en1) (hb : As G b (.int y) en1 en2) (hc : As G c (.int z) en2 en3) (h1 : ∀ k : D → Prop, k (.bl true) → cmpW o1 (.int x) (.int y) k) (h2 : ∀ k : D → Prop, k (.bl t) → cmpW o2 (.int y) (.int z) k) : As G (.chn o1 o2 a b c) (.bl t) en en3 := .of rfl fun Q X hq => by
  rw [ev_chn]
  refine ha.e _ _ (hb.e _ _ ⟨x, y, rfl, rfl, h1 _ ⟨true, rfl, ?_⟩⟩)
  rw [if_pos rfl]
  exact hc.e _ _ ⟨z, rfl, h2 _ hq⟩
theorem as_chnF {o1 o2 : CmpOp} {a b c : E} {x y : Int} (ha : As G a (.int x) en en1) (hb : As G b (.int y) en1 en2) (h1 : ∀ k : D → Prop, k (.bl false) → cmpW o1 (.int x) (.int y) k) : As G (.chn o1 o2 a b c) (.bl false) en en2 := .of rfl fun Q X hq => by
  rw [ev_chn]
  refine ha.e _ _ (hb.e _ _ ⟨x, y, rfl, rfl, h1 _ ⟨false, rfl, ?_⟩⟩)
  rw [if_neg Bool.false_ne_true]
  exact hq
end
theorem fzs_sg (L : List (List Nat)) : fzs (L.map (sgD false)) = true := by
  induction L with
  | nil => rfl
  | cons a L ih => rw [List.map_cons, fzs, ih, show fz (sgD false a) = true from fz_pa _ _]; rfl
theorem allR_len (n P : Nat) : (allR n P).length = cnt P false n := by simp [allR]
theorem allR_at {n P i : Nat} (h : i < cnt P false n) : (allR n P)[i]? = some (hsOf P (rowAt P n false i)) := by
  unfold allR
  rw [List.getElem?_map, List.getElem?_range' h]
  simp
theorem props_le {hs : List Nat} {P : Nat} (w : hs.sum = hs.length * P) (hn : 0 < hs.length) : hs.sum / hs.length = P := by rw [w, Nat.mul_div_cancel_left _ hn]
end Pf

namespace Pf
open PySem PySem.Spec PyProof.Rows L2
abbrev top (i : Nat) : Stmt := PySem.Challenge.pw_landings_k32_kth_pattern.main.body.getD i (.Pass ⟨0, 0, 0, 0⟩)
def inCls (i j : Nat) : Stmt := match top i with
  | .ClassDef _ _ _ b _ _ _ _ _ _ _ => b.getD j (.Pass ⟨0, 0, 0, 0⟩)
  | s => s
def exL : List (String × List Str) := [("LandingsError", []), ("BadNumber", [Str.ofString "name"]), ("BadLine", [Str.ofString "place"]), ("BadThrows", [Str.ofString "spot"]), ("NotPattern", [Str.ofString "spot"]), ("NotSingle", []), ("OtherLine", []), ("BadRow", [Str.ofString "place"]), ("Stuck", []), ("TooMany", [Str.ofString "limit"])]
def emL : List ((String × String) × Bool) := [(("LandingsError", "BadNumber"), false), (("LandingsError", "NotSingle"), false), (("LandingsError", "TooMany"), false), (("BadNumber", "BadNumber"), true), (("BadNumber", "NotSingle"), false), (("BadNumber", "TooMany"), false), (("BadLine", "BadNumber"), false), (("BadLine", "NotSingle"), false), (("BadLine", "TooMany"), false), (("BadThrows", "BadNumber"), false), (("BadThrows", "NotSingle"), false), (("BadThrows", "TooMany"), false), (("NotPattern", "BadNumber"), false), (("NotPattern", "NotSingle"), false), (("NotPattern", "TooMany"), false), (("NotSingle", "BadNumber"), false), (("NotSingle", "NotSingle"), true), (("NotSingle", "TooMany"), false), (("OtherLine", "BadNumber"), false), (("OtherLine", "NotSingle"), false), (("OtherLine", "TooMany"), false), (("BadRow", "BadNumber"), false), (("BadRow", "NotSingle"), false), (("BadRow", "TooMany"), false), (("Stuck", "BadNumber"), false), (("Stuck", "NotSingle"), false), (("Stuck", "TooMany"), false), (("TooMany", "BadNumber"), false), (("TooMany", "NotSingle"), false), (("TooMany", "TooMany"), true)]
def ciL : List (String × Int) := []
def elL : List (String × Nat) := [("LandingsError", 0), ("BadNumber", 1), ("BadLine", 1), ("BadThrows", 1), ("NotPattern", 1), ("NotSingle", 0), ("OtherLine", 0), ("BadRow", 1), ("Stuck", 0), ("TooMany", 1)]
def fkL : List (String × String) := [("Line", "rooms"), ("Line", "size"), ("Pattern", "line"), ("Pattern", "props"), ("Pattern", "rows"), ("Pattern", "size"), ("Pattern", "top")]
def icL : List String := ["Pattern"]
def csL : List (String × String) := [("Line", "single"), ("Pattern", "single")]
/-- _came_counts -/
def n__came_counts : List Str := [Str.ofString "size", Str.ofString "full", Str.ofString "landed", Str.ofString "spot", Str.ofString "height", Str.ofString "place"]
/-- _wrong_residue -/
def n__wrong_residue : List Str := [Str.ofString "line", Str.ofString "full", Str.ofString "counts", Str.ofString "place"]
/-- is_whole -/
def n_is_whole : List Str := [Str.ofString "value"]
/-- is_row -/
def n_is_row : List Str := [Str.ofString "value"]
/-- check_whole -/
def n_check_whole : List Str := [Str.ofString "value", Str.ofString "name", Str.ofString "low"]
/-- spot_row -/
def n_spot_row : List Str := [Str.ofString "line", Str.ofString "spot", Str.ofString "heights", Str.ofString "place", Str.ofString "height"]
/-- full_rows -/
def n_full_rows : List Str := [Str.ofString "line", Str.ofString "rows", Str.ofString "spot"]
/-- Pattern.__init__ -/
def n_Pattern_init : List Str := [Str.ofString "self", Str.ofString "line", Str.ofString "rows", Str.ofString "full", Str.ofString "wrong", Str.ofString "every", Str.ofString "heights", Str.ofString "height"]
/-- Line.__init__ -/
def n_Line_init : List Str := [Str.ofString "self", Str.ofString "rooms", Str.ofString "place"]
/-- Line.single -/
def n_Line_single : List Str := [Str.ofString "cls", Str.ofString "size"]
/-- Pattern.single -/
def n_Pattern_single : List Str := [Str.ofString "cls", Str.ofString "heights", Str.ofString "height"]
/-- _height_from -/
def n__height_from : List Str := [Str.ofString "props", Str.ofString "numbers", Str.ofString "spot", Str.ofString "behind", Str.ofString "height", Str.ofString "number"]
/-- _check_overtakings -/
def n__check_overtakings : List Str := [Str.ofString "props", Str.ofString "numbers", Str.ofString "place"]
/-- pattern_by -/
def n_pattern_by : List Str := [Str.ofString "props", Str.ofString "numbers", Str.ofString "row", Str.ofString "spot"]
/-- _all_times -/
def n__all_times : List Str := [Str.ofString "numbers", Str.ofString "product", Str.ofString "one"]
/-- _power_of -/
def n__power_of : List Str := [Str.ofString "base", Str.ofString "times"]
/-- _row_counts -/
def n__row_counts : List Str := [Str.ofString "props", Str.ofString "left", Str.ofString "every"]
/-- how_many -/
def n_how_many : List Str := [Str.ofString "size", Str.ofString "props"]
/-- nth -/
def n_nth : List Str := [Str.ofString "size", Str.ofString "props", Str.ofString "place", Str.ofString "many", Str.ofString "row", Str.ofString "left", Str.ofString "spot", Str.ofString "every", Str.ofString "some", Str.ofString "number", Str.ofString "steps"]
/-- _law_no_nth -/
def m__law_no_nth : Ss := (.cons (.asg 3 .non) (.cons (.tri (.cons (.expr (.call "nth" (.cons (.var 0) (.cons (.var 1) (.cons (.var 2) .nil))))) .nil) (.cons "BadNumber" (some 4) (.asg 3 (.fld "name")) .nil)) (.cons (.ret (.var 3)) .nil)))
def n__law_no_nth : List Str := [Str.ofString "size", Str.ofString "props", Str.ofString "wanted", Str.ofString "told", Str.ofString "problem"]
/-- _single_heights -/
def n__single_heights : List Str := [Str.ofString "pattern", Str.ofString "one", Str.ofString "heights"]
/-- _overtaking_row -/
def n__overtaking_row : List Str := [Str.ofString "pattern", Str.ofString "heights", Str.ofString "size", Str.ofString "found", Str.ofString "spot", Str.ofString "goal", Str.ofString "later", Str.ofString "start"]
/-- overtakings -/
def n_overtakings : List Str := [Str.ofString "pattern"]
/-- place_of -/
def n_place_of : List Str := [Str.ofString "pattern", Str.ofString "row", Str.ofString "place", Str.ofString "zero", Str.ofString "spot", Str.ofString "every", Str.ofString "some"]
/-- _law_overtakings -/
def n__law_overtakings : List Str := [Str.ofString "heights", Str.ofString "size", Str.ofString "top", Str.ofString "found", Str.ofString "spot", Str.ofString "behind", Str.ofString "back", Str.ofString "start"]
/-- _law_whole -/
def n__law_whole : List Str := [Str.ofString "value"]
/-- _law_has_row -/
def m__law_has_row : Ss := (.cons (.iff (.bop false (.cons (.nt (.isc (.fv 0) "Pattern")) (.cons (.nt (.isi (.fld (.fv 0) "rows") ["tuple"])) (.cons (.cmp .NotEq (.blt .len (.cons (.fld (.fv 0) "rows") .nil)) (.var 1)) .nil)))) (.cons (.ret (.bl false)) .nil) .nil) (.cons (.iff (.cmp .NotEq (.fld (.fld (.fv 0) "line") "rooms") (.blt .tuple1 (.cons (.lc [4] (.rng (.cons (.var 1) .nil)) .nil (.int 1)) .nil))) (.cons (.ret (.bl false)) .nil) .nil) (.cons (.asg 5 (.lst .nil)) (.cons (.forr [6] (.it (.fld (.fv 0) "rows")) (.cons (.iff (.bop false (.cons (.nt (.isi (.var 6) ["tuple"])) (.cons (.cmp .NotEq (.blt .len (.cons (.var 6) .nil)) (.int 1)) (.cons (.nt (.call "_law_whole" (.cons (.idx (.var 6) (.int 0)) .nil))) (.cons (.cmp .Lt (.idx (.var 6) (.int 0)) (.int 0)) .nil))))) (.cons (.ret (.bl false)) .nil) .nil) (.cons (.expr (.mut .append 5 (.cons (.idx (.var 6) (.int 0)) .nil))) .nil))) (.cons (.asg 7 (.blt .sorted (.cons (.lc [8] (.rng (.cons (.var 1) .nil)) .nil (.bin .Mod (.blt .int1 (.cons (.bin .Add (.var 8) (.idx (.var 5) (.var 8))) .nil)) (.var 1))) .nil))) (.cons (.iff (.bop false (.cons (.cmp .NotEq (.blt .sum (.cons (.var 5) .nil)) (.bin .Mult (.var 1) (.var 2))) (.cons (.cmp .NotEq (.var 7) (.lrg (.cons (.var 1) .nil))) .nil))) (.cons (.ret (.bl false)) .nil) .nil) (.cons (.ret (.cmp .Eq (.call "_law_overtakings" (.cons (.var 5) .nil)) (.fv 3))) .nil)))))))
def n__law_has_row : List Str := [Str.ofString "told", Str.ofString "size", Str.ofString "props", Str.ofString "row", Str.ofString "spot", Str.ofString "heights", Str.ofString "one", Str.ofString "came", Str.ofString "at"]
/-- _law_power -/
def n__law_power : List Str := [Str.ofString "base", Str.ofString "times", Str.ofString "product", Str.ofString "turn"]
/-- _law_rows_left -/
def m__law_rows_left : Ss := (.cons (.asg 3 (.call "_law_power" (.cons (.bin .Add (.var 0) (.int 1)) (.cons (.var 1) .nil)))) (.cons (.iff (.var 2) (.cons (.ret (.var 3)) .nil) .nil) (.cons (.ret (.bin .Sub (.var 3) (.call "_law_power" (.cons (.var 0) (.cons (.var 1) .nil))))) .nil)))
def n__law_rows_left : List Str := [Str.ofString "props", Str.ofString "left", Str.ofString "zero", Str.ofString "every"]
/-- _law_row_at -/
def m__law_row_at : Ss := (.cons (.asg 3 (.lst .nil)) (.cons (.asg 4 (.bl false)) (.cons (.asg 5 (.var 2)) (.cons (.forr [6] (.rng (.cons (.var 0) .nil)) (.cons (.asg 7 (.var 1)) (.cons (.asg 8 (.bl false)) (.cons (.forr [9] (.rng (.cons (.bin .Add (.var 1) (.int 1)) .nil)) (.cons (.asg 10 (.call "_law_rows_left" (.cons (.var 1) (.cons (.bin .Sub (.bin .Sub (.var 0) (.var 6)) (.int 1)) (.cons (.bop false (.cons (.var 4) (.cons (.cmp .Eq (.var 9) (.int 0)) .nil))) .nil))))) (.cons (.iff (.bop true (.cons (.nt (.var 8)) (.cons (.cmp .Lt (.var 5) (.var 10)) .nil))) (.cons (.asg 7 (.var 9)) (.cons (.asg 8 (.bl true)) .nil)) (.cons (.iff (.nt (.var 8)) (.cons (.aug 5 .Sub (.var 10)) .nil) .nil) .nil)) .nil))) (.cons (.expr (.mut .append 3 (.cons (.var 7) .nil))) (.cons (.iff (.cmp .Eq (.var 7) (.int 0)) (.cons (.asg 4 (.bl true)) .nil) .nil) .nil)))))) (.cons (.ret (.var 3)) .nil)))))
def n__law_row_at : List Str := [Str.ofString "size", Str.ofString "props", Str.ofString "wanted", Str.ofString "row", Str.ofString "zero", Str.ofString "ahead", Str.ofString "at", Str.ofString "chosen", Str.ofString "found", Str.ofString "number", Str.ofString "many"]
/-- _law_take -/
def n__law_take : List Str := [Str.ofString "draws", Str.ofString "many"]
/-- _law_great_places -/
def m__law_great_places : Ss := (.cons (.asg 1 (.bin .Add (.int 20) (.call "_law_take" (.cons (.var 0) (.cons (.int 5) .nil))))) (.cons (.asg 2 (.bin .Add (.int 1) (.call "_law_take" (.cons (.var 0) (.cons (.int 8) .nil))))) (.cons (.asg 3 (.call "_law_rows_left" (.cons (.var 2) (.cons (.var 1) (.cons (.bl false) .nil))))) (.cons (.asg 4 (.int 0)) (.cons (.forr [5] (.rng (.cons (.int 6) .nil)) (.cons (.asg 4 (.bin .Mod (.blt .int1 (.cons (.bin .Add (.bin .Mult (.var 4) (.int 1000003)) (.call "_law_take" (.cons (.var 0) (.cons (.int 1000003) .nil)))) .nil)) (.var 3))) .nil)) (.cons (.forr [6] (.it (.lst (.cons (.var 4) (.cons (.bin .Sub (.var 3) (.int 1)) .nil)))) (.cons (.asg 7 (.call "nth" (.cons (.var 1) (.cons (.var 2) (.cons (.var 6) .nil))))) (.cons (.iff (.bop false (.cons (.nt (.call "_law_has_row" (.cons (.fv 7) (.cons (.var 1) (.cons (.var 2) (.cons (.call "_law_row_at" (.cons (.var 1) (.cons (.var 2) (.cons (.var 6) .nil)))) .nil)))))) (.cons (.cmp .NotEq (.call "place_of" (.cons (.fv 7) .nil)) (.var 6)) .nil))) (.cons (.ret (.bl false)) .nil) .nil) .nil))) (.cons (.ret (.cmp .Eq (.call "_law_no_nth" (.cons (.var 1) (.cons (.var 2) (.cons (.var 3) .nil)))) (.str "place"))) .nil)))))))
def n__law_great_places : List Str := [Str.ofString "draws", Str.ofString "size", Str.ofString "props", Str.ofString "many", Str.ofString "wanted", Str.ofString "turn", Str.ofString "at", Str.ofString "other"]
/-- all_patterns -/
def n_all_patterns : List Str := [Str.ofString "size", Str.ofString "props", Str.ofString "many", Str.ofString "place"]
/-- _law_long_list -/
def m__law_long_list : Ss := (.cons (.asg 1 (.idx (.lst (.cons (.tup (.cons (.int 11) (.cons (.int 1) .nil))) (.cons (.tup (.cons (.int 4) (.cons (.int 10) .nil))) (.cons (.tup (.cons (.int 6) (.cons (.int 3) .nil))) .nil)))) (.call "_law_take" (.cons (.var 0) (.cons (.int 3) .nil))))) (.cons (.asg 2 (.call "_law_rows_left" (.cons (.idx (.var 1) (.int 1)) (.cons (.idx (.var 1) (.int 0)) (.cons (.bl false) .nil))))) (.cons (.asg 3 (.call "all_patterns" (.cons (.idx (.var 1) (.int 0)) (.cons (.idx (.var 1) (.int 1)) .nil)))) (.cons (.iff (.bop false (.cons (.nt (.isi (.var 3) ["list"])) (.cons (.cmp .NotEq (.blt .len (.cons (.var 3) .nil)) (.var 2)) .nil))) (.cons (.ret (.bl false)) .nil) .nil) (.cons (.forr [4] (.rng (.cons (.int 6) .nil)) (.cons (.asg 5 (.call "_law_take" (.cons (.var 0) (.cons (.var 2) .nil)))) (.cons (.iff (.cmp .Eq (.var 4) (.int 5)) (.cons (.asg 5 (.bin .Sub (.var 2) (.int 1))) .nil) .nil) (.cons (.iff (.nt (.call "_law_has_row" (.cons (.idx (.var 3) (.var 5)) (.cons (.idx (.var 1) (.int 0)) (.cons (.idx (.var 1) (.int 1)) (.cons (.call "_law_row_at" (.cons (.idx (.var 1) (.int 0)) (.cons (.idx (.var 1) (.int 1)) (.cons (.var 5) .nil)))) .nil)))))) (.cons (.ret (.bl false)) .nil) .nil) .nil)))) (.cons (.ret (.bl true)) .nil))))))
def n__law_long_list : List Str := [Str.ofString "draws", Str.ofString "pair", Str.ofString "due", Str.ofString "told", Str.ofString "turn", Str.ofString "at"]
/-- _law_list_refused -/
def m__law_list_refused : Ss := (.cons (.asg 2 .non) (.cons (.tri (.cons (.expr (.call "all_patterns" (.cons (.var 0) (.cons (.var 1) .nil)))) .nil) (.cons "TooMany" (some 3) (.asg 2 (.fld "limit")) .nil)) (.cons (.ret (.var 2)) .nil)))
def n__law_list_refused : List Str := [Str.ofString "size", Str.ofString "props", Str.ofString "told", Str.ofString "problem"]
/-- _law_refusals -/
def m__law_refusals : Ss := (.cons (.iff (.bop false (.cons (.cmp .NotEq (.call "_law_no_nth" (.cons (.var 0) (.cons (.var 1) (.cons (.var 2) .nil)))) (.str "place")) (.cons (.cmp .NotEq (.call "_law_no_nth" (.cons (.var 0) (.cons (.var 1) (.cons (.bin .Sub (.bin .Sub (.int 0) (.int 1)) (.var 3)) .nil)))) (.str "place")) .nil))) (.cons (.ret (.bl false)) .nil) .nil) (.cons (.iff (.bop false (.cons (.cmp .NotEq (.call "_law_no_nth" (.cons (.var 0) (.cons (.var 1) (.cons (.bl true) .nil)))) (.str "place")) (.cons (.cmp .NotEq (.call "_law_no_nth" (.cons (.bin .Sub (.int 0) (.var 3)) (.cons (.bin .Sub (.int 0) (.int 1)) (.cons (.var 2) .nil)))) (.str "size")) .nil))) (.cons (.ret (.bl false)) .nil) .nil) (.cons (.iff (.bop false (.cons (.cmp .NotEq (.call "_law_no_nth" (.cons (.var 0) (.cons (.bin .Sub (.bin .Sub (.int 0) (.int 1)) (.var 3)) (.cons .non .nil)))) (.str "props")) (.cons (.cmp .NotEq (.call "_law_no_nth" (.cons (.bl true) (.cons (.bl true) (.cons (.int 0) .nil)))) (.str "size")) .nil))) (.cons (.ret (.bl false)) .nil) .nil) (.cons (.asg 4 (.idx (.lst (.cons (.tup (.cons (.int 13) (.cons (.int 1) .nil))) (.cons (.tup (.cons (.int 4) (.cons (.int 11) .nil))) (.cons (.tup (.cons (.int 3) (.cons (.int 41) .nil))) (.cons (.tup (.cons (.int 24) (.cons (.int 3) .nil))) .nil))))) (.var 3))) (.cons (.ret (.cmp .Eq (.call "_law_list_refused" (.cons (.idx (.var 4) (.int 0)) (.cons (.idx (.var 4) (.int 1)) .nil))) (.int 5000))) .nil)))))
def n__law_refusals : List Str := [Str.ofString "size", Str.ofString "props", Str.ofString "many", Str.ofString "word", Str.ofString "pair"]
/-- _law_not_single -/
def m__law_not_single : Ss := (.cons (.asg 0 (.bl false)) (.cons (.asg 1 (.new "Pattern" (.cons (.new "Line" (.cons (.lst (.cons (.int 2) (.cons (.int 1) .nil))) .nil)) (.cons (.lst (.cons (.lst (.cons (.int 0) (.cons (.int 2) .nil))) (.cons (.lst (.cons (.int 0) .nil)) .nil))) .nil)))) (.cons (.tri (.cons (.expr (.call "place_of" (.cons (.fv 1) .nil))) .nil) (.cons "NotSingle" none (.asg 0 (.bl true)) .nil)) (.cons (.ret (.var 0)) .nil))))
def n__law_not_single : List Str := [Str.ofString "told", Str.ofString "double"]
/-- _law_listed -/
def m__law_listed : Ss := (.cons (.asg 2 (.call "_law_rows_left" (.cons (.var 1) (.cons (.var 0) (.cons (.bl false) .nil))))) (.cons (.forr [3] (.rng (.cons (.int 2) .nil)) (.cons (.asg 4 (.call "all_patterns" (.cons (.var 0) (.cons (.var 1) .nil)))) (.cons (.iff (.bop false (.cons (.nt (.isi (.var 4) ["list"])) (.cons (.cmp .NotEq (.blt .len (.cons (.var 4) .nil)) (.var 2)) .nil))) (.cons (.ret (.bl false)) .nil) .nil) (.cons (.forr [5] (.rng (.cons (.var 2) .nil)) (.cons (.iff (.nt (.call "_law_has_row" (.cons (.idx (.var 4) (.var 5)) (.cons (.var 0) (.cons (.var 1) (.cons (.call "_law_row_at" (.cons (.var 0) (.cons (.var 1) (.cons (.var 5) .nil)))) .nil)))))) (.cons (.ret (.bl false)) .nil) .nil) .nil)) (.cons (.expr (.mut .reverse 4 .nil)) (.cons (.expr (.mut .pop0 4 .nil)) .nil)))))) (.cons (.ret (.bl true)) .nil)))
def n__law_listed : List Str := [Str.ofString "size", Str.ofString "props", Str.ofString "due", Str.ofString "turn", Str.ofString "told", Str.ofString "at"]
/-- _law_place_due -/
def m__law_place_due : Ss := (.cons (.asg 2 (.int 0)) (.cons (.asg 3 (.bl false)) (.cons (.forr [4] (.rng (.cons (.blt .len (.cons (.fv 1) .nil)) .nil)) (.cons (.forr [5] (.rng (.cons (.idx (.fv 1) (.var 4)) .nil)) (.cons (.aug 2 .Add (.call "_law_rows_left" (.cons (.var 0) (.cons (.bin .Sub (.bin .Sub (.blt .len (.cons (.fv 1) .nil)) (.var 4)) (.int 1)) (.cons (.bop false (.cons (.var 3) (.cons (.cmp .Eq (.var 5) (.int 0)) .nil))) .nil))))) .nil)) (.cons (.iff (.cmp .Eq (.idx (.fv 1) (.var 4)) (.int 0)) (.cons (.asg 3 (.bl true)) .nil) .nil) .nil))) (.cons (.ret (.var 2)) .nil))))
def n__law_place_due : List Str := [Str.ofString "props", Str.ofString "row", Str.ofString "found", Str.ofString "zero", Str.ofString "at", Str.ofString "number"]
/-- _law_flat -/
def n__law_flat : List Str := [Str.ofString "rows", Str.ofString "row"]
/-- _law_pattern -/
def n__law_pattern : List Str := [Str.ofString "draws", Str.ofString "rooms", Str.ofString "laps", Str.ofString "size", Str.ofString "left", Str.ofString "spot", Str.ofString "copy", Str.ofString "rows", Str.ofString "row", Str.ofString "goal", Str.ofString "height"]
/-- _law_draws -/
def n__law_draws : List Str := [Str.ofString "script", Str.ofString "draws", Str.ofString "at", Str.ofString "cell", Str.ofString "odd", Str.ofString "turn", Str.ofString "number"]
/-- law -/
def m_law : Ss := (.cons (.asg 1 (.call "_law_draws" (.cons (.var 0) .nil))) (.cons (.asg 2 (.bin .Add (.int 1) (.call "_law_take" (.cons (.var 1) (.cons (.int 5) .nil))))) (.cons (.asg 3 (.call "_law_flat" (.cons (.call "_law_pattern" (.cons (.var 1) (.cons (.lc [4] (.rng (.cons (.var 2) .nil)) .nil (.int 1)) (.cons (.bin .Add (.int 1) (.call "_law_take" (.cons (.var 1) (.cons (.int 3) .nil)))) .nil)))) .nil))) (.cons (.asg 5 (.bin .FloorDiv (.blt .sum (.cons (.fv 3) .nil)) (.var 2))) (.cons (.asg 6 (.call "_law_overtakings" (.cons (.fv 3) .nil))) (.cons (.asg 7 (.call "_law_rows_left" (.cons (.var 5) (.cons (.var 2) (.cons (.bl false) .nil))))) (.cons (.asg 8 (.call "_law_place_due" (.cons (.var 5) (.cons (.fv 6) .nil)))) (.cons (.asg 9 (.call "place_of" (.cons (.cm "Pattern" "single" (.cons (.blt .list1 (.cons (.fv 3) .nil)) .nil)) .nil))) (.cons (.iff (.bop false (.cons (.nt (.call "_law_whole" (.cons (.var 9) .nil))) (.cons (.cmp .NotEq (.var 9) (.var 8)) .nil))) (.cons (.ret (.bl false)) .nil) .nil) (.cons (.asg 10 (.call "nth" (.cons (.var 2) (.cons (.var 5) (.cons (.var 8) .nil))))) (.cons (.iff (.bop false (.cons (.nt (.call "_law_has_row" (.cons (.fv 10) (.cons (.var 2) (.cons (.var 5) (.cons (.fv 6) .nil)))))) (.cons (.cmp .NotEq (.fld (.fv 10) "rows") (.blt .tuple1 (.cons (.lc [11] (.it (.fv 3)) .nil (.tup (.cons (.var 11) .nil))) .nil))) .nil))) (.cons (.ret (.bl false)) .nil) .nil) (.cons (.asg 12 (.int 0)) (.cons (.forr [13] (.rng (.cons (.int 4) .nil)) (.cons (.asg 12 (.bin .Mod (.blt .int1 (.cons (.bin .Add (.bin .Mult (.var 12) (.int 1000003)) (.call "_law_take" (.cons (.var 1) (.cons (.int 1000003) .nil)))) .nil)) (.var 7))) .nil)) (.cons (.forr [14] (.it (.lst (.cons (.var 12) (.cons (.int 0) (.cons (.bin .Sub (.var 7) (.int 1)) .nil))))) (.cons (.asg 15 (.call "nth" (.cons (.var 2) (.cons (.var 5) (.cons (.var 14) .nil))))) (.cons (.iff (.bop false (.cons (.nt (.call "_law_has_row" (.cons (.fv 15) (.cons (.var 2) (.cons (.var 5) (.cons (.call "_law_row_at" (.cons (.var 2) (.cons (.var 5) (.cons (.var 14) .nil)))) .nil)))))) (.cons (.cmp .NotEq (.call "place_of" (.cons (.fv 15) .nil)) (.var 14)) .nil))) (.cons (.ret (.bl false)) .nil) .nil) .nil))) (.cons (.iff (.bop false (.cons (.nt (.call "_law_listed" (.cons (.bin .Add (.int 1) (.call "_law_take" (.cons (.var 1) (.cons (.int 3) .nil)))) (.cons (.call "_law_take" (.cons (.var 1) (.cons (.int 4) .nil))) .nil)))) (.cons (.nt (.call "_law_not_single" .nil)) .nil))) (.cons (.ret (.bl false)) .nil) .nil) (.cons (.iff (.nt (.call "_law_refusals" (.cons (.var 2) (.cons (.var 5) (.cons (.var 7) (.cons (.call "_law_take" (.cons (.var 1) (.cons (.int 4) .nil))) .nil)))))) (.cons (.ret (.bl false)) .nil) .nil) (.cons (.asg 16 (.call "_law_take" (.cons (.var 1) (.cons (.int 60) .nil)))) (.cons (.iff (.cmp .Eq (.var 16) (.int 47)) (.cons (.ret (.call "_law_long_list" (.cons (.var 1) .nil))) .nil) .nil) (.cons (.iff (.cmp .Eq (.bin .Mod (.blt .int1 (.cons (.var 16) .nil)) (.int 4)) (.int 3)) (.cons (.ret (.call "_law_great_places" (.cons (.var 1) .nil))) .nil) .nil) (.cons (.ret (.bl true)) .nil))))))))))))))))))))
def n_law : List Str := [Str.ofString "script", Str.ofString "draws", Str.ofString "size", Str.ofString "heights", Str.ofString "spot", Str.ofString "props", Str.ofString "row", Str.ofString "many", Str.ofString "due", Str.ofString "told", Str.ofString "back", Str.ofString "height", Str.ofString "wanted", Str.ofString "turn", Str.ofString "at", Str.ofString "other", Str.ofString "word"]
def fs0 : List (String × FSp) := []
def ms0 : List ((String × String) × FSp) := []
def cs0 : List ((String × String) × FSp) := []
def s__came_counts : FSp := semF (mkP fs0 ms0 cs0 icL fkL exL emL ciL) 6 2 [0, 1] m__came_counts
def fs1 : List (String × FSp) := ("_came_counts", s__came_counts) :: fs0
def s__wrong_residue : FSp := semF (mkP fs1 ms0 cs0 icL fkL exL emL ciL) 4 2 [0, 1] m__wrong_residue
def fs2 : List (String × FSp) := ("_wrong_residue", s__wrong_residue) :: fs1
def s_is_whole : FSp := semF (mkP fs2 ms0 cs0 icL fkL exL emL ciL) 1 1 [0] m_is_whole
def fs3 : List (String × FSp) := ("is_whole", s_is_whole) :: fs2
def s_is_row : FSp := semF (mkP fs3 ms0 cs0 icL fkL exL emL ciL) 1 1 [0] m_is_row
def fs4 : List (String × FSp) := ("is_row", s_is_row) :: fs3
def s_check_whole : FSp := semF (mkP fs4 ms0 cs0 icL fkL exL emL ciL) 3 3 [0, 1, 2] m_check_whole
def fs5 : List (String × FSp) := ("check_whole", s_check_whole) :: fs4
def s_spot_row : FSp := semF (mkP fs5 ms0 cs0 icL fkL exL emL ciL) 5 3 [0, 1, 2] m_spot_row
def fs6 : List (String × FSp) := ("spot_row", s_spot_row) :: fs5
def s_full_rows : FSp := semF (mkP fs6 ms0 cs0 icL fkL exL emL ciL) 3 2 [0, 1] m_full_rows
def fs7 : List (String × FSp) := ("full_rows", s_full_rows) :: fs6
def s_Pattern_init : FSp := semF (mkP fs7 ms0 cs0 icL fkL exL emL ciL) 8 3 [0, 1, 2] m_Pattern_init
def ms1 : List ((String × String) × FSp) := (("Pattern", "__init__"), s_Pattern_init) :: ms0
def s_Line_init : FSp := semF (mkP fs7 ms1 cs0 icL fkL exL emL ciL) 3 2 [0, 1] m_Line_init
def ms2 : List ((String × String) × FSp) := (("Line", "__init__"), s_Line_init) :: ms1
def s_Line_single : FSp := semF (mkP fs7 ms2 cs0 icL fkL exL emL ciL) 2 2 [0, 1] m_Line_single
def cs1 : List ((String × String) × FSp) := (("Line", "single"), s_Line_single) :: cs0
def s_Pattern_single : FSp := semF (mkP fs7 ms2 cs1 icL fkL exL emL ciL) 3 2 [0, 1] m_Pattern_single
def cs2 : List ((String × String) × FSp) := (("Pattern", "single"), s_Pattern_single) :: cs1
def s__height_from : FSp := semF (mkP fs7 ms2 cs2 icL fkL exL emL ciL) 6 3 [0, 1, 2] m__height_from
def fs8 : List (String × FSp) := ("_height_from", s__height_from) :: fs7
def s__check_overtakings : FSp := semF (mkP fs8 ms2 cs2 icL fkL exL emL ciL) 3 2 [0, 1] m__check_overtakings
def fs9 : List (String × FSp) := ("_check_overtakings", s__check_overtakings) :: fs8
def s_pattern_by : FSp := semF (mkP fs9 ms2 cs2 icL fkL exL emL ciL) 4 2 [0, 1] m_pattern_by
def fs10 : List (String × FSp) := ("pattern_by", s_pattern_by) :: fs9
def s__all_times : FSp := semF (mkP fs10 ms2 cs2 icL fkL exL emL ciL) 3 1 [0] m__all_times
def fs11 : List (String × FSp) := ("_all_times", s__all_times) :: fs10
def s__power_of : FSp := semF (mkP fs11 ms2 cs2 icL fkL exL emL ciL) 2 2 [0, 1] m__power_of
def fs12 : List (String × FSp) := ("_power_of", s__power_of) :: fs11
def s__row_counts : FSp := semF (mkP fs12 ms2 cs2 icL fkL exL emL ciL) 3 2 [0, 1] m__row_counts
def fs13 : List (String × FSp) := ("_row_counts", s__row_counts) :: fs12
def s_how_many : FSp := semF (mkP fs13 ms2 cs2 icL fkL exL emL ciL) 2 2 [0, 1] m_how_many
def fs14 : List (String × FSp) := ("how_many", s_how_many) :: fs13
def s_nth : FSp := semF (mkP fs14 ms2 cs2 icL fkL exL emL ciL) 11 3 [0, 1, 2] m_nth
def fs15 : List (String × FSp) := ("nth", s_nth) :: fs14
def s__law_no_nth : FSp := semF (mkP fs15 ms2 cs2 icL fkL exL emL ciL) 5 3 [0, 1, 2] m__law_no_nth
def fs16 : List (String × FSp) := ("_law_no_nth", s__law_no_nth) :: fs15
def s__single_heights : FSp := semF (mkP fs16 ms2 cs2 icL fkL exL emL ciL) 3 1 [0] m__single_heights
def fs17 : List (String × FSp) := ("_single_heights", s__single_heights) :: fs16
def s__overtaking_row : FSp := semF (mkP fs17 ms2 cs2 icL fkL exL emL ciL) 8 1 [0] m__overtaking_row
def fs18 : List (String × FSp) := ("_overtaking_row", s__overtaking_row) :: fs17
def s_overtakings : FSp := semF (mkP fs18 ms2 cs2 icL fkL exL emL ciL) 1 1 [0] m_overtakings
def fs19 : List (String × FSp) := ("overtakings", s_overtakings) :: fs18
def s_place_of : FSp := semF (mkP fs19 ms2 cs2 icL fkL exL emL ciL) 7 1 [0] m_place_of
def fs20 : List (String × FSp) := ("place_of", s_place_of) :: fs19
def s__law_overtakings : FSp := semF (mkP fs20 ms2 cs2 icL fkL exL emL ciL) 8 1 [0] m__law_overtakings
def fs21 : List (String × FSp) := ("_law_overtakings", s__law_overtakings) :: fs20
def s__law_whole : FSp := semF (mkP fs21 ms2 cs2 icL fkL exL emL ciL) 1 1 [0] m__law_whole
def fs22 : List (String × FSp) := ("_law_whole", s__law_whole) :: fs21
def s__law_has_row : FSp := semF (mkP fs22 ms2 cs2 icL fkL exL emL ciL) 9 4 [0, 1, 2, 3] m__law_has_row
def fs23 : List (String × FSp) := ("_law_has_row", s__law_has_row) :: fs22
def s__law_power : FSp := semF (mkP fs23 ms2 cs2 icL fkL exL emL ciL) 4 2 [0, 1] m__law_power
def fs24 : List (String × FSp) := ("_law_power", s__law_power) :: fs23
def s__law_rows_left : FSp := semF (mkP fs24 ms2 cs2 icL fkL exL emL ciL) 4 3 [0, 1, 2] m__law_rows_left
def fs25 : List (String × FSp) := ("_law_rows_left", s__law_rows_left) :: fs24
def s__law_row_at : FSp := semF (mkP fs25 ms2 cs2 icL fkL exL emL ciL) 11 3 [0, 1, 2] m__law_row_at
def fs26 : List (String × FSp) := ("_law_row_at", s__law_row_at) :: fs25
def s__law_take : FSp := semF (mkP fs26 ms2 cs2 icL fkL exL emL ciL) 2 2 [0, 1] m__law_take
def fs27 : List (String × FSp) := ("_law_take", s__law_take) :: fs26
def s__law_great_places : FSp := semF (mkP fs27 ms2 cs2 icL fkL exL emL ciL) 8 1 [0] m__law_great_places
def fs28 : List (String × FSp) := ("_law_great_places", s__law_great_places) :: fs27
def s_all_patterns : FSp := semF (mkP fs28 ms2 cs2 icL fkL exL emL ciL) 4 2 [0, 1] m_all_patterns
def fs29 : List (String × FSp) := ("all_patterns", s_all_patterns) :: fs28
def s__law_long_list : FSp := semF (mkP fs29 ms2 cs2 icL fkL exL emL ciL) 6 1 [0] m__law_long_list
def fs30 : List (String × FSp) := ("_law_long_list", s__law_long_list) :: fs29
def s__law_list_refused : FSp := semF (mkP fs30 ms2 cs2 icL fkL exL emL ciL) 4 2 [0, 1] m__law_list_refused
def fs31 : List (String × FSp) := ("_law_list_refused", s__law_list_refused) :: fs30
def s__law_refusals : FSp := semF (mkP fs31 ms2 cs2 icL fkL exL emL ciL) 5 4 [0, 1, 2, 3] m__law_refusals
def fs32 : List (String × FSp) := ("_law_refusals", s__law_refusals) :: fs31
def s__law_not_single : FSp := semF (mkP fs32 ms2 cs2 icL fkL exL emL ciL) 2 0 [] m__law_not_single
def fs33 : List (String × FSp) := ("_law_not_single", s__law_not_single) :: fs32
def s__law_listed : FSp := semF (mkP fs33 ms2 cs2 icL fkL exL emL ciL) 6 2 [0, 1] m__law_listed
def fs34 : List (String × FSp) := ("_law_listed", s__law_listed) :: fs33
def s__law_place_due : FSp := semF (mkP fs34 ms2 cs2 icL fkL exL emL ciL) 6 2 [0, 1] m__law_place_due
def fs35 : List (String × FSp) := ("_law_place_due", s__law_place_due) :: fs34
def s__law_flat : FSp := semF (mkP fs35 ms2 cs2 icL fkL exL emL ciL) 2 1 [0] m__law_flat
def fs36 : List (String × FSp) := ("_law_flat", s__law_flat) :: fs35
def s__law_pattern : FSp := semF (mkP fs36 ms2 cs2 icL fkL exL emL ciL) 11 3 [0, 1, 2] m__law_pattern
def fs37 : List (String × FSp) := ("_law_pattern", s__law_pattern) :: fs36
def s__law_draws : FSp := semF (mkP fs37 ms2 cs2 icL fkL exL emL ciL) 7 1 [0] m__law_draws
def fs38 : List (String × FSp) := ("_law_draws", s__law_draws) :: fs37
def s_law : FSp := semF (mkP fs38 ms2 cs2 icL fkL exL emL ciL) 17 1 [0] m_law
def fs39 : List (String × FSp) := ("law", s_law) :: fs38
def dfn (nm : Str × Option Str) (x : Str) (ql : Str) (s : Stmt) : He.DefD := ⟨nm, x, ql, defArgs s, defBody s, defScope s, [], []⟩
def fnL : List He.DefD := [dfn ("_came_counts", none) "_came_counts" "_came_counts" (top 21), dfn ("_wrong_residue", none) "_wrong_residue" "_wrong_residue" (top 22), dfn ("is_whole", none) "is_whole" "is_whole" (top 13), dfn ("is_row", none) "is_row" "is_row" (top 14), dfn ("check_whole", none) "check_whole" "check_whole" (top 15), dfn ("spot_row", none) "spot_row" "spot_row" (top 19), dfn ("full_rows", none) "full_rows" "full_rows" (top 20), dfn ("Pattern", some "__init__") "__init__" "Pattern.__init__" (inCls 25 0), dfn ("Line", some "__init__") "__init__" "Line.__init__" (inCls 17 0), dfn ("_height_from", none) "_height_from" "_height_from" (top 36), dfn ("_check_overtakings", none) "_check_overtakings" "_check_overtakings" (top 35), dfn ("pattern_by", none) "pattern_by" "pattern_by" (top 37), dfn ("_all_times", none) "_all_times" "_all_times" (top 30), dfn ("_power_of", none) "_power_of" "_power_of" (top 31), dfn ("_row_counts", none) "_row_counts" "_row_counts" (top 39), dfn ("how_many", none) "how_many" "how_many" (top 32), dfn ("nth", none) "nth" "nth" (top 41), dfn ("_law_no_nth", none) "_law_no_nth" "_law_no_nth" (top 55), dfn ("_single_heights", none) "_single_heights" "_single_heights" (top 24), dfn ("_overtaking_row", none) "_overtaking_row" "_overtaking_row" (top 28), dfn ("overtakings", none) "overtakings" "overtakings" (top 34), dfn ("place_of", none) "place_of" "place_of" (top 40), dfn ("_law_overtakings", none) "_law_overtakings" "_law_overtakings" (top 48), dfn ("_law_whole", none) "_law_whole" "_law_whole" (top 46), dfn ("_law_has_row", none) "_law_has_row" "_law_has_row" (top 54), dfn ("_law_power", none) "_law_power" "_law_power" (top 50), dfn ("_law_rows_left", none) "_law_rows_left" "_law_rows_left" (top 51), dfn ("_law_row_at", none) "_law_row_at" "_law_row_at" (top 53), dfn ("_law_take", none) "_law_take" "_law_take" (top 45), dfn ("_law_great_places", none) "_law_great_places" "_law_great_places" (top 60), dfn ("all_patterns", none) "all_patterns" "all_patterns" (top 42), dfn ("_law_long_list", none) "_law_long_list" "_law_long_list" (top 59), dfn ("_law_list_refused", none) "_law_list_refused" "_law_list_refused" (top 56), dfn ("_law_refusals", none) "_law_refusals" "_law_refusals" (top 61), dfn ("_law_not_single", none) "_law_not_single" "_law_not_single" (top 57), dfn ("_law_listed", none) "_law_listed" "_law_listed" (top 58), dfn ("_law_place_due", none) "_law_place_due" "_law_place_due" (top 52), dfn ("_law_flat", none) "_law_flat" "_law_flat" (top 49), dfn ("_law_pattern", none) "_law_pattern" "_law_pattern" (top 47), dfn ("_law_draws", none) "_law_draws" "_law_draws" (top 44), dfn ("law", none) "law" "law" (top 62), dfn ("BadNumber", some "__init__") "__init__" "BadNumber.__init__" (inCls 3 0), dfn ("BadLine", some "__init__") "__init__" "BadLine.__init__" (inCls 4 0), dfn ("BadThrows", some "__init__") "__init__" "BadThrows.__init__" (inCls 5 0), dfn ("NotPattern", some "__init__") "__init__" "NotPattern.__init__" (inCls 6 0), dfn ("BadRow", some "__init__") "__init__" "BadRow.__init__" (inCls 9 0), dfn ("TooMany", some "__init__") "__init__" "TooMany.__init__" (inCls 11 0)]
def dfc (c m : Str) (ql : Str) (s : Stmt) : He5.DefA := ⟨fun K => He5.wf K (He.ga K c) "classmethod" m, m, ql, defArgs s, defBody s, defScope s, [], []⟩
def fcL : List He5.DefA := [dfc "Line" "single" "Line.single" (inCls 17 1), dfc "Pattern" "single" "Pattern.single" (inCls 25 1)]
def faL : List He.Fa := bnames.map (fun x => .free (Str.ofString x)) ++ [.glo "_came_counts", .glo "_wrong_residue", .glo "is_whole", .glo "is_row", .glo "check_whole", .glo "spot_row", .glo "full_rows", .glo "_height_from", .glo "_check_overtakings", .glo "pattern_by", .glo "_all_times", .glo "_power_of", .glo "_row_counts", .glo "how_many", .glo "nth", .glo "_law_no_nth", .glo "_single_heights", .glo "_overtaking_row", .glo "overtakings", .glo "place_of", .glo "_law_overtakings", .glo "_law_whole", .glo "_law_has_row", .glo "_law_power", .glo "_law_rows_left", .glo "_law_row_at", .glo "_law_take", .glo "_law_great_places", .glo "all_patterns", .glo "_law_long_list", .glo "_law_list_refused", .glo "_law_refusals", .glo "_law_not_single", .glo "_law_listed", .glo "_law_place_due", .glo "_law_flat", .glo "_law_pattern", .glo "_law_draws", .glo "law", .glo "Line", .glo "Pattern", .cls "Line", .cls "Pattern", .mkr "Line", .mkr "Pattern", .meth "Pattern" "__init__", .meth "Line" "__init__", .noat "Line" "rooms", .noat "Line" "size", .noat "Pattern" "line", .noat "Pattern" "props", .noat "Pattern" "rows", .noat "Pattern" "size", .noat "Pattern" "top"] ++ emL.map (fun p => .exm (Str.ofString p.1.1) (Str.ofString p.1.2) p.2)
def exK (K : PySem.W.Frag) : Bool := exL.all (fun p => exB K (Str.ofString p.1) p.2) && (noLst K && (icL.all (fun c => isiK K icL c) && csL.all fun p => cmK K p.1 p.2))
abbrev RR : PySem.W.OpenRow := PySem.W.OpenLaw.row PySem.Challenge.rw_landings_k32_kth_pattern
/-- where the written part stands -/
def adL : List Addr := [3, 6, 4, 21, 31, 51, 70, 89, 108, 120, 132, 151, 163, 182, 191, 198, 205, 296, 307, 312, 317, 324, 329, 425, 434, 439, 446, 453, 460, 467, 474, 481, 486, 493, 500, 507, 512, 519, 526, 533, 540, 547, 552, 559, 566, 573, 580, 585, 592, 599, 606, 613, 620, 627, 634, 639, 0, 20, 30, 50, 69, 88, 107, 119, 131, 150, 162, 181, 190, 197, 204, 295, 306, 311, 316, 323, 328, 424, 433, 438, 445, 452, 459, 466, 473, 480, 485, 492, 499, 506, 511, 518, 525, 532, 539, 546, 551, 558, 565, 572, 579, 584, 591, 598, 605, 612, 619, 626, 633, 638, 15, 17, 18, 19, 29, 32, 48, 49, 67, 68, 86, 87, 105, 106, 118, 130, 148, 149, 161, 179, 180, 185, 187, 188, 189, 192, 194, 195, 196, 199, 201, 202, 203, 219, 228, 237, 244, 251, 258, 265, 272, 279, 286, 293, 294, 297, 298, 301, 303, 304, 305, 308, 310, 313, 315, 318, 320, 321, 322, 325, 327, 341, 348, 358, 366, 373, 380, 387, 394, 401, 408, 415, 422, 423, 426, 427, 430, 432, 435, 437, 440, 442, 443, 444, 447, 449, 450, 451, 454, 456, 457, 458, 461, 463, 464, 465, 468, 470, 471, 472, 475, 477, 478, 479, 482, 484, 487, 489, 490, 491, 494, 496, 497, 498, 501, 503, 504, 505, 508, 510, 513, 515, 516, 517, 520, 522, 523, 524, 527, 529, 530, 531, 534, 536, 537, 538, 541, 543, 544, 545, 548, 550, 553, 555, 556, 557, 560, 562, 563, 564, 567, 569, 570, 571, 574, 576, 577, 578, 581, 583, 586, 588, 589, 590, 593, 595, 596, 597, 600, 602, 603, 604, 607, 609, 610, 611, 614, 616, 617, 618, 621, 623, 624, 625, 628, 630, 631, 632, 635, 637, 47, 66, 85, 104, 147, 178, 218, 226, 227, 236, 243, 250, 257, 264, 271, 278, 285, 292, 340, 346, 347, 356, 357, 365, 372, 379, 386, 393, 400, 407, 414, 421, 42, 44, 45, 46, 61, 63, 64, 65, 80, 82, 83, 84, 99, 101, 102, 103, 142, 144, 145, 146, 173, 175, 176, 177, 213, 215, 216, 217, 225, 229, 235, 238, 240, 241, 242, 245, 247, 248, 249, 252, 254, 255, 256, 259, 261, 262, 263, 266, 268, 269, 270, 273, 275, 276, 277, 280, 282, 283, 284, 287, 289, 290, 291, 337, 339, 345, 349, 355, 359, 360, 362, 363, 364, 367, 369, 370, 371, 374, 376, 377, 378, 381, 383, 384, 385, 388, 390, 391, 392, 395, 397, 398, 399, 402, 404, 405, 406, 409, 411, 412, 413, 416, 418, 419, 420, 2]
abbrev hk : PySem.W.Hook := hookA adL faL fnL fcL exK
def ob (s : PySem.W.SharedT) : AlP := obsA adL faL fnL fcL exK (HandSHeadRun.getT s)
theorem ob_eq (s : PySem.W.SharedT) : ob s = hk.obs s.abs := obsA_eq (HandSHeadRun.getT_eq s)
end Pf

namespace Pf
open PySem PySem.Spec PyProof.Rows L2
theorem hrun (w : World) : HandSHeadRun.RunEq RR (PySem.W.view RR.prog [62]) hk ob 600000 ([("_wall" : PySem.Str), ("LandingsError" : PySem.Str), ("BadNumber" : PySem.Str), ("BadLine" : PySem.Str), ("BadThrows" : PySem.Str), ("NotPattern" : PySem.Str), ("NotSingle" : PySem.Str), ("OtherLine" : PySem.Str), ("BadRow" : PySem.Str), ("Stuck" : PySem.Str), ("TooMany" : PySem.Str), ("is_whole" : PySem.Str), ("is_row" : PySem.Str), ("check_whole" : PySem.Str), ("Line" : PySem.Str), ("spot_row" : PySem.Str), ("full_rows" : PySem.Str), ("_came_counts" : PySem.Str), ("_wrong_residue" : PySem.Str), ("_single_heights" : PySem.Str), ("Pattern" : PySem.Str), ("laid" : PySem.Str), ("_overtaking_row" : PySem.Str), ("_all_times" : PySem.Str), ("_power_of" : PySem.Str), ("how_many" : PySem.Str), ("overtakings" : PySem.Str), ("_check_overtakings" : PySem.Str), ("_height_from" : PySem.Str), ("pattern_by" : PySem.Str), ("_row_counts" : PySem.Str), ("place_of" : PySem.Str), ("nth" : PySem.Str), ("all_patterns" : PySem.Str), ("_law_draws" : PySem.Str), ("_law_take" : PySem.Str), ("_law_whole" : PySem.Str), ("_law_pattern" : PySem.Str), ("_law_overtakings" : PySem.Str), ("_law_flat" : PySem.Str), ("_law_power" : PySem.Str), ("_law_rows_left" : PySem.Str), ("_law_place_due" : PySem.Str), ("_law_row_at" : PySem.Str), ("_law_has_row" : PySem.Str), ("_law_no_nth" : PySem.Str), ("_law_list_refused" : PySem.Str), ("_law_not_single" : PySem.Str), ("_law_listed" : PySem.Str), ("_law_long_list" : PySem.Str), ("_law_great_places" : PySem.Str), ("_law_refusals" : PySem.Str)] : List PySem.Str) w := by
  intro os; kernel_rfl
end Pf

namespace Pf
open PySem PySem.Spec PyProof.Rows L2
section
variable {P : Program} {w : World} {K : PySem.W.Frag} {mg : Str → Option Value} {base h : Heap}
theorem sc__came_counts : FnScope n__came_counts [Str.ofString "size", Str.ofString "full"] (defScope (top 21)) := ⟨rfl, rfl, rfl, by decide +kernel, by decide +kernel, by decide +kernel, by decide +kernel⟩
theorem ck__came_counts : chkTs' n__came_counts (fs0.map (·.1)) elL [0, 1] m__came_counts (defScope (top 21)) (defBody (top 21)) = true := by decide +kernel
theorem sc__wrong_residue : FnScope n__wrong_residue [Str.ofString "line", Str.ofString "full"] (defScope (top 22)) := ⟨rfl, rfl, rfl, by decide +kernel, by decide +kernel, by decide +kernel, by decide +kernel⟩
theorem ck__wrong_residue : chkTs' n__wrong_residue (fs1.map (·.1)) elL [0, 1] m__wrong_residue (defScope (top 22)) (defBody (top 22)) = true := by decide +kernel
theorem sc_is_whole : FnScope n_is_whole [Str.ofString "value"] (defScope (top 13)) := ⟨rfl, rfl, rfl, by decide +kernel, by decide +kernel, by decide +kernel, by decide +kernel⟩
theorem ck_is_whole : chkTs' n_is_whole (fs2.map (·.1)) elL [0] m_is_whole (defScope (top 13)) (defBody (top 13)) = true := by decide +kernel
theorem sc_is_row : FnScope n_is_row [Str.ofString "value"] (defScope (top 14)) := ⟨rfl, rfl, rfl, by decide +kernel, by decide +kernel, by decide +kernel, by decide +kernel⟩
theorem ck_is_row : chkTs' n_is_row (fs3.map (·.1)) elL [0] m_is_row (defScope (top 14)) (defBody (top 14)) = true := by decide +kernel
theorem sc_check_whole : FnScope n_check_whole [Str.ofString "value", Str.ofString "name", Str.ofString "low"] (defScope (top 15)) := ⟨rfl, rfl, rfl, by decide +kernel, by decide +kernel, by decide +kernel, by decide +kernel⟩
theorem ck_check_whole : chkTs' n_check_whole (fs4.map (·.1)) elL [0, 1, 2] m_check_whole (defScope (top 15)) (defBody (top 15)) = true := by decide +kernel
theorem sc_spot_row : FnScope n_spot_row [Str.ofString "line", Str.ofString "spot", Str.ofString "heights"] (defScope (top 19)) := ⟨rfl, rfl, rfl, by decide +kernel, by decide +kernel, by decide +kernel, by decide +kernel⟩
theorem ck_spot_row : chkTs' n_spot_row (fs5.map (·.1)) elL [0, 1, 2] m_spot_row (defScope (top 19)) (defBody (top 19)) = true := by decide +kernel
theorem sc_full_rows : FnScope n_full_rows [Str.ofString "line", Str.ofString "rows"] (defScope (top 20)) := ⟨rfl, rfl, rfl, by decide +kernel, by decide +kernel, by decide +kernel, by decide +kernel⟩
theorem ck_full_rows : chkTs' n_full_rows (fs6.map (·.1)) elL [0, 1] m_full_rows (defScope (top 20)) (defBody (top 20)) = true := by decide +kernel
theorem sc_Pattern_init : FnScope n_Pattern_init [Str.ofString "self", Str.ofString "line", Str.ofString "rows"] (defScope (inCls 25 0)) := ⟨rfl, rfl, rfl, by decide +kernel, by decide +kernel, by decide +kernel, by decide +kernel⟩
theorem ck_Pattern_init : chkTs' n_Pattern_init (fs7.map (·.1)) elL [0, 1, 2] m_Pattern_init (defScope (inCls 25 0)) (defBody (inCls 25 0)) = true := by decide +kernel
theorem sc_Line_init : FnScope n_Line_init [Str.ofString "self", Str.ofString "rooms"] (defScope (inCls 17 0)) := ⟨rfl, rfl, rfl, by decide +kernel, by decide +kernel, by decide +kernel, by decide +kernel⟩
theorem ck_Line_init : chkTs' n_Line_init (fs7.map (·.1)) elL [0, 1] m_Line_init (defScope (inCls 17 0)) (defBody (inCls 17 0)) = true := by decide +kernel
theorem sc_Line_single : FnScope n_Line_single [Str.ofString "cls", Str.ofString "size"] (defScope (inCls 17 1)) := ⟨rfl, rfl, rfl, by decide +kernel, by decide +kernel, by decide +kernel, by decide +kernel⟩
theorem ck_Line_single : chkTs' n_Line_single (fs7.map (·.1)) elL [0, 1] m_Line_single (defScope (inCls 17 1)) (defBody (inCls 17 1)) = true := by decide +kernel
theorem sc_Pattern_single : FnScope n_Pattern_single [Str.ofString "cls", Str.ofString "heights"] (defScope (inCls 25 1)) := ⟨rfl, rfl, rfl, by decide +kernel, by decide +kernel, by decide +kernel, by decide +kernel⟩
theorem ck_Pattern_single : chkTs' n_Pattern_single (fs7.map (·.1)) elL [0, 1] m_Pattern_single (defScope (inCls 25 1)) (defBody (inCls 25 1)) = true := by decide +kernel
theorem sc__height_from : FnScope n__height_from [Str.ofString "props", Str.ofString "numbers", Str.ofString "spot"] (defScope (top 36)) := ⟨rfl, rfl, rfl, by decide +kernel, by decide +kernel, by decide +kernel, by decide +kernel⟩
theorem ck__height_from : chkTs' n__height_from (fs7.map (·.1)) elL [0, 1, 2] m__height_from (defScope (top 36)) (defBody (top 36)) = true := by decide +kernel
theorem sc__check_overtakings : FnScope n__check_overtakings [Str.ofString "props", Str.ofString "numbers"] (defScope (top 35)) := ⟨rfl, rfl, rfl, by decide +kernel, by decide +kernel, by decide +kernel, by decide +kernel⟩
theorem ck__check_overtakings : chkTs' n__check_overtakings (fs8.map (·.1)) elL [0, 1] m__check_overtakings (defScope (top 35)) (defBody (top 35)) = true := by decide +kernel
theorem sc_pattern_by : FnScope n_pattern_by [Str.ofString "props", Str.ofString "numbers"] (defScope (top 37)) := ⟨rfl, rfl, rfl, by decide +kernel, by decide +kernel, by decide +kernel, by decide +kernel⟩
theorem ck_pattern_by : chkTs' n_pattern_by (fs9.map (·.1)) elL [0, 1] m_pattern_by (defScope (top 37)) (defBody (top 37)) = true := by decide +kernel
theorem sc__all_times : FnScope n__all_times [Str.ofString "numbers"] (defScope (top 30)) := ⟨rfl, rfl, rfl, by decide +kernel, by decide +kernel, by decide +kernel, by decide +kernel⟩
theorem ck__all_times : chkTs' n__all_times (fs10.map (·.1)) elL [0] m__all_times (defScope (top 30)) (defBody (top 30)) = true := by decide +kernel
theorem sc__power_of : FnScope n__power_of [Str.ofString "base", Str.ofString "times"] (defScope (top 31)) := ⟨rfl, rfl, rfl, by decide +kernel, by decide +kernel, by decide +kernel, by decide +kernel⟩
theorem ck__power_of : chkTs' n__power_of (fs11.map (·.1)) elL [0, 1] m__power_of (defScope (top 31)) (defBody (top 31)) = true := by decide +kernel
theorem sc__row_counts : FnScope n__row_counts [Str.ofString "props", Str.ofString "left"] (defScope (top 39)) := ⟨rfl, rfl, rfl, by decide +kernel, by decide +kernel, by decide +kernel, by decide +kernel⟩
theorem ck__row_counts : chkTs' n__row_counts (fs12.map (·.1)) elL [0, 1] m__row_counts (defScope (top 39)) (defBody (top 39)) = true := by decide +kernel
theorem sc_how_many : FnScope n_how_many [Str.ofString "size", Str.ofString "props"] (defScope (top 32)) := ⟨rfl, rfl, rfl, by decide +kernel, by decide +kernel, by decide +kernel, by decide +kernel⟩
theorem ck_how_many : chkTs' n_how_many (fs13.map (·.1)) elL [0, 1] m_how_many (defScope (top 32)) (defBody (top 32)) = true := by decide +kernel
theorem sc_nth : FnScope n_nth [Str.ofString "size", Str.ofString "props", Str.ofString "place"] (defScope (top 41)) := ⟨rfl, rfl, rfl, by decide +kernel, by decide +kernel, by decide +kernel, by decide +kernel⟩
theorem ck_nth : chkTs' n_nth (fs14.map (·.1)) elL [0, 1, 2] m_nth (defScope (top 41)) (defBody (top 41)) = true := by decide +kernel
theorem sc__law_no_nth : FnScope n__law_no_nth [Str.ofString "size", Str.ofString "props", Str.ofString "wanted"] (defScope (top 55)) := ⟨rfl, rfl, rfl, by decide +kernel, by decide +kernel, by decide +kernel, by decide +kernel⟩
theorem ck__law_no_nth : chkTs' n__law_no_nth (fs15.map (·.1)) elL [0, 1, 2] m__law_no_nth (defScope (top 55)) (defBody (top 55)) = true := by decide +kernel
theorem sc__single_heights : FnScope n__single_heights [Str.ofString "pattern"] (defScope (top 24)) := ⟨rfl, rfl, rfl, by decide +kernel, by decide +kernel, by decide +kernel, by decide +kernel⟩
theorem ck__single_heights : chkTs' n__single_heights (fs16.map (·.1)) elL [0] m__single_heights (defScope (top 24)) (defBody (top 24)) = true := by decide +kernel
theorem sc__overtaking_row : FnScope n__overtaking_row [Str.ofString "pattern"] (defScope (top 28)) := ⟨rfl, rfl, rfl, by decide +kernel, by decide +kernel, by decide +kernel, by decide +kernel⟩
theorem ck__overtaking_row : chkTs' n__overtaking_row (fs17.map (·.1)) elL [0] m__overtaking_row (defScope (top 28)) (defBody (top 28)) = true := by decide +kernel
theorem sc_overtakings : FnScope n_overtakings [Str.ofString "pattern"] (defScope (top 34)) := ⟨rfl, rfl, rfl, by decide +kernel, by decide +kernel, by decide +kernel, by decide +kernel⟩
theorem ck_overtakings : chkTs' n_overtakings (fs18.map (·.1)) elL [0] m_overtakings (defScope (top 34)) (defBody (top 34)) = true := by decide +kernel
theorem sc_place_of : FnScope n_place_of [Str.ofString "pattern"] (defScope (top 40)) := ⟨rfl, rfl, rfl, by decide +kernel, by decide +kernel, by decide +kernel, by decide +kernel⟩
theorem ck_place_of : chkTs' n_place_of (fs19.map (·.1)) elL [0] m_place_of (defScope (top 40)) (defBody (top 40)) = true := by decide +kernel
theorem sc__law_overtakings : FnScope n__law_overtakings [Str.ofString "heights"] (defScope (top 48)) := ⟨rfl, rfl, rfl, by decide +kernel, by decide +kernel, by decide +kernel, by decide +kernel⟩
theorem ck__law_overtakings : chkTs' n__law_overtakings (fs20.map (·.1)) elL [0] m__law_overtakings (defScope (top 48)) (defBody (top 48)) = true := by decide +kernel
theorem sc__law_whole : FnScope n__law_whole [Str.ofString "value"] (defScope (top 46)) := ⟨rfl, rfl, rfl, by decide +kernel, by decide +kernel, by decide +kernel, by decide +kernel⟩
theorem ck__law_whole : chkTs' n__law_whole (fs21.map (·.1)) elL [0] m__law_whole (defScope (top 46)) (defBody (top 46)) = true := by decide +kernel
theorem sc__law_has_row : FnScope n__law_has_row [Str.ofString "told", Str.ofString "size", Str.ofString "props", Str.ofString "row"] (defScope (top 54)) := ⟨rfl, rfl, rfl, by decide +kernel, by decide +kernel, by decide +kernel, by decide +kernel⟩
theorem ck__law_has_row : chkTs' n__law_has_row (fs22.map (·.1)) elL [0, 1, 2, 3] m__law_has_row (defScope (top 54)) (defBody (top 54)) = true := by decide +kernel
theorem sc__law_power : FnScope n__law_power [Str.ofString "base", Str.ofString "times"] (defScope (top 50)) := ⟨rfl, rfl, rfl, by decide +kernel, by decide +kernel, by decide +kernel, by decide +kernel⟩
theorem ck__law_power : chkTs' n__law_power (fs23.map (·.1)) elL [0, 1] m__law_power (defScope (top 50)) (defBody (top 50)) = true := by decide +kernel
theorem sc__law_rows_left : FnScope n__law_rows_left [Str.ofString "props", Str.ofString "left", Str.ofString "zero"] (defScope (top 51)) := ⟨rfl, rfl, rfl, by decide +kernel, by decide +kernel, by decide +kernel, by decide +kernel⟩
theorem ck__law_rows_left : chkTs' n__law_rows_left (fs24.map (·.1)) elL [0, 1, 2] m__law_rows_left (defScope (top 51)) (defBody (top 51)) = true := by decide +kernel
theorem sc__law_row_at : FnScope n__law_row_at [Str.ofString "size", Str.ofString "props", Str.ofString "wanted"] (defScope (top 53)) := ⟨rfl, rfl, rfl, by decide +kernel, by decide +kernel, by decide +kernel, by decide +kernel⟩
theorem ck__law_row_at : chkTs' n__law_row_at (fs25.map (·.1)) elL [0, 1, 2] m__law_row_at (defScope (top 53)) (defBody (top 53)) = true := by decide +kernel
theorem sc__law_take : FnScope n__law_take [Str.ofString "draws", Str.ofString "many"] (defScope (top 45)) := ⟨rfl, rfl, rfl, by decide +kernel, by decide +kernel, by decide +kernel, by decide +kernel⟩
theorem ck__law_take : chkTs' n__law_take (fs26.map (·.1)) elL [0, 1] m__law_take (defScope (top 45)) (defBody (top 45)) = true := by decide +kernel
theorem sc__law_great_places : FnScope n__law_great_places [Str.ofString "draws"] (defScope (top 60)) := ⟨rfl, rfl, rfl, by decide +kernel, by decide +kernel, by decide +kernel, by decide +kernel⟩
theorem ck__law_great_places : chkTs' n__law_great_places (fs27.map (·.1)) elL [0] m__law_great_places (defScope (top 60)) (defBody (top 60)) = true := by decide +kernel
theorem sc_all_patterns : FnScope n_all_patterns [Str.ofString "size", Str.ofString "props"] (defScope (top 42)) := ⟨rfl, rfl, rfl, by decide +kernel, by decide +kernel, by decide +kernel, by decide +kernel⟩
theorem ck_all_patterns : chkTs' n_all_patterns (fs28.map (·.1)) elL [0, 1] m_all_patterns (defScope (top 42)) (defBody (top 42)) = true := by decide +kernel
theorem sc__law_long_list : FnScope n__law_long_list [Str.ofString "draws"] (defScope (top 59)) := ⟨rfl, rfl, rfl, by decide +kernel, by decide +kernel, by decide +kernel, by decide +kernel⟩
theorem ck__law_long_list : chkTs' n__law_long_list (fs29.map (·.1)) elL [0] m__law_long_list (defScope (top 59)) (defBody (top 59)) = true := by decide +kernel
theorem sc__law_list_refused : FnScope n__law_list_refused [Str.ofString "size", Str.ofString "props"] (defScope (top 56)) := ⟨rfl, rfl, rfl, by decide +kernel, by decide +kernel, by decide +kernel, by decide +kernel⟩
theorem ck__law_list_refused : chkTs' n__law_list_refused (fs30.map (·.1)) elL [0, 1] m__law_list_refused (defScope (top 56)) (defBody (top 56)) = true := by decide +kernel
theorem sc__law_refusals : FnScope n__law_refusals [Str.ofString "size", Str.ofString "props", Str.ofString "many", Str.ofString "word"] (defScope (top 61)) := ⟨rfl, rfl, rfl, by decide +kernel, by decide +kernel, by decide +kernel, by decide +kernel⟩
theorem ck__law_refusals : chkTs' n__law_refusals (fs31.map (·.1)) elL [0, 1, 2, 3] m__law_refusals (defScope (top 61)) (defBody (top 61)) = true := by decide +kernel
theorem sc__law_not_single : FnScope n__law_not_single [] (defScope (top 57)) := ⟨rfl, rfl, rfl, by decide +kernel, by decide +kernel, by decide +kernel, by decide +kernel⟩
theorem ck__law_not_single : chkTs' n__law_not_single (fs32.map (·.1)) elL [] m__law_not_single (defScope (top 57)) (defBody (top 57)) = true := by decide +kernel
theorem sc__law_listed : FnScope n__law_listed [Str.ofString "size", Str.ofString "props"] (defScope (top 58)) := ⟨rfl, rfl, rfl, by decide +kernel, by decide +kernel, by decide +kernel, by decide +kernel⟩
theorem ck__law_listed : chkTs' n__law_listed (fs33.map (·.1)) elL [0, 1] m__law_listed (defScope (top 58)) (defBody (top 58)) = true := by decide +kernel
theorem sc__law_place_due : FnScope n__law_place_due [Str.ofString "props", Str.ofString "row"] (defScope (top 52)) := ⟨rfl, rfl, rfl, by decide +kernel, by decide +kernel, by decide +kernel, by decide +kernel⟩
theorem ck__law_place_due : chkTs' n__law_place_due (fs34.map (·.1)) elL [0, 1] m__law_place_due (defScope (top 52)) (defBody (top 52)) = true := by decide +kernel
theorem sc__law_flat : FnScope n__law_flat [Str.ofString "rows"] (defScope (top 49)) := ⟨rfl, rfl, rfl, by decide +kernel, by decide +kernel, by decide +kernel, by decide +kernel⟩
theorem ck__law_flat : chkTs' n__law_flat (fs35.map (·.1)) elL [0] m__law_flat (defScope (top 49)) (defBody (top 49)) = true := by decide +kernel
theorem sc__law_pattern : FnScope n__law_pattern [Str.ofString "draws", Str.ofString "rooms", Str.ofString "laps"] (defScope (top 47)) := ⟨rfl, rfl, rfl, by decide +kernel, by decide +kernel, by decide +kernel, by decide +kernel⟩
theorem ck__law_pattern : chkTs' n__law_pattern (fs36.map (·.1)) elL [0, 1, 2] m__law_pattern (defScope (top 47)) (defBody (top 47)) = true := by decide +kernel
theorem sc__law_draws : FnScope n__law_draws [Str.ofString "script"] (defScope (top 44)) := ⟨rfl, rfl, rfl, by decide +kernel, by decide +kernel, by decide +kernel, by decide +kernel⟩
theorem ck__law_draws : chkTs' n__law_draws (fs37.map (·.1)) elL [0] m__law_draws (defScope (top 44)) (defBody (top 44)) = true := by decide +kernel
theorem sc_law : FnScope n_law [Str.ofString "script"] (defScope (top 62)) := ⟨rfl, rfl, rfl, by decide +kernel, by decide +kernel, by decide +kernel, by decide +kernel⟩
theorem ck_law : chkTs' n_law (fs38.map (·.1)) elL [0] m_law (defScope (top 62)) (defBody (top 62)) = true := by decide +kernel
theorem in_BadNumber (F : He.SaysD faL fnL K) (hx : exK K = true) : ∃ fd ps, FnOk P w K mg base (L2.CX P w) 1 (He.ma K (He.ga K "BadNumber") "__init__") fd ps (iniSp (He.ga K "BadNumber") [Str.ofString "name"]) ∧ Binds K fd ps [] := by
  obtain ⟨fd, D⟩ := F.def_ 41 (d := dfn ("BadNumber", some "__init__") "__init__" "BadNumber.__init__" (inCls 3 0)) rfl
  have hb := List.all_eq_true.mp (and2 hx).1 ("BadNumber", [Str.ofString "name"]) (by decide +kernel)
  obtain ⟨T, nd, hno⟩ := exB_oex hb rfl
  have S : FnScope [Str.ofString "self", Str.ofString "name"] [Str.ofString "self", Str.ofString "name"] (defScope (inCls 3 0)) := ⟨rfl, rfl, rfl, by decide +kernel, by decide +kernel, by decide +kernel, by decide +kernel⟩
  exact ⟨fd, _, ini_fn (N := [Str.ofString "self", Str.ofString "name"]) D S T nd hno (by intro e; cases e) rfl (by decide) (by decide +kernel), FunD.bindsN (ps := [Str.ofString "self", Str.ofString "name"]) D fun _ _ _ _ _ _ us hl => match us, hl with | [_, _], _ => rfl⟩
theorem in_BadLine (F : He.SaysD faL fnL K) (hx : exK K = true) : ∃ fd ps, FnOk P w K mg base (L2.CX P w) 1 (He.ma K (He.ga K "BadLine") "__init__") fd ps (iniSp (He.ga K "BadLine") [Str.ofString "place"]) ∧ Binds K fd ps [] := by
  obtain ⟨fd, D⟩ := F.def_ 42 (d := dfn ("BadLine", some "__init__") "__init__" "BadLine.__init__" (inCls 4 0)) rfl
  have hb := List.all_eq_true.mp (and2 hx).1 ("BadLine", [Str.ofString "place"]) (by decide +kernel)
  obtain ⟨T, nd, hno⟩ := exB_oex hb rfl
  have S : FnScope [Str.ofString "self", Str.ofString "place"] [Str.ofString "self", Str.ofString "place"] (defScope (inCls 4 0)) := ⟨rfl, rfl, rfl, by decide +kernel, by decide +kernel, by decide +kernel, by decide +kernel⟩
  exact ⟨fd, _, ini_fn (N := [Str.ofString "self", Str.ofString "place"]) D S T nd hno (by intro e; cases e) rfl (by decide) (by decide +kernel), FunD.bindsN (ps := [Str.ofString "self", Str.ofString "place"]) D fun _ _ _ _ _ _ us hl => match us, hl with | [_, _], _ => rfl⟩
theorem in_BadThrows (F : He.SaysD faL fnL K) (hx : exK K = true) : ∃ fd ps, FnOk P w K mg base (L2.CX P w) 1 (He.ma K (He.ga K "BadThrows") "__init__") fd ps (iniSp (He.ga K "BadThrows") [Str.ofString "spot"]) ∧ Binds K fd ps [] := by
  obtain ⟨fd, D⟩ := F.def_ 43 (d := dfn ("BadThrows", some "__init__") "__init__" "BadThrows.__init__" (inCls 5 0)) rfl
  have hb := List.all_eq_true.mp (and2 hx).1 ("BadThrows", [Str.ofString "spot"]) (by decide +kernel)
  obtain ⟨T, nd, hno⟩ := exB_oex hb rfl
  have S : FnScope [Str.ofString "self", Str.ofString "spot"] [Str.ofString "self", Str.ofString "spot"] (defScope (inCls 5 0)) := ⟨rfl, rfl, rfl, by decide +kernel, by decide +kernel, by decide +kernel, by decide +kernel⟩
  exact ⟨fd, _, ini_fn (N := [Str.ofString "self", Str.ofString "spot"]) D S T nd hno (by intro e; cases e) rfl (by decide) (by decide +kernel), FunD.bindsN (ps := [Str.ofString "self", Str.ofString "spot"]) D fun _ _ _ _ _ _ us hl => match us, hl with | [_, _], _ => rfl⟩
theorem in_NotPattern (F : He.SaysD faL fnL K) (hx : exK K = true) : ∃ fd ps, FnOk P w K mg base (L2.CX P w) 1 (He.ma K (He.ga K "NotPattern") "__init__") fd ps (iniSp (He.ga K "NotPattern") [Str.ofString "spot"]) ∧ Binds K fd ps [] := by
  obtain ⟨fd, D⟩ := F.def_ 44 (d := dfn ("NotPattern", some "__init__") "__init__" "NotPattern.__init__" (inCls 6 0)) rfl
  have hb := List.all_eq_true.mp (and2 hx).1 ("NotPattern", [Str.ofString "spot"]) (by decide +kernel)
  obtain ⟨T, nd, hno⟩ := exB_oex hb rfl
  have S : FnScope [Str.ofString "self", Str.ofString "spot"] [Str.ofString "self", Str.ofString "spot"] (defScope (inCls 6 0)) := ⟨rfl, rfl, rfl, by decide +kernel, by decide +kernel, by decide +kernel, by decide +kernel⟩
  exact ⟨fd, _, ini_fn (N := [Str.ofString "self", Str.ofString "spot"]) D S T nd hno (by intro e; cases e) rfl (by decide) (by decide +kernel), FunD.bindsN (ps := [Str.ofString "self", Str.ofString "spot"]) D fun _ _ _ _ _ _ us hl => match us, hl with | [_, _], _ => rfl⟩
theorem in_BadRow (F : He.SaysD faL fnL K) (hx : exK K = true) : ∃ fd ps, FnOk P w K mg base (L2.CX P w) 1 (He.ma K (He.ga K "BadRow") "__init__") fd ps (iniSp (He.ga K "BadRow") [Str.ofString "place"]) ∧ Binds K fd ps [] := by
  obtain ⟨fd, D⟩ := F.def_ 45 (d := dfn ("BadRow", some "__init__") "__init__" "BadRow.__init__" (inCls 9 0)) rfl
  have hb := List.all_eq_true.mp (and2 hx).1 ("BadRow", [Str.ofString "place"]) (by decide +kernel)
  obtain ⟨T, nd, hno⟩ := exB_oex hb rfl
  have S : FnScope [Str.ofString "self", Str.ofString "place"] [Str.ofString "self", Str.ofString "place"] (defScope (inCls 9 0)) := ⟨rfl, rfl, rfl, by decide +kernel, by decide +kernel, by decide +kernel, by decide +kernel⟩
  exact ⟨fd, _, ini_fn (N := [Str.ofString "self", Str.ofString "place"]) D S T nd hno (by intro e; cases e) rfl (by decide) (by decide +kernel), FunD.bindsN (ps := [Str.ofString "self", Str.ofString "place"]) D fun _ _ _ _ _ _ us hl => match us, hl with | [_, _], _ => rfl⟩
theorem in_TooMany (F : He.SaysD faL fnL K) (hx : exK K = true) : ∃ fd ps, FnOk P w K mg base (L2.CX P w) 1 (He.ma K (He.ga K "TooMany") "__init__") fd ps (iniSp (He.ga K "TooMany") [Str.ofString "limit"]) ∧ Binds K fd ps [] := by
  obtain ⟨fd, D⟩ := F.def_ 46 (d := dfn ("TooMany", some "__init__") "__init__" "TooMany.__init__" (inCls 11 0)) rfl
  have hb := List.all_eq_true.mp (and2 hx).1 ("TooMany", [Str.ofString "limit"]) (by decide +kernel)
  obtain ⟨T, nd, hno⟩ := exB_oex hb rfl
  have S : FnScope [Str.ofString "self", Str.ofString "limit"] [Str.ofString "self", Str.ofString "limit"] (defScope (inCls 11 0)) := ⟨rfl, rfl, rfl, by decide +kernel, by decide +kernel, by decide +kernel, by decide +kernel⟩
  exact ⟨fd, _, ini_fn (N := [Str.ofString "self", Str.ofString "limit"]) D S T nd hno (by intro e; cases e) rfl (by decide) (by decide +kernel), FunD.bindsN (ps := [Str.ofString "self", Str.ofString "limit"]) D fun _ _ _ _ _ _ us hl => match us, hl with | [_, _], _ => rfl⟩
theorem g_0 (X : K.In h) (G : h.Ns mainGlobals mg) (F : He.SaysD faL fnL K) (hx : exK K = true) : GOk (mkP fs0 ms0 cs0 icL fkL exL emL ciL) (He.ga K) 2 P w K mg base where
  fn := fun x F h => by cases h
  fre := fun x hx => He.free_ok X G (F.facts (List.mem_append_left _ (List.mem_append_left _ (List.mem_map.mpr ⟨x, hx, rfl⟩))))
  mth := fun c m F h => by cases h
  mkc := fun c h => by cases h
  exc := fun c ns hc => by
    have hm := lk_mem hc
    refine ExF.of X G (List.all_eq_true.mp (and2 hx).1 (c, ns) hm) fun hne => ?_
    simp only [exL, List.mem_cons, List.not_mem_nil, or_false, Prod.mk.injEq] at hm
    rcases hm with ⟨rfl, rfl⟩ | ⟨rfl, rfl⟩ | ⟨rfl, rfl⟩ | ⟨rfl, rfl⟩ | ⟨rfl, rfl⟩ | ⟨rfl, rfl⟩ | ⟨rfl, rfl⟩ | ⟨rfl, rfl⟩ | ⟨rfl, rfl⟩ | ⟨rfl, rfl⟩
    · exact absurd rfl hne
    · exact in_BadNumber F hx
    · exact in_BadLine F hx
    · exact in_BadThrows F hx
    · exact in_NotPattern F hx
    · exact absurd rfl hne
    · exact absurd rfl hne
    · exact in_BadRow F hx
    · exact absurd rfl hne
    · exact in_TooMany F hx
  exm := fun c c' b hc => by
    have hm := lk_mem hc
    exact He.exm_ok (F.facts (List.mem_append_right _ (List.mem_map.mpr ⟨((c, c'), b), hm, rfl⟩)))
  fok := fun c f hc => by
    obtain ⟨p, hm, hp⟩ := List.any_eq_true.mp (show (fkL.any fun p => c == Str.ofString p.1 && f == Str.ofString p.2) = true from hc)
    obtain ⟨h1, h2⟩ := and2 hp
    have e1 := eq_of_beq h1
    have e2 := eq_of_beq h2
    subst e1 e2
    simp only [fkL, List.mem_cons, List.not_mem_nil, or_false] at hm
    rcases hm with rfl | rfl | rfl | rfl | rfl | rfl | rfl
    · exact ⟨He.cls_ok (F.fact 60 (f := .cls "Line") rfl), He.noat_ok (F.fact 66 (f := .noat "Line" "rooms") rfl)⟩
    · exact ⟨He.cls_ok (F.fact 60 (f := .cls "Line") rfl), He.noat_ok (F.fact 67 (f := .noat "Line" "size") rfl)⟩
    · exact ⟨He.cls_ok (F.fact 61 (f := .cls "Pattern") rfl), He.noat_ok (F.fact 68 (f := .noat "Pattern" "line") rfl)⟩
    · exact ⟨He.cls_ok (F.fact 61 (f := .cls "Pattern") rfl), He.noat_ok (F.fact 69 (f := .noat "Pattern" "props") rfl)⟩
    · exact ⟨He.cls_ok (F.fact 61 (f := .cls "Pattern") rfl), He.noat_ok (F.fact 70 (f := .noat "Pattern" "rows") rfl)⟩
    · exact ⟨He.cls_ok (F.fact 61 (f := .cls "Pattern") rfl), He.noat_ok (F.fact 71 (f := .noat "Pattern" "size") rfl)⟩
    · exact ⟨He.cls_ok (F.fact 61 (f := .cls "Pattern") rfl), He.noat_ok (F.fact 72 (f := .noat "Pattern" "top") rfl)⟩
  cmt := fun c m F h => by cases h
  isc := fun c hc => by
    obtain ⟨x, hm, hp⟩ := List.any_eq_true.mp (show (icL.any fun x => c == Str.ofString x) = true from hc)
    have e1 := eq_of_beq hp
    subst e1
    have hi := List.all_eq_true.mp (and2 (and2 (and2 hx).2).2).1 x hm
    have fin : ∀ z : String, (∀ c' ∈ icL, PySem.W.kitOne K (.ref (He.ga K (Str.ofString c'))) (.ref (He.ga K (Str.ofString z))) = some (Str.ofString c' == Str.ofString z)) → ∀ c' : Str, (icL.any fun x => c' == Str.ofString x) = true → PySem.W.kitOne K (.ref (He.ga K c')) (.ref (He.ga K (Str.ofString z))) = some (c' == Str.ofString z) := fun z hz c' hc' => by
      obtain ⟨y, hy, hq⟩ := List.any_eq_true.mp hc'
      rw [eq_of_beq hq]
      exact hz y hy
    simp only [icL, List.mem_cons, List.not_mem_nil, or_false] at hm
    rcases hm with rfl
    · obtain ⟨a1, a2, a3⟩ := isiK_ok hi (He.cls_ok (F.fact 61 (f := .cls "Pattern") rfl))
      exact ⟨⟨He.glo_ok X G (F.fact 59 (f := .glo "Pattern") rfl), by decide⟩, a1, a2, fun c' hc' => fin _ a3 c' hc'⟩
  cint := fun x n hc => by
    have hm := lk_mem hc
    simp only [ciL, List.mem_cons, List.not_mem_nil, or_false, Prod.mk.injEq] at hm
theorem law_fn (X : K.In h) (G : h.Ns mainGlobals mg) (c : SaysP faL fnL fcL exK K) : ∃ fd, FunD K "law" "law" (defArgs (top 62)) (defBody (top 62)) (defScope (top 62)) [] [] (He.ga K "law") fd ∧ ∀ base : Heap, FnOk P w K mg base (L2.CX P w) 47 (He.ga K "law") fd ["script"] (spOf K (He.ga K) (mkP fs38 ms2 cs2 icL fkL exL emL ciL) s_law) := by
  have F := c.d
  have hx := c.more
  obtain ⟨fd0, D0⟩ := F.def_ 0 (d := dfn ("_came_counts", none) "_came_counts" "_came_counts" (top 21)) rfl
  obtain ⟨fd1, D1⟩ := F.def_ 1 (d := dfn ("_wrong_residue", none) "_wrong_residue" "_wrong_residue" (top 22)) rfl
  obtain ⟨fd2, D2⟩ := F.def_ 2 (d := dfn ("is_whole", none) "is_whole" "is_whole" (top 13)) rfl
  obtain ⟨fd3, D3⟩ := F.def_ 3 (d := dfn ("is_row", none) "is_row" "is_row" (top 14)) rfl
  obtain ⟨fd4, D4⟩ := F.def_ 4 (d := dfn ("check_whole", none) "check_whole" "check_whole" (top 15)) rfl
  obtain ⟨fd5, D5⟩ := F.def_ 5 (d := dfn ("spot_row", none) "spot_row" "spot_row" (top 19)) rfl
  obtain ⟨fd6, D6⟩ := F.def_ 6 (d := dfn ("full_rows", none) "full_rows" "full_rows" (top 20)) rfl
  obtain ⟨fd7, D7⟩ := F.def_ 7 (d := dfn ("Pattern", some "__init__") "__init__" "Pattern.__init__" (inCls 25 0)) rfl
  obtain ⟨fd8, D8⟩ := F.def_ 8 (d := dfn ("Line", some "__init__") "__init__" "Line.__init__" (inCls 17 0)) rfl
  obtain ⟨fd9, D9⟩ := c.defA 0 (d := dfc "Line" "single" "Line.single" (inCls 17 1)) rfl
  obtain ⟨fd10, D10⟩ := c.defA 1 (d := dfc "Pattern" "single" "Pattern.single" (inCls 25 1)) rfl
  obtain ⟨fd11, D11⟩ := F.def_ 9 (d := dfn ("_height_from", none) "_height_from" "_height_from" (top 36)) rfl
  obtain ⟨fd12, D12⟩ := F.def_ 10 (d := dfn ("_check_overtakings", none) "_check_overtakings" "_check_overtakings" (top 35)) rfl
  obtain ⟨fd13, D13⟩ := F.def_ 11 (d := dfn ("pattern_by", none) "pattern_by" "pattern_by" (top 37)) rfl
  obtain ⟨fd14, D14⟩ := F.def_ 12 (d := dfn ("_all_times", none) "_all_times" "_all_times" (top 30)) rfl
  obtain ⟨fd15, D15⟩ := F.def_ 13 (d := dfn ("_power_of", none) "_power_of" "_power_of" (top 31)) rfl
  obtain ⟨fd16, D16⟩ := F.def_ 14 (d := dfn ("_row_counts", none) "_row_counts" "_row_counts" (top 39)) rfl
  obtain ⟨fd17, D17⟩ := F.def_ 15 (d := dfn ("how_many", none) "how_many" "how_many" (top 32)) rfl
  obtain ⟨fd18, D18⟩ := F.def_ 16 (d := dfn ("nth", none) "nth" "nth" (top 41)) rfl
  obtain ⟨fd19, D19⟩ := F.def_ 17 (d := dfn ("_law_no_nth", none) "_law_no_nth" "_law_no_nth" (top 55)) rfl
  obtain ⟨fd20, D20⟩ := F.def_ 18 (d := dfn ("_single_heights", none) "_single_heights" "_single_heights" (top 24)) rfl
  obtain ⟨fd21, D21⟩ := F.def_ 19 (d := dfn ("_overtaking_row", none) "_overtaking_row" "_overtaking_row" (top 28)) rfl
  obtain ⟨fd22, D22⟩ := F.def_ 20 (d := dfn ("overtakings", none) "overtakings" "overtakings" (top 34)) rfl
  obtain ⟨fd23, D23⟩ := F.def_ 21 (d := dfn ("place_of", none) "place_of" "place_of" (top 40)) rfl
  obtain ⟨fd24, D24⟩ := F.def_ 22 (d := dfn ("_law_overtakings", none) "_law_overtakings" "_law_overtakings" (top 48)) rfl
  obtain ⟨fd25, D25⟩ := F.def_ 23 (d := dfn ("_law_whole", none) "_law_whole" "_law_whole" (top 46)) rfl
  obtain ⟨fd26, D26⟩ := F.def_ 24 (d := dfn ("_law_has_row", none) "_law_has_row" "_law_has_row" (top 54)) rfl
  obtain ⟨fd27, D27⟩ := F.def_ 25 (d := dfn ("_law_power", none) "_law_power" "_law_power" (top 50)) rfl
  obtain ⟨fd28, D28⟩ := F.def_ 26 (d := dfn ("_law_rows_left", none) "_law_rows_left" "_law_rows_left" (top 51)) rfl
  obtain ⟨fd29, D29⟩ := F.def_ 27 (d := dfn ("_law_row_at", none) "_law_row_at" "_law_row_at" (top 53)) rfl
  obtain ⟨fd30, D30⟩ := F.def_ 28 (d := dfn ("_law_take", none) "_law_take" "_law_take" (top 45)) rfl
  obtain ⟨fd31, D31⟩ := F.def_ 29 (d := dfn ("_law_great_places", none) "_law_great_places" "_law_great_places" (top 60)) rfl
  obtain ⟨fd32, D32⟩ := F.def_ 30 (d := dfn ("all_patterns", none) "all_patterns" "all_patterns" (top 42)) rfl
  obtain ⟨fd33, D33⟩ := F.def_ 31 (d := dfn ("_law_long_list", none) "_law_long_list" "_law_long_list" (top 59)) rfl
  obtain ⟨fd34, D34⟩ := F.def_ 32 (d := dfn ("_law_list_refused", none) "_law_list_refused" "_law_list_refused" (top 56)) rfl
  obtain ⟨fd35, D35⟩ := F.def_ 33 (d := dfn ("_law_refusals", none) "_law_refusals" "_law_refusals" (top 61)) rfl
  obtain ⟨fd36, D36⟩ := F.def_ 34 (d := dfn ("_law_not_single", none) "_law_not_single" "_law_not_single" (top 57)) rfl
  obtain ⟨fd37, D37⟩ := F.def_ 35 (d := dfn ("_law_listed", none) "_law_listed" "_law_listed" (top 58)) rfl
  obtain ⟨fd38, D38⟩ := F.def_ 36 (d := dfn ("_law_place_due", none) "_law_place_due" "_law_place_due" (top 52)) rfl
  obtain ⟨fd39, D39⟩ := F.def_ 37 (d := dfn ("_law_flat", none) "_law_flat" "_law_flat" (top 49)) rfl
  obtain ⟨fd40, D40⟩ := F.def_ 38 (d := dfn ("_law_pattern", none) "_law_pattern" "_law_pattern" (top 47)) rfl
  obtain ⟨fd41, D41⟩ := F.def_ 39 (d := dfn ("_law_draws", none) "_law_draws" "_law_draws" (top 44)) rfl
  obtain ⟨fd42, D42⟩ := F.def_ 40 (d := dfn ("law", none) "law" "law" (top 62)) rfl
  refine ⟨fd42, D42, fun base => ?_⟩
  have h0 := g_0 (P := P) (w := w) (base := base) X G F hx
  have h1 : GOk (mkP fs1 ms0 cs0 icL fkL exL emL ciL) (He.ga K) 3 P w K mg base := h0.addF D0 sc__came_counts (fun _ _ _ _ _ _ us hl => match us, hl with | [_, _], _ => rfl) ck__came_counts rfl rfl (He.glo_ok X G (F.fact 19 (f := .glo "_came_counts") rfl)) (by decide)
  have h2 : GOk (mkP fs2 ms0 cs0 icL fkL exL emL ciL) (He.ga K) 4 P w K mg base := h1.addF D1 sc__wrong_residue (fun _ _ _ _ _ _ us hl => match us, hl with | [_, _], _ => rfl) ck__wrong_residue rfl rfl (He.glo_ok X G (F.fact 20 (f := .glo "_wrong_residue") rfl)) (by decide)
  have h3 : GOk (mkP fs3 ms0 cs0 icL fkL exL emL ciL) (He.ga K) 5 P w K mg base := h2.addF D2 sc_is_whole (fun _ _ _ _ _ _ us hl => match us, hl with | [_], _ => rfl) ck_is_whole rfl rfl (He.glo_ok X G (F.fact 21 (f := .glo "is_whole") rfl)) (by decide)
  have h4 : GOk (mkP fs4 ms0 cs0 icL fkL exL emL ciL) (He.ga K) 6 P w K mg base := h3.addF D3 sc_is_row (fun _ _ _ _ _ _ us hl => match us, hl with | [_], _ => rfl) ck_is_row rfl rfl (He.glo_ok X G (F.fact 22 (f := .glo "is_row") rfl)) (by decide)
  have h5 : GOk (mkP fs5 ms0 cs0 icL fkL exL emL ciL) (He.ga K) 7 P w K mg base := h4.addF D4 sc_check_whole (fun _ _ _ _ _ _ us hl => match us, hl with | [_, _, _], _ => rfl) ck_check_whole rfl rfl (He.glo_ok X G (F.fact 23 (f := .glo "check_whole") rfl)) (by decide)
  have h6 : GOk (mkP fs6 ms0 cs0 icL fkL exL emL ciL) (He.ga K) 8 P w K mg base := h5.addF D5 sc_spot_row (fun _ _ _ _ _ _ us hl => match us, hl with | [_, _, _], _ => rfl) ck_spot_row rfl rfl (He.glo_ok X G (F.fact 24 (f := .glo "spot_row") rfl)) (by decide)
  have h7 : GOk (mkP fs7 ms0 cs0 icL fkL exL emL ciL) (He.ga K) 9 P w K mg base := h6.addF D6 sc_full_rows (fun _ _ _ _ _ _ us hl => match us, hl with | [_, _], _ => rfl) ck_full_rows rfl rfl (He.glo_ok X G (F.fact 25 (f := .glo "full_rows") rfl)) (by decide)
  have h8 : GOk (mkP fs7 ms1 cs0 icL fkL exL emL ciL) (He.ga K) 11 P w K mg base := h7.addM (cn := "Pattern") (mn := "__init__") D7 sc_Pattern_init (fun _ _ _ _ _ _ us hl => match us, hl with | [_, _, _], _ => rfl) ck_Pattern_init rfl rfl (He.cls_ok (F.fact 61 (f := .cls "Pattern") rfl)) (He.meth_ok (F.fact 64 (f := .meth "Pattern" "__init__") rfl)) (fun _ => ⟨He.glo_ok X G (F.fact 59 (f := .glo "Pattern") rfl), (He.mkr_ok (F.fact 63 (f := .mkr "Pattern") rfl)).makes, (He.mkr_ok (F.fact 63 (f := .mkr "Pattern") rfl)).kp, by decide⟩)
  have h9 : GOk (mkP fs7 ms2 cs0 icL fkL exL emL ciL) (He.ga K) 13 P w K mg base := h8.addM (cn := "Line") (mn := "__init__") D8 sc_Line_init (fun _ _ _ _ _ _ us hl => match us, hl with | [_, _], _ => rfl) ck_Line_init rfl rfl (He.cls_ok (F.fact 60 (f := .cls "Line") rfl)) (He.meth_ok (F.fact 65 (f := .meth "Line" "__init__") rfl)) (fun _ => ⟨He.glo_ok X G (F.fact 58 (f := .glo "Line") rfl), (He.mkr_ok (F.fact 62 (f := .mkr "Line") rfl)).makes, (He.mkr_ok (F.fact 62 (f := .mkr "Line") rfl)).kp, by decide⟩)
  have c9 := cmK_ok (List.all_eq_true.mp (and2 (and2 (and2 hx).2).2).2 ("Line", "single") (by decide))
  have h10 : GOk (mkP fs7 ms2 cs1 icL fkL exL emL ciL) (He.ga K) 14 P w K mg base := h9.addC (cn := "Line") (mn := "single") D9 sc_Line_single (fun _ _ _ _ _ _ us hl => match us, hl with | [_, _], _ => rfl) ck_Line_single rfl rfl (He.glo_ok X G (F.fact 58 (f := .glo "Line") rfl)) (by decide) c9.1 c9.2
  have c10 := cmK_ok (List.all_eq_true.mp (and2 (and2 (and2 hx).2).2).2 ("Pattern", "single") (by decide))
  have h11 : GOk (mkP fs7 ms2 cs2 icL fkL exL emL ciL) (He.ga K) 15 P w K mg base := h10.addC (cn := "Pattern") (mn := "single") D10 sc_Pattern_single (fun _ _ _ _ _ _ us hl => match us, hl with | [_, _], _ => rfl) ck_Pattern_single rfl rfl (He.glo_ok X G (F.fact 59 (f := .glo "Pattern") rfl)) (by decide) c10.1 c10.2
  have h12 : GOk (mkP fs8 ms2 cs2 icL fkL exL emL ciL) (He.ga K) 16 P w K mg base := h11.addF D11 sc__height_from (fun _ _ _ _ _ _ us hl => match us, hl with | [_, _, _], _ => rfl) ck__height_from rfl rfl (He.glo_ok X G (F.fact 26 (f := .glo "_height_from") rfl)) (by decide)
  have h13 : GOk (mkP fs9 ms2 cs2 icL fkL exL emL ciL) (He.ga K) 17 P w K mg base := h12.addF D12 sc__check_overtakings (fun _ _ _ _ _ _ us hl => match us, hl with | [_, _], _ => rfl) ck__check_overtakings rfl rfl (He.glo_ok X G (F.fact 27 (f := .glo "_check_overtakings") rfl)) (by decide)
  have h14 : GOk (mkP fs10 ms2 cs2 icL fkL exL emL ciL) (He.ga K) 18 P w K mg base := h13.addF D13 sc_pattern_by (fun _ _ _ _ _ _ us hl => match us, hl with | [_, _], _ => rfl) ck_pattern_by rfl rfl (He.glo_ok X G (F.fact 28 (f := .glo "pattern_by") rfl)) (by decide)
  have h15 : GOk (mkP fs11 ms2 cs2 icL fkL exL emL ciL) (He.ga K) 19 P w K mg base := h14.addF D14 sc__all_times (fun _ _ _ _ _ _ us hl => match us, hl with | [_], _ => rfl) ck__all_times rfl rfl (He.glo_ok X G (F.fact 29 (f := .glo "_all_times") rfl)) (by decide)
  have h16 : GOk (mkP fs12 ms2 cs2 icL fkL exL emL ciL) (He.ga K) 20 P w K mg base := h15.addF D15 sc__power_of (fun _ _ _ _ _ _ us hl => match us, hl with | [_, _], _ => rfl) ck__power_of rfl rfl (He.glo_ok X G (F.fact 30 (f := .glo "_power_of") rfl)) (by decide)
  have h17 : GOk (mkP fs13 ms2 cs2 icL fkL exL emL ciL) (He.ga K) 21 P w K mg base := h16.addF D16 sc__row_counts (fun _ _ _ _ _ _ us hl => match us, hl with | [_, _], _ => rfl) ck__row_counts rfl rfl (He.glo_ok X G (F.fact 31 (f := .glo "_row_counts") rfl)) (by decide)
  have h18 : GOk (mkP fs14 ms2 cs2 icL fkL exL emL ciL) (He.ga K) 22 P w K mg base := h17.addF D17 sc_how_many (fun _ _ _ _ _ _ us hl => match us, hl with | [_, _], _ => rfl) ck_how_many rfl rfl (He.glo_ok X G (F.fact 32 (f := .glo "how_many") rfl)) (by decide)
  have h19 : GOk (mkP fs15 ms2 cs2 icL fkL exL emL ciL) (He.ga K) 23 P w K mg base := h18.addF D18 sc_nth (fun _ _ _ _ _ _ us hl => match us, hl with | [_, _, _], _ => rfl) ck_nth rfl rfl (He.glo_ok X G (F.fact 33 (f := .glo "nth") rfl)) (by decide)
  have h20 : GOk (mkP fs16 ms2 cs2 icL fkL exL emL ciL) (He.ga K) 24 P w K mg base := h19.addF D19 sc__law_no_nth (fun _ _ _ _ _ _ us hl => match us, hl with | [_, _, _], _ => rfl) ck__law_no_nth rfl rfl (He.glo_ok X G (F.fact 34 (f := .glo "_law_no_nth") rfl)) (by decide)
  have h21 : GOk (mkP fs17 ms2 cs2 icL fkL exL emL ciL) (He.ga K) 25 P w K mg base := h20.addF D20 sc__single_heights (fun _ _ _ _ _ _ us hl => match us, hl with | [_], _ => rfl) ck__single_heights rfl rfl (He.glo_ok X G (F.fact 35 (f := .glo "_single_heights") rfl)) (by decide)
  have h22 : GOk (mkP fs18 ms2 cs2 icL fkL exL emL ciL) (He.ga K) 26 P w K mg base := h21.addF D21 sc__overtaking_row (fun _ _ _ _ _ _ us hl => match us, hl with | [_], _ => rfl) ck__overtaking_row rfl rfl (He.glo_ok X G (F.fact 36 (f := .glo "_overtaking_row") rfl)) (by decide)
  have h23 : GOk (mkP fs19 ms2 cs2 icL fkL exL emL ciL) (He.ga K) 27 P w K mg base := h22.addF D22 sc_overtakings (fun _ _ _ _ _ _ us hl => match us, hl with | [_], _ => rfl) ck_overtakings rfl rfl (He.glo_ok X G (F.fact 37 (f := .glo "overtakings") rfl)) (by decide)
  have h24 : GOk (mkP fs20 ms2 cs2 icL fkL exL emL ciL) (He.ga K) 28 P w K mg base := h23.addF D23 sc_place_of (fun _ _ _ _ _ _ us hl => match us, hl with | [_], _ => rfl) ck_place_of rfl rfl (He.glo_ok X G (F.fact 38 (f := .glo "place_of") rfl)) (by decide)
  have h25 : GOk (mkP fs21 ms2 cs2 icL fkL exL emL ciL) (He.ga K) 29 P w K mg base := h24.addF D24 sc__law_overtakings (fun _ _ _ _ _ _ us hl => match us, hl with | [_], _ => rfl) ck__law_overtakings rfl rfl (He.glo_ok X G (F.fact 39 (f := .glo "_law_overtakings") rfl)) (by decide)
  have h26 : GOk (mkP fs22 ms2 cs2 icL fkL exL emL ciL) (He.ga K) 30 P w K mg base := h25.addF D25 sc__law_whole (fun _ _ _ _ _ _ us hl => match us, hl with | [_], _ => rfl) ck__law_whole rfl rfl (He.glo_ok X G (F.fact 40 (f := .glo "_law_whole") rfl)) (by decide)
  have h27 : GOk (mkP fs23 ms2 cs2 icL fkL exL emL ciL) (He.ga K) 31 P w K mg base := h26.addF D26 sc__law_has_row (fun _ _ _ _ _ _ us hl => match us, hl with | [_, _, _, _], _ => rfl) ck__law_has_row rfl rfl (He.glo_ok X G (F.fact 41 (f := .glo "_law_has_row") rfl)) (by decide)
  have h28 : GOk (mkP fs24 ms2 cs2 icL fkL exL emL ciL) (He.ga K) 32 P w K mg base := h27.addF D27 sc__law_power (fun _ _ _ _ _ _ us hl => match us, hl with | [_, _], _ => rfl) ck__law_power rfl rfl (He.glo_ok X G (F.fact 42 (f := .glo "_law_power") rfl)) (by decide)
  have h29 : GOk (mkP fs25 ms2 cs2 icL fkL exL emL ciL) (He.ga K) 33 P w K mg base := h28.addF D28 sc__law_rows_left (fun _ _ _ _ _ _ us hl => match us, hl with | [_, _, _], _ => rfl) ck__law_rows_left rfl rfl (He.glo_ok X G (F.fact 43 (f := .glo "_law_rows_left") rfl)) (by decide)
  have h30 : GOk (mkP fs26 ms2 cs2 icL fkL exL emL ciL) (He.ga K) 34 P w K mg base := h29.addF D29 sc__law_row_at (fun _ _ _ _ _ _ us hl => match us, hl with | [_, _, _], _ => rfl) ck__law_row_at rfl rfl (He.glo_ok X G (F.fact 44 (f := .glo "_law_row_at") rfl)) (by decide)
  have h31 : GOk (mkP fs27 ms2 cs2 icL fkL exL emL ciL) (He.ga K) 35 P w K mg base := h30.addF D30 sc__law_take (fun _ _ _ _ _ _ us hl => match us, hl with | [_, _], _ => rfl) ck__law_take rfl rfl (He.glo_ok X G (F.fact 45 (f := .glo "_law_take") rfl)) (by decide)
  have h32 : GOk (mkP fs28 ms2 cs2 icL fkL exL emL ciL) (He.ga K) 36 P w K mg base := h31.addF D31 sc__law_great_places (fun _ _ _ _ _ _ us hl => match us, hl with | [_], _ => rfl) ck__law_great_places rfl rfl (He.glo_ok X G (F.fact 46 (f := .glo "_law_great_places") rfl)) (by decide)
  have h33 : GOk (mkP fs29 ms2 cs2 icL fkL exL emL ciL) (He.ga K) 37 P w K mg base := h32.addF D32 sc_all_patterns (fun _ _ _ _ _ _ us hl => match us, hl with | [_, _], _ => rfl) ck_all_patterns rfl rfl (He.glo_ok X G (F.fact 47 (f := .glo "all_patterns") rfl)) (by decide)
  have h34 : GOk (mkP fs30 ms2 cs2 icL fkL exL emL ciL) (He.ga K) 38 P w K mg base := h33.addF D33 sc__law_long_list (fun _ _ _ _ _ _ us hl => match us, hl with | [_], _ => rfl) ck__law_long_list rfl rfl (He.glo_ok X G (F.fact 48 (f := .glo "_law_long_list") rfl)) (by decide)
  have h35 : GOk (mkP fs31 ms2 cs2 icL fkL exL emL ciL) (He.ga K) 39 P w K mg base := h34.addF D34 sc__law_list_refused (fun _ _ _ _ _ _ us hl => match us, hl with | [_, _], _ => rfl) ck__law_list_refused rfl rfl (He.glo_ok X G (F.fact 49 (f := .glo "_law_list_refused") rfl)) (by decide)
  have h36 : GOk (mkP fs32 ms2 cs2 icL fkL exL emL ciL) (He.ga K) 40 P w K mg base := h35.addF D35 sc__law_refusals (fun _ _ _ _ _ _ us hl => match us, hl with | [_, _, _, _], _ => rfl) ck__law_refusals rfl rfl (He.glo_ok X G (F.fact 50 (f := .glo "_law_refusals") rfl)) (by decide)
  have h37 : GOk (mkP fs33 ms2 cs2 icL fkL exL emL ciL) (He.ga K) 41 P w K mg base := h36.addF D36 sc__law_not_single (fun _ _ _ _ _ _ us hl => match us, hl with | [], _ => rfl) ck__law_not_single rfl rfl (He.glo_ok X G (F.fact 51 (f := .glo "_law_not_single") rfl)) (by decide)
  have h38 : GOk (mkP fs34 ms2 cs2 icL fkL exL emL ciL) (He.ga K) 42 P w K mg base := h37.addF D37 sc__law_listed (fun _ _ _ _ _ _ us hl => match us, hl with | [_, _], _ => rfl) ck__law_listed rfl rfl (He.glo_ok X G (F.fact 52 (f := .glo "_law_listed") rfl)) (by decide)
  have h39 : GOk (mkP fs35 ms2 cs2 icL fkL exL emL ciL) (He.ga K) 43 P w K mg base := h38.addF D38 sc__law_place_due (fun _ _ _ _ _ _ us hl => match us, hl with | [_, _], _ => rfl) ck__law_place_due rfl rfl (He.glo_ok X G (F.fact 53 (f := .glo "_law_place_due") rfl)) (by decide)
  have h40 : GOk (mkP fs36 ms2 cs2 icL fkL exL emL ciL) (He.ga K) 44 P w K mg base := h39.addF D39 sc__law_flat (fun _ _ _ _ _ _ us hl => match us, hl with | [_], _ => rfl) ck__law_flat rfl rfl (He.glo_ok X G (F.fact 54 (f := .glo "_law_flat") rfl)) (by decide)
  have h41 : GOk (mkP fs37 ms2 cs2 icL fkL exL emL ciL) (He.ga K) 45 P w K mg base := h40.addF D40 sc__law_pattern (fun _ _ _ _ _ _ us hl => match us, hl with | [_, _, _], _ => rfl) ck__law_pattern rfl rfl (He.glo_ok X G (F.fact 55 (f := .glo "_law_pattern") rfl)) (by decide)
  have h42 : GOk (mkP fs38 ms2 cs2 icL fkL exL emL ciL) (He.ga K) 46 P w K mg base := h41.addF D41 sc__law_draws (fun _ _ _ _ _ _ us hl => match us, hl with | [_], _ => rfl) ck__law_draws rfl rfl (He.glo_ok X G (F.fact 56 (f := .glo "_law_draws") rfl)) (by decide)
  exact fn_ok D42 sc_law h42 (fun f hf => lk_some hf) (fun q hq => el_ok rfl q hq) ck_law (by decide)
end
theorem law_all {P : Program} {w : World} {K : PySem.W.Frag} {mg : Str → Option Value} {h : Heap} {f : Addr} (X : K.In h) (G : h.Ns mainGlobals mg) (hfa : mg ("law" : Str) = some (.ref f)) (c : SaysP faL fnL fcL exK K) :
    ∃ fd : FuncData, (∀ (s : Shared) (v : Value), BindsTo s fd ⟨[v], []⟩ [("script", v)]) ∧ noLst K = true ∧ ∀ base : Heap, FnOk P w K mg base CX0 47 f fd ["script"] (fun vs H Q _ => spOf K (He.ga K) (mkP fs38 ms2 cs2 icL fkL exL emL ciL) s_law vs H Q E0) := by
  have F : He.SaysD faL fnL K := c.d
  obtain ⟨fd, D, hF⟩ := law_fn (P := P) (w := w) X G c
  have e := hfa.symm.trans (He.glo_ok X G (F.fact 57 (f := .glo "law") rfl))
  cases e
  have b := FunD.bindsA (ps := ["script"]) D fun _ _ _ _ _ _ us hl => match us, hl with | [_], _ => rfl
  exact ⟨fd, fun s v => b s [v] rfl, (and2 (and2 c.more).2).1, fun base => quiet (hF base)⟩
end Pf

namespace Pf
open PySem PySem.Spec PyProof.Rows L2
theorem libG {fs : List (String × FSp)} {ms cs : List ((String × String) × FSp)} : LibG (mkP fs ms cs icL fkL exL emL ciL) := ⟨rfl, rfl, rfl, rfl, rfl, fok_of (by decide), fok_of (by decide), fok_of (by decide), fok_of (by decide), fok_of (by decide), fok_of (by decide), fok_of (by decide)⟩
theorem libR {fs : List (String × FSp)} {ms cs : List ((String × String) × FSp)} : LibR (mkP fs ms cs icL fkL exL emL ciL) := ⟨rfl, rfl⟩
theorem w_law_whole : SpWhole s__law_whole := L_law_whole
theorem w_came : SpCame s__came_counts := L_came
theorem w_wrong : SpWrong s__wrong_residue := L_wrong libG rfl w_came
theorem w_is_whole : SpWhole s_is_whole := L_is_whole
theorem w_is_row : SpRow s_is_row := L_is_row
theorem w_check : SpCheck s_check_whole := L_check libG rfl w_is_whole
theorem w_spot : SpSpot s_spot_row := L_spot libG rfl w_is_whole rfl w_is_row rfl w_check
theorem w_full : SpFull s_full_rows := L_full libG rfl w_is_row rfl w_spot
theorem w_Pat : SpPat s_Pattern_init := L_Pat libG rfl w_full rfl w_wrong
theorem w_Line : SpLine s_Line_init := L_Line libG rfl w_is_whole rfl w_is_row
theorem w_LineS : SpLineS s_Line_single := L_LineS rfl w_check rfl w_Line
theorem w_PatS : SpPatS s_Pattern_single := L_PatS libG rfl w_is_row rfl w_LineS rfl w_Pat
theorem w_hts : SpHts s__single_heights := L_hts libG
theorem w_take : SpTake s__law_take := L_take
theorem w_draws : SpDraws s__law_draws := L_draws
theorem w_ck : SpCk s__check_overtakings := L_ck libG libR rfl w_is_whole rfl w_is_row rfl w_check
theorem w_height : SpHf s__height_from := L_height
theorem w_pb : SpPb s_pattern_by s__check_overtakings := L_pb libR rfl w_ck rfl w_PatS rfl w_height
theorem w_lov : SpLov s__law_overtakings := L_lov
theorem w_flat : SpFlat s__law_flat := L_flat
theorem w_lawpat : SpLawPat s__law_pattern := L_lawpat rfl w_take
theorem w_orow : SpORow s__overtaking_row := L_orow libG rfl w_hts
theorem w_ovs : SpOvs s_overtakings := L_otakings rfl w_orow
theorem w_orow_no : SpNoS s__overtaking_row := L_orow_no rfl w_hts
theorem w_ovs_no : SpNoS s_overtakings := L_ovs_no rfl w_orow_no
theorem w_all : SpAll s__all_times := L_all
theorem w_pow : SpPow s__power_of := L_pow rfl w_all
theorem w_rc : SpRC s__row_counts := L_rc rfl w_pow
theorem w_many : SpMany s_how_many := L_many rfl w_check rfl w_pow
theorem w_nth : SpNth s_nth := L_nth libG rfl w_check rfl w_rc rfl w_many rfl w_pb
theorem w_place : SpPlace s_place_of := L_place libG rfl w_rc rfl w_ovs w_ovs_no
theorem w_allP : SpAllP s_all_patterns := L_allP rfl rfl w_many rfl w_nth
theorem w_lpow : SpLPow s__law_power := L_lpow
local macro_rules
  | `(tactic| infer_instance) => `(tactic| first
    | rfl
    | assumption
    | exact fz_lst_ints _
    | exact fz_tup_ints _
    | exact fz_rowT _
    | exact fz_rowsT _
    | exact fz_pa _ _
    | exact fz_li _
    | exact fz_lst_true _
    | (simp only [fz, fzs, Bool.and_true, fz_lst_ints, fz_tup_ints]; done))
local macro_rules
  | `(tactic| and_intros) => `(tactic| repeat' first
    | (show As _ _ _ _ _; with_reducible assumption)
    | exact as_i
    | exact as_s
    | exact as_n
    | exact as_b
    | exact as_v rfl (by infer_instance)
    | exact as_ff rfl (by infer_instance)
    | exact as_fr rfl (frz_li _)
    | exact as_fr rfl (frz_sgD _ _)
    | exact as_fr rfl (frz_pa _ _ _)
    | exact as_fr rfl (lstR_frz _)
    | exact as_fr rfl (by assumption)
    | exact as_leno rfl
    | exact as_sumo rfl
    | exact as_sortedo rfl
    | exact as_tupleo rfl (by infer_instance)
    | exact as_listo rfl (by infer_instance)
    | exact asr_0
    | exact asv_0
    | apply as_ntF
    | apply as_ntT
    | apply as_orF
    | apply as_andT
    | apply as_bop1
    | apply as_eqT'
    | apply as_eqF'
    | apply as_nePSx
    | apply as_neSx
    | apply as_eqSx
    | apply as_nePx
    | apply as_neT'
    | apply as_neF'
    | apply as_ltT'
    | apply as_ltF'
    | apply as_leT'
    | apply as_leF'
    | apply as_gtT'
    | apply as_gtF'
    | apply as_geT'
    | apply as_geF'
    | apply as_isT
    | apply as_isF
    | apply as_isnF
    | apply as_isnT
    | apply as_addLl
    | apply as_add
    | apply as_sub
    | apply as_modL
    | apply as_fdivL
    | apply as_mulX
    | apply as_neg
    | apply as_int1
    | (apply as_idxo; (· rfl))
    | apply as_idx
    | apply as_len
    | apply as_sum
    | apply as_sorted
    | apply as_list
    | apply as_tuple
    | apply as_tup
    | apply as_lst
    | (apply as_isioB; (· rfl); (· first | rfl | exact fz_lst_true _))
    | apply as_isiB
    | apply asv_c
    | (apply asr_o; (· rfl); (· first | rfl | exact fz_lst_true _))
    | apply asr_c
    | apply as_iscT
    | apply as_fld
    | apply as_meth
    | apply as_call
    | apply as_cm
    | apply as_new
    | (apply as_newv; (· rfl))
    | (show Ret _ _ _ _; with_reducible assumption)
    | (show Gb.fns _ _ = _; rfl)
    | (show Gb.cmt _ _ _ = _; rfl)
    | (show Gb.mth _ _ _ = _; rfl)
    | (show itms _ = some _; first | rfl | assumption)
    | (show Option.join _ = some _; rfl)
    | (show takeA _ _ = _; rfl)
    | (show putA _ _ _ = _; rfl)
    | (show PyData.strOk _ = true; decide +kernel)
    | (show isiT _ = true; rfl)
    | (show Gb.fok _ _ _ = true; exact fok_of (by decide))
    | (show Gb.isc _ _ = true; exact isc_of (by decide))
    | (show List.contains _ _ = false; decide)
    | (show List.lookup _ _ = some _; rfl)
    | (show List.any _ _ = _; rfl)
    | (show atI _ _ = _; with_reducible assumption)
    | (show (0 : Int) < _; omega)
    | (show isNon _ = false; rfl)
    | (show fz _ = true; infer_instance)
    | (show fz _ = false; infer_instance)
    | (show fzs _ = true; infer_instance))

theorem w_rl {P l : Nat} {z : Bool} (hP : P ≤ 1000) (hl : l ≤ 1000) : Ret s__law_rows_left [.int P, .int l, .bl z] (.int (cnt P z l : Nat)) [some (.int P), some (.int l), some (.bl z)] := by
  intro q x h
  have m1 := w_lpow (P + 1) l (by omega) (by omega)
  have m2 := w_lpow P l (by omega) (by omega)
  have e1 : ((P + 1 : Nat) : Int) = (P : Int) + 1 := by push_cast; rfl
  rw [e1] at m1
  refine ⟨rfl, ?_⟩
  unfold m__law_rows_left
  simp only [List.map_cons, List.map_nil, List.cons_append, List.nil_append, Nat.reduceSub, List.replicate]
  apply r_asg
  · and_intros
  try dsimp only [putA, List.set_cons_succ, List.set_cons_zero]
  cases z with
  | true =>
    refine r_ifT (as_v rfl rfl) ?_
    refine r_retf rfl rfl ?_
    rw [cnt_t] at h
    push_cast at h
    exact h
  | false =>
    refine r_ifF (as_v rfl rfl) ?_
    apply r_ret rfl
    · and_intros
    rw [cnt_int] at h
    exact h
theorem pre_0 (P l : Nat) (z : Bool) : pre P z l 0 = 0 := by
  unfold pre
  split
  · rw [Nat.zero_mul]
  · rw [if_pos rfl]
theorem pre_succ (P l k : Nat) (z : Bool) : pre P z l (k + 1) = pre P z l k + cnt P (z || k == 0) l := by
  unfold pre
  cases z with
  | true => rw [if_pos rfl, if_pos rfl, Nat.add_mul, Nat.one_mul]; rfl
  | false =>
    rw [if_neg Bool.false_ne_true, if_neg Bool.false_ne_true, if_neg (by omega)]
    cases k with
    | zero => rw [if_pos rfl]; simp [cnt_t]
    | succ k => rw [if_neg (by omega), show k + 1 + 1 - 1 = k + 1 by omega, show k + 1 - 1 = k by omega, Nat.add_mul, Nat.one_mul, Nat.add_assoc]; rfl
theorem pre_mono (P l : Nat) (z : Bool) {k c : Nat} (h : k ≤ c) : pre P z l k ≤ pre P z l c := by
  induction c with
  | zero => rw [show k = 0 by omega]; exact Nat.le_refl _
  | succ c ih =>
    by_cases e : k = c + 1
    · rw [e]; exact Nat.le_refl _
    · have := ih (by omega)
      rw [pre_succ]
      omega
theorem beq_dec (k : Nat) : (k == 0) = decide ((k : Int) = 0) := by
  rw [Bool.eq_iff_iff, decide_eq_true_eq, beq_iff_eq]
  omega
theorem w_due {P : Nat} {a : List Nat} {N0 N : D} (h0 : frz N0 = N) (hA : RowD a N) (hP : P ≤ 1000) (hl : a.length ≤ 1000) (hle : ∀ c ∈ a, c ≤ P) : Ret s__law_place_due [.int P, N0] (.int (rankOf P false a : Nat)) [some (.int P), some N] := by
  intro q x h
  have zN := hA.fz
  have iN := hA.it
  have lI : ((rI a).map D.int).length = a.length := by rw [List.length_map, rI_len]
  refine ⟨rfl, ?_⟩
  unfold m__law_place_due
  simp only [List.map_cons, List.map_nil, List.cons_append, List.nil_append, Nat.reduceSub, List.replicate]
  apply r_asg
  · and_intros
  apply r_asg
  · and_intros
  try dsimp only [putA, List.set_cons_succ, List.set_cons_zero]
  apply r_for
  · apply ass_rg1L a.length
    · and_intros
    · rw [lI]
    · omega
  try dsimp only [putA, List.set_cons_succ, List.set_cons_zero]
  refine fr_rg (fun s en => s ≤ a.length ∧ ∃ (acc : Nat) (y4 y5 : Option D), acc + rankOf P (decide (0 ∈ a.take s)) (a.drop s) = rankOf P false a ∧ en = [some (.int P), some N, some (.int (acc : Int)), some (.bl (decide (0 ∈ a.take s))), y4, y5]) ?_ ?_ ⟨Nat.zero_le _, 0, none, none, by simp, by simp⟩
  · rintro s en K hs' ⟨_, acc, y4, y5, he, rfl⟩ hK
    try dsimp only [putA, List.set_cons_succ, List.set_cons_zero]
    have at1 : atI ((rI a).map D.int) (s : Int) = some (.int (a[s] : Int)) := rI_at hs'
    have hca := hle _ (List.getElem_mem hs')
    rw [List.drop_eq_getElem_cons hs', rankOf, List.length_drop] at he
    have et : decide (0 ∈ a.take (s + 1)) = (decide (0 ∈ a.take s) || a[s] == 0) := by rw [take_succ' hs', dec_app]
    generalize hz : decide (0 ∈ a.take s) = z at he et
    apply r_for
    · apply ass_rg1L a[s]
      · and_intros
      · rfl
      · omega
    refine fr_rg (fun k en => k ≤ a[s] ∧ ∃ (y5 : Option D), en = [some (.int P), some N, some (.int ((acc + pre P z (a.length - (s + 1)) k : Nat) : Int)), some (.bl z), some (.int (s : Int)), y5]) ?_ ?_ ⟨Nat.zero_le _, y5, by rw [pre_0, Nat.add_zero]⟩
    · rintro k en K2 hk ⟨_, y5, rfl⟩ hK2
      try dsimp only [putA, List.set_cons_succ, List.set_cons_zero]
      have m1 := w_rl (P := P) (l := a.length - (s + 1)) (z := z || k == 0) hP (by omega)
      refine r_augV rfl (as_call rfl (asr_c (as_v rfl rfl) (asr_c (as_castL (as_sub (as_sub (as_len (as_ff rfl zN) iN) (as_v rfl rfl)) as_i) (y := ((a.length - (s + 1) : Nat) : Int)) (by rw [lI]; omega)) (asr_c (as_castb (as_orV (as_v rfl rfl) fun _ => as_bop1 (as_eqI (as_v rfl rfl) as_i)) (by rw [beq_dec])) asr_0))) rfl m1 rfl) rfl ?_
      rw [runs_0]
      try dsimp only [putA, List.set_cons_succ, List.set_cons_zero]
      rw [show ((acc + pre P z (a.length - (s + 1)) k : Nat) : Int) + ((cnt P (z || k == 0) (a.length - (s + 1)) : Nat) : Int) = ((acc + pre P z (a.length - (s + 1)) (k + 1) : Nat) : Int) by rw [pre_succ]; push_cast; omega]
      exact hK2 _ ⟨hk, _, rfl⟩
    · rintro en ⟨_, y5, rfl⟩
      by_cases hc : a[s] = 0
      · apply r_ifT
        · and_intros
          omega
        refine r_asg as_b ?_
        rw [runs_0]
        try dsimp only [putA, List.set_cons_succ, List.set_cons_zero]
        rw [runs_0]
        refine hK _ ⟨hs', acc + pre P z (a.length - (s + 1)) a[s], some (.int (s : Int)), y5, ?_, ?_⟩
        · rw [et, ← he]
          omega
        · rw [et, hc]
          simp
      · apply r_ifF
        · and_intros
          omega
        rw [runs_0]
        refine hK _ ⟨hs', _, _, _, ?_, by rw [et, show (a[s] == 0) = false from beq_eq_false_iff_ne.mpr hc, Bool.or_false]⟩
        rw [et, ← he]
        omega
  · rintro en ⟨_, acc, y4, y5, he, rfl⟩
    rw [List.drop_length, rankOf, Nat.add_zero] at he
    refine r_retf rfl rfl ?_
    rw [he]
    exact h
end Pf

namespace Pf
open PySem PySem.Spec PyProof.Rows L2
local macro_rules
  | `(tactic| infer_instance) => `(tactic| first
    | rfl
    | assumption
    | exact fz_lst_ints _
    | exact fz_tup_ints _
    | exact fz_rowT _
    | exact fz_rowsT _
    | exact fz_pa _ _
    | exact fz_li _
    | exact fz_lst_true _
    | (simp only [fz, fzs, Bool.and_true, fz_lst_ints, fz_tup_ints]; done))
local macro_rules
  | `(tactic| and_intros) => `(tactic| repeat' first
    | (show As _ _ _ _ _; with_reducible assumption)
    | exact as_i
    | exact as_s
    | exact as_n
    | exact as_b
    | exact as_v rfl (by infer_instance)
    | exact as_ff rfl (by infer_instance)
    | exact as_fr rfl (frz_li _)
    | exact as_fr rfl (frz_sgD _ _)
    | exact as_fr rfl (frz_pa _ _ _)
    | exact as_fr rfl (lstR_frz _)
    | exact as_fr rfl (by assumption)
    | exact as_leno rfl
    | exact as_sumo rfl
    | exact as_sortedo rfl
    | exact as_tupleo rfl (by infer_instance)
    | exact as_listo rfl (by infer_instance)
    | exact asr_0
    | exact asv_0
    | apply as_ntF
    | apply as_ntT
    | apply as_orF
    | apply as_andT
    | apply as_bop1
    | apply as_eqT'
    | apply as_eqF'
    | apply as_nePSx
    | apply as_neSx
    | apply as_eqSx
    | apply as_nePx
    | apply as_neT'
    | apply as_neF'
    | apply as_ltT'
    | apply as_ltF'
    | apply as_leT'
    | apply as_leF'
    | apply as_gtT'
    | apply as_gtF'
    | apply as_geT'
    | apply as_geF'
    | apply as_isT
    | apply as_isF
    | apply as_isnF
    | apply as_isnT
    | apply as_addLl
    | apply as_add
    | apply as_sub
    | apply as_modL
    | apply as_fdivL
    | apply as_mulX
    | apply as_neg
    | apply as_int1
    | (apply as_idxo; (· rfl))
    | apply as_idx
    | apply as_len
    | apply as_sum
    | apply as_sorted
    | apply as_list
    | apply as_tuple
    | apply as_tup
    | apply as_lst
    | (apply as_isioB; (· rfl); (· first | rfl | exact fz_lst_true _))
    | apply as_isiB
    | apply asv_c
    | (apply asr_o; (· rfl); (· first | rfl | exact fz_lst_true _))
    | apply asr_c
    | apply as_iscT
    | apply as_fld
    | apply as_meth
    | apply as_call
    | apply as_cm
    | apply as_new
    | (apply as_newv; (· rfl))
    | (show Ret _ _ _ _; with_reducible assumption)
    | (show Gb.fns _ _ = _; rfl)
    | (show Gb.cmt _ _ _ = _; rfl)
    | (show Gb.mth _ _ _ = _; rfl)
    | (show itms _ = some _; first | rfl | assumption)
    | (show Option.join _ = some _; rfl)
    | (show takeA _ _ = _; rfl)
    | (show putA _ _ _ = _; rfl)
    | (show PyData.strOk _ = true; decide +kernel)
    | (show isiT _ = true; rfl)
    | (show Gb.fok _ _ _ = true; exact fok_of (by decide))
    | (show Gb.isc _ _ = true; exact isc_of (by decide))
    | (show List.contains _ _ = false; decide)
    | (show List.lookup _ _ = some _; rfl)
    | (show List.any _ _ = _; rfl)
    | (show atI _ _ = _; with_reducible assumption)
    | (show (0 : Int) < _; omega)
    | (show isNon _ = false; rfl)
    | (show fz _ = true; infer_instance)
    | (show fz _ = false; infer_instance)
    | (show fzs _ = true; infer_instance))

/-! ### the law's row at a place -/
theorem w_rowat {n P pl : Nat} (hn : n ≤ 200) (hP : P ≤ 1000) (hpl : pl < cnt P false n) : Ret s__law_row_at [.int n, .int P, .int pl] (.lst true ((rI (rowAt P n false pl)).map .int)) [some (.int n), some (.int P), some (.int pl)] := by
  intro q x h
  refine ⟨rfl, ?_⟩
  unfold m__law_row_at
  simp only [List.map_cons, List.map_nil, List.cons_append, List.nil_append, Nat.reduceSub, List.replicate]
  apply r_asg
  · and_intros
  apply r_asg
  · and_intros
  apply r_asg
  · and_intros
  try dsimp only [putA, List.set_cons_succ, List.set_cons_zero]
  refine r_for (ass_rg1 (n := n) (by omega) (as_v rfl rfl)) ?_
  refine fr_rg (fun s en => s ≤ n ∧ ∃ (r : List Nat) (left : Nat) (y6 y7 y8 y9 y10 : Option D), r.length = s ∧ left < cnt P (decide (0 ∈ r)) (n - s) ∧ r ++ rowAt P (n - s) (decide (0 ∈ r)) left = rowAt P n false pl ∧ en = [some (.int (n : Int)), some (.int (P : Int)), some (.int (pl : Int)), some (.lst true ((rI r).map .int)), some (.bl (decide (0 ∈ r))), some (.int (left : Int)), y6, y7, y8, y9, y10]) ?_ ?_ ⟨Nat.zero_le _, [], pl, none, none, none, none, none, rfl, hpl, rfl, rfl⟩
  · rintro s en K hs ⟨_, r, left, y6, y7, y8, y9, y10, hr, hl, he, rfl⟩ hK
    try dsimp only [putA, List.set_cons_succ, List.set_cons_zero]
    have dl := dig_lt (l := n - (s + 1)) (left := left) (z := decide (0 ∈ r)) (by rw [show n - (s + 1) + 1 = n - s by omega]; exact hl)
    have dp := dig_pre (P := P) (l := n - (s + 1)) (left := left) (z := decide (0 ∈ r))
    have ed : decide (0 ∈ r ++ [(dig P (decide (0 ∈ r)) (n - (s + 1)) left).1]) = (decide (0 ∈ r) || (dig P (decide (0 ∈ r)) (n - (s + 1)) left).1 == 0) := dec_app _ _
    have he' : (r ++ [(dig P (decide (0 ∈ r)) (n - (s + 1)) left).1]) ++ rowAt P (n - (s + 1)) (decide (0 ∈ r) || (dig P (decide (0 ∈ r)) (n - (s + 1)) left).1 == 0) (dig P (decide (0 ∈ r)) (n - (s + 1)) left).2 = rowAt P n false pl := by
      rw [← he, List.append_assoc, show n - s = n - (s + 1) + 1 by omega, rowAt]
      rfl
    generalize (dig P (decide (0 ∈ r)) (n - (s + 1)) left).1 = c at dl dp ed he'
    generalize (dig P (decide (0 ∈ r)) (n - (s + 1)) left).2 = left' at dl dp he'
    generalize hz : decide (0 ∈ r) = z at dl dp ed he'
    apply r_asg
    · and_intros
    apply r_asg
    · and_intros
    try dsimp only [putA, List.set_cons_succ, List.set_cons_zero]
    apply r_for
    · apply ass_rg1L (P + 1)
      · and_intros
      · push_cast; rfl
      · omega
    refine fr_rg (fun k en => k ≤ P + 1 ∧ ∃ (y9 y10 : Option D), en = [some (.int (n : Int)), some (.int (P : Int)), some (.int (pl : Int)), some (.lst true ((rI r).map .int)), some (.bl z), some (.int (if c < k then (left' : Int) else ((left - pre P z (n - (s + 1)) k : Nat) : Int))), some (.int (s : Int)), some (.int (if c < k then (c : Int) else (P : Int))), some (.bl (decide (c < k))), y9, y10]) ?_ ?_ ⟨Nat.zero_le _, y9, y10, by rw [if_neg (by omega), if_neg (by omega), pre_0, decide_eq_false (by omega)]; rfl⟩
    · rintro k en K2 hk ⟨_, y9, y10, rfl⟩ hK2
      try dsimp only [putA, List.set_cons_succ, List.set_cons_zero]
      have m1 := w_rl (P := P) (l := n - (s + 1)) (z := z || k == 0) hP (by omega)
      refine r_asg (as_call rfl (asr_c (as_v rfl rfl) (asr_c (as_castL (as_sub (as_sub (as_v rfl rfl) (as_v rfl rfl)) as_i) (y := ((n - (s + 1) : Nat) : Int)) (by omega)) (asr_c (as_castb (as_orV (as_v rfl rfl) fun _ => as_bop1 (as_eqI (as_v rfl rfl) as_i)) (by rw [beq_dec])) asr_0))) rfl m1 rfl) ?_
      try dsimp only [putA, List.set_cons_succ, List.set_cons_zero]
      rcases Nat.lt_trichotomy k c with hkc | hkc | hkc
      · rw [if_neg (by omega), if_neg (by omega), decide_eq_false (by omega)]
        have p1 := pre_succ P (n - (s + 1)) k z
        have p2 := pre_mono P (n - (s + 1)) z (show k + 1 ≤ c by omega)
        apply r_ifE
        · apply as_andF2
          · and_intros
          · and_intros
            omega
        apply r_ifT
        · and_intros
        refine r_augS rfl (as_v rfl rfl) rfl ?_
        rw [runs_0]
        try dsimp only [putA, List.set_cons_succ, List.set_cons_zero]
        rw [runs_0]
        try dsimp only [putA, List.set_cons_succ, List.set_cons_zero]
        rw [runs_0]
        refine hK2 _ ⟨by omega, some (.int (k : Int)), some (.int ((cnt P (z || k == 0) (n - (s + 1)) : Nat) : Int)), ?_⟩
        rw [if_neg (by omega), if_neg (by omega), decide_eq_false (by omega)]
        rw [show ((left - pre P z (n - (s + 1)) k : Nat) : Int) - ((cnt P (z || k == 0) (n - (s + 1)) : Nat) : Int) = ((left - pre P z (n - (s + 1)) (k + 1) : Nat) : Int) by omega]
      · subst hkc
        rw [if_neg (by omega), if_neg (by omega), decide_eq_false (by omega)]
        apply r_ifT
        · and_intros
          omega
        refine r_asg (as_v rfl rfl) ?_
        refine r_asg as_b ?_
        rw [runs_0]
        try dsimp only [putA, List.set_cons_succ, List.set_cons_zero]
        rw [runs_0]
        refine hK2 _ ⟨by omega, some (.int (k : Int)), some (.int ((cnt P (z || k == 0) (n - (s + 1)) : Nat) : Int)), ?_⟩
        rw [if_pos (by omega), if_pos (by omega), decide_eq_true (by omega)]
        rw [show ((left - pre P z (n - (s + 1)) k : Nat) : Int) = (left' : Int) by omega]
      · rw [if_pos (by omega), if_pos (by omega), decide_eq_true (by omega)]
        apply r_ifE
        · apply as_andF1
          and_intros
        apply r_ifF
        · and_intros
        rw [runs_0]
        try dsimp only [putA, List.set_cons_succ, List.set_cons_zero]
        rw [runs_0]
        refine hK2 _ ⟨by omega, some (.int (k : Int)), some (.int ((cnt P (z || k == 0) (n - (s + 1)) : Nat) : Int)), ?_⟩
        rw [if_pos (by omega), if_pos (by omega), decide_eq_true (by omega)]
    · rintro en ⟨_, y9, y10, rfl⟩
      rw [if_pos (by omega), if_pos (by omega), decide_eq_true (by omega)]
      apply r_app
      · rfl
      · and_intros
      · rfl
      · rw [List.length_map, rI_len]; omega
      try dsimp only [putA, List.set_cons_succ, List.set_cons_zero]
      rw [rI_app]
      by_cases hc : c = 0
      · apply r_ifT
        · and_intros
          omega
        refine r_asg as_b ?_
        rw [runs_0]
        try dsimp only [putA, List.set_cons_succ, List.set_cons_zero]
        rw [runs_0]
        rw [show D.bl true = D.bl (decide (0 ∈ r ++ [c])) by rw [ed, hc]; simp]
        exact hK _ ⟨hs, r ++ [c], left', _, _, _, _, _, by rw [List.length_append, hr]; rfl, by rw [ed]; exact dl.2, by rw [ed]; exact he', rfl⟩
      · apply r_ifF
        · and_intros
          omega
        rw [runs_0]
        rw [show D.bl z = D.bl (decide (0 ∈ r ++ [c])) by rw [ed, show (c == 0) = false from beq_eq_false_iff_ne.mpr hc, Bool.or_false]]
        exact hK _ ⟨hs, r ++ [c], left', _, _, _, _, _, by rw [List.length_append, hr]; rfl, by rw [ed]; exact dl.2, by rw [ed]; exact he', rfl⟩
  · rintro en ⟨_, r, left, y6, y7, y8, y9, y10, hr, hl, he, rfl⟩
    rw [Nat.sub_self] at he
    rw [rowAt, List.append_nil] at he
    subst he
    refine r_retv rfl ?_
    rw [if_neg (by simp)]
    exact h
end Pf

namespace Pf
open PySem PySem.Spec PyProof.Rows L2
local macro_rules
  | `(tactic| infer_instance) => `(tactic| first
    | rfl
    | assumption
    | exact fz_lst_ints _
    | exact fz_tup_ints _
    | exact fz_rowT _
    | exact fz_rowsT _
    | exact fz_pa _ _
    | exact fz_li _
    | exact fz_lst_true _
    | (simp only [fz, fzs, Bool.and_true, fz_lst_ints, fz_tup_ints]; done))
local macro_rules
  | `(tactic| and_intros) => `(tactic| repeat' first
    | (show As _ _ _ _ _; with_reducible assumption)
    | exact as_i
    | exact as_s
    | exact as_n
    | exact as_b
    | exact as_v rfl (by infer_instance)
    | exact as_ff rfl (by infer_instance)
    | exact as_fr rfl (frz_li _)
    | exact as_fr rfl (frz_sgD _ _)
    | exact as_fr rfl (frz_pa _ _ _)
    | exact as_fr rfl (lstR_frz _)
    | exact as_fr rfl (by assumption)
    | exact as_leno rfl
    | exact as_sumo rfl
    | exact as_sortedo rfl
    | exact as_tupleo rfl (by infer_instance)
    | exact as_listo rfl (by infer_instance)
    | exact asr_0
    | exact asv_0
    | apply as_ntF
    | apply as_ntT
    | apply as_orF
    | apply as_andT
    | apply as_bop1
    | apply as_eqT'
    | apply as_eqF'
    | apply as_nePSx
    | apply as_neSx
    | apply as_eqSx
    | apply as_nePx
    | apply as_neT'
    | apply as_neF'
    | apply as_ltT'
    | apply as_ltF'
    | apply as_leT'
    | apply as_leF'
    | apply as_gtT'
    | apply as_gtF'
    | apply as_geT'
    | apply as_geF'
    | apply as_isT
    | apply as_isF
    | apply as_isnF
    | apply as_isnT
    | apply as_addLl
    | apply as_add
    | apply as_sub
    | apply as_modL
    | apply as_fdivL
    | apply as_mulX
    | apply as_neg
    | apply as_int1
    | (apply as_idxo; (· rfl))
    | apply as_idx
    | apply as_len
    | apply as_sum
    | apply as_sorted
    | apply as_list
    | apply as_tuple
    | apply as_tup
    | apply as_lst
    | (apply as_isioB; (· rfl); (· first | rfl | exact fz_lst_true _))
    | apply as_isiB
    | apply asv_c
    | (apply asr_o; (· rfl); (· first | rfl | exact fz_lst_true _))
    | apply asr_c
    | apply as_iscT
    | apply as_fld
    | apply as_meth
    | apply as_call
    | apply as_cm
    | apply as_new
    | (apply as_newv; (· rfl))
    | (show Ret _ _ _ _; with_reducible assumption)
    | (show Gb.fns _ _ = _; rfl)
    | (show Gb.cmt _ _ _ = _; rfl)
    | (show Gb.mth _ _ _ = _; rfl)
    | (show itms _ = some _; first | rfl | assumption)
    | (show Option.join _ = some _; rfl)
    | (show takeA _ _ = _; rfl)
    | (show putA _ _ _ = _; rfl)
    | (show PyData.strOk _ = true; decide +kernel)
    | (show isiT _ = true; rfl)
    | (show Gb.fok _ _ _ = true; exact fok_of (by decide))
    | (show Gb.isc _ _ = true; exact isc_of (by decide))
    | (show List.contains _ _ = false; decide)
    | (show List.lookup _ _ = some _; rfl)
    | (show List.any _ _ = _; rfl)
    | (show atI _ _ = _; with_reducible assumption)
    | (show (0 : Int) < _; omega)
    | (show isNon _ = false; rfl)
    | (show fz _ = true; infer_instance)
    | (show fz _ = false; infer_instance)
    | (show fzs _ = true; infer_instance))

theorem sort_nxt {hs : List Nat} (h : Inj (nxt hs) hs.length) : sortI ((List.range' 0 hs.length).map fun i : Nat => ((nxt hs i : Nat) : Int)) = rI (List.range' 0 hs.length) := by
  have e1 : ((List.range' 0 hs.length).map fun i : Nat => ((nxt hs i : Nat) : Int)) = rI ((List.range' 0 hs.length).map (nxt hs)) := by unfold rI; rw [List.map_map]; rfl
  have hp : (rI ((List.range' 0 hs.length).map (nxt hs))).Perm (rI (List.range' 0 hs.length)) := (inj_perm h).map _
  rw [e1, sortI_congr hp, sort_isrt, isrt_of]
  exact List.pairwise_le_range' ..
theorem ones_ (n : Nat) {G : Gb} {j : Nat} {a : E} {en en1 : En} (hn : n ≤ 1000) (ha : As G a (.int (n : Int)) en en1) : As G (.lc [j] (.rng (.cons a .nil)) .nil (.int 1)) (.lst true ((rI (ones n)).map .int)) en (en1.set j none) := by
  have m := as_map (G := G) (j := j) (s := .rng (.cons a .nil)) (elt := .int 1) (en := en) (en1 := en1) (xs := List.range' 0 n) (fun i : Nat => D.int (i : Int)) (fun _ => D.int 1) (ass_rg1 (n := n) (by omega) ha) (by simp; omega) fun b hb => as_i
  have e1 : ((List.range' 0 n).map fun _ : Nat => D.int 1) = (rI (ones n)).map .int := tw_rep n 1
  rw [e1] at m
  exact m
/-! ### it has the row -/
theorem has_for {P' : Pt} {G : Gb} {hs : List Nat} {ss : Ss} {T : D} {A1 A2 A3 A4 : Option D} (hz : hs.length ≤ 1000) (j1 : G.fns "_law_whole" = some s__law_whole) (h : ∀ y6, runs G ss [some T, A1, A2, A3, A4, some (.lst true ((rI hs).map .int)), y6, none, none] P') : frW [6] (fun e2 K => runs G (.cons (.iff (.bop false (.cons (.nt (.isi (.var 6) ["tuple"])) (.cons (.cmp .NotEq (.blt .len (.cons (.var 6) .nil)) (.int 1)) (.cons (.nt (.call "_law_whole" (.cons (.idx (.var 6) (.int 0)) .nil))) (.cons (.cmp .Lt (.idx (.var 6) (.int 0)) (.int 0)) .nil))))) (.cons (.ret (.bl false)) .nil) .nil) (.cons (.expr (.mut .append 5 (.cons (.idx (.var 6) (.int 0)) .nil))) .nil)) e2 { P' with nx := K, ct := K, bk := fun e => runs G ss e P' }) (fun e => runs G ss e P') ((sg hs).map rowT) [some T, A1, A2, A3, A4, some (.lst true []), none, none, none] := by
  refine fr_xs (sg hs) rowT (fun s en => s ≤ hs.length ∧ ∃ y6, en = [some T, A1, A2, A3, A4, some (.lst true ((rI (hs.take s)).map .int)), y6, none, none]) ?_ ?_ ⟨Nat.zero_le _, _, rfl⟩
  · rintro s hs1 en K ⟨_, y6, rfl⟩ hK
    have hs2 : s < hs.length := by simpa [sg] using hs1
    try dsimp only [putA, List.set_cons_succ, List.set_cons_zero]
    have er : (sg hs)[s] = [hs[s]] := by simp [sg]
    have at1 : atI ((rI [hs[s]]).map D.int) 0 = some (.int (hs[s] : Int)) := atI_ofN (i := 0) rfl
    have wl : Ret s__law_whole [.int (hs[s] : Int)] (.bl true) [some (.int (hs[s] : Int))] := w_law_whole _ rfl
    rw [er]
    apply r_ifF
    · and_intros
      · simp [rI]
      · exact j1
      · exact Int.natCast_nonneg _
    apply r_app
    · rfl
    · and_intros
    · rfl
    · rw [List.length_map, rI_len, List.length_take]; omega
    try dsimp only [putA, List.set_cons_succ, List.set_cons_zero]
    rw [runs_0, rI_app, ← take_succ' hs2]
    exact hK _ ⟨hs2, _, rfl⟩
  · rintro en ⟨_, y6, rfl⟩
    rw [show (sg hs).length = hs.length by simp [sg], List.take_length]
    exact h _
theorem w_has {n P : Nat} {a hs : List Nat} {N0 : D} (wh : Hh P a hs) (hl : a.length = n) (hz : (P + 1) * n ≤ 1000) (h0 : frz N0 = .lst false ((rI a).map .int)) : Ret s__law_has_row [sgD false hs, .int n, .int P, N0] (.bl true) [some (sgD false hs), some (.int n), some (.int P), some (.lst false ((rI a).map .int))] := by
  intro q x h
  have ln : hs.length = n := by rw [wh.ln, hl]
  have hn : 0 < n := by rw [← hl]; exact wh.w.n
  have hn2 : n ≤ 1000 := by
    have : n ≤ (P + 1) * n := Nat.le_mul_of_pos_left _ (by omega)
    omega
  have hmx : mx hs ≤ 1000 := by
    obtain ⟨M1, M2⟩ := mx_mem wh.hn
    obtain ⟨i, hi, e⟩ := List.getElem_of_mem M1
    have := hl_le wh.w (wh.hl i (by omega))
    rw [List.getD_eq_getElem?_getD, List.getElem?_eq_getElem hi, Option.getD_some, e, hl] at this
    omega
  have hov := wh.ovL
  have hlo := w_lov hs (.lst true ((rI hs).map .int)) _ wh.hn (by omega) hmx (frz_li _) (rI_row hs)
  rw [hov] at hlo
  have lS : (((sg hs).map rowT).length : Int) = n := by simp [sg, ln]
  have srt := sort_nxt wh.inj
  refine ⟨rfl, ?_⟩
  unfold m__law_has_row
  simp only [List.map_cons, List.map_nil, List.cons_append, List.nil_append, Nat.reduceSub, List.replicate]
  apply r_ifF
  · and_intros
    exact lS
  try dsimp only [putA, List.set_cons_succ, List.set_cons_zero]
  apply r_ifF
  · apply as_neTF (x := rI (ones hs.length)) (y := rI (ones n))
    · exact li_at libG (pa_line libG (as_ff rfl (fz_pa _ _)))
    · exact as_tuple (ones_ n hn2 (as_v rfl rfl)) rfl (by simp)
    · rw [ln]
  refine r_asg (as_lst asv_0) ?_
  try dsimp only [putA, List.set_cons_succ, List.set_cons_zero]
  apply r_for
  · exact ass_it (pa_rows libG (as_ff rfl (fz_pa _ _))) rfl (fzs_rowT _)
  refine has_for (by omega) rfl fun y6 => ?_
  refine r_asg (d := .lst true ((rI (List.range' 0 n)).map .int)) (as_eq (as_sorted (ns := (List.range' 0 n).map fun i : Nat => ((nxt hs i : Nat) : Int)) (as_map (xs := List.range' 0 n) (fun i : Nat => D.int (i : Int)) (fun i : Nat => D.int ((nxt hs i : Nat) : Int)) (ass_rg1 (n := n) (by omega) (as_v rfl rfl)) (by simp; omega) fun i hi => ?_) (by rw [itms, List.map_map]; rfl)) ?_) ?_
  · have hi' : i < hs.length := by have := (List.mem_range'_1.mp hi).2; omega
    try dsimp only [putA, List.set_cons_succ, List.set_cons_zero]
    apply as_castL
    · exact as_modL (as_int1 (as_add (as_v rfl rfl) (as_idxo rfl (as_v rfl rfl) rfl (hx_at0 hi') rfl))) (as_v rfl rfl) (by omega)
    · unfold nxt
      rw [hx_nat hi', List.getD_eq_getElem?_getD, List.getElem?_eq_getElem hi', Option.getD_some, ln]
      push_cast
      rfl
  · rw [← ln, srt]
  try dsimp only [putA, List.set_cons_succ, List.set_cons_zero]
  apply r_ifF
  · apply as_orF
    · apply as_neF'
      · exact as_sumo rfl
      · exact as_mulX (as_v rfl rfl) (as_v rfl rfl) (.inl (by omega))
      · rw [rI_sum, wh.sum, ln]
        push_cast
        rfl
    apply as_bop1
    refine as_cmpL rfl (by simp) (as_lrg1 (n := n) (by omega) (as_v rfl rfl)) rfl fun k hk => neL (by simpa using hk)
  apply r_ret rfl
  · apply as_eqDT
    · and_intros
    · exact as_fr rfl h0
    · rw [dat, dats_ints]
    · rw [dat, dats_ints]
    · rw [deq, deqs_ints]
      simp
  exact h
/-! ### refusals -/
theorem nn_bad {s p l : D} {nm : String} (hs : fz s = true) (hp : fz p = true) (hl : fz l = true) (he : Exc s_nth [s, p, l] "BadNumber" [.str (Str.ofString nm)] [some s, some p, some l]) : Ret s__law_no_nth [s, p, l] (.str (Str.ofString nm)) [some s, some p, some l] := by
  intro q x h
  refine ⟨rfl, ?_⟩
  unfold m__law_no_nth
  simp only [List.map_cons, List.map_nil, List.cons_append, List.nil_append, Nat.reduceSub, List.replicate]
  refine r_asg as_n (r_tri ?_)
  refine r_expX rfl (asr_c (as_v rfl hs) (asr_c (as_v rfl hp) (asr_c (as_v rfl hl) asr_0))) rfl he rfl ?_
  refine ⟨by decide, 0, _, rfl, rfl, ?_⟩
  dsimp only [offO, List.set_cons_succ, List.set_cons_zero]
  exact r_retf rfl rfl h
theorem lr_bad {n P : Nat} (hn : 1 ≤ n) (hn2 : n ≤ 200) (hP : P ≤ 1000) (hc : 5000 < cnt P false n) : Ret s__law_list_refused [.int n, .int P] (.int 5000) [some (.int n), some (.int P)] := by
  intro q x h
  refine ⟨rfl, ?_⟩
  unfold m__law_list_refused
  simp only [List.map_cons, List.map_nil, List.cons_append, List.nil_append, Nat.reduceSub, List.replicate]
  refine r_asg as_n (r_tri ?_)
  refine r_expX rfl (asr_c (as_v rfl rfl) (asr_c (as_v rfl rfl) asr_0)) rfl (w_allP.many hn hn2 hP hc) rfl ?_
  refine ⟨by decide, 0, _, rfl, rfl, ?_⟩
  dsimp only [offO, List.set_cons_succ, List.set_cons_zero]
  exact r_retf rfl rfl h
end Pf

namespace Pf
open PySem PySem.Spec PyProof.Rows L2
local macro_rules
  | `(tactic| infer_instance) => `(tactic| first
    | rfl
    | assumption
    | exact fz_lst_ints _
    | exact fz_tup_ints _
    | exact fz_rowT _
    | exact fz_rowsT _
    | exact fz_pa _ _
    | exact fz_li _
    | exact fz_lst_true _
    | (simp only [fz, fzs, Bool.and_true, fz_lst_ints, fz_tup_ints]; done))
local macro_rules
  | `(tactic| and_intros) => `(tactic| repeat' first
    | (show As _ _ _ _ _; with_reducible assumption)
    | exact as_i
    | exact as_s
    | exact as_n
    | exact as_b
    | exact as_v rfl (by infer_instance)
    | exact as_ff rfl (by infer_instance)
    | exact as_fr rfl (frz_li _)
    | exact as_fr rfl (frz_sgD _ _)
    | exact as_fr rfl (frz_pa _ _ _)
    | exact as_fr rfl (lstR_frz _)
    | exact as_fr rfl (by assumption)
    | exact as_leno rfl
    | exact as_sumo rfl
    | exact as_sortedo rfl
    | exact as_tupleo rfl (by infer_instance)
    | exact as_listo rfl (by infer_instance)
    | exact asr_0
    | exact asv_0
    | apply as_ntF
    | apply as_ntT
    | apply as_orF
    | apply as_andT
    | apply as_bop1
    | apply as_eqT'
    | apply as_eqF'
    | apply as_nePSx
    | apply as_neSx
    | apply as_eqSx
    | apply as_nePx
    | apply as_neT'
    | apply as_neF'
    | apply as_ltT'
    | apply as_ltF'
    | apply as_leT'
    | apply as_leF'
    | apply as_gtT'
    | apply as_gtF'
    | apply as_geT'
    | apply as_geF'
    | apply as_isT
    | apply as_isF
    | apply as_isnF
    | apply as_isnT
    | apply as_addLl
    | apply as_add
    | apply as_sub
    | apply as_modL
    | apply as_fdivL
    | apply as_mulX
    | apply as_neg
    | apply as_int1
    | (apply as_idxo; (· rfl))
    | apply as_idx
    | apply as_len
    | apply as_sum
    | apply as_sorted
    | apply as_list
    | apply as_tuple
    | apply as_tup
    | apply as_lst
    | (apply as_isioB; (· rfl); (· first | rfl | exact fz_lst_true _))
    | apply as_isiB
    | apply asv_c
    | (apply asr_o; (· rfl); (· first | rfl | exact fz_lst_true _))
    | apply asr_c
    | apply as_iscT
    | apply as_fld
    | apply as_meth
    | apply as_call
    | apply as_cm
    | apply as_new
    | (apply as_newv; (· rfl))
    | (show Ret _ _ _ _; with_reducible assumption)
    | (show Gb.fns _ _ = _; rfl)
    | (show Gb.cmt _ _ _ = _; rfl)
    | (show Gb.mth _ _ _ = _; rfl)
    | (show itms _ = some _; first | rfl | assumption)
    | (show Option.join _ = some _; rfl)
    | (show takeA _ _ = _; rfl)
    | (show putA _ _ _ = _; rfl)
    | (show PyData.strOk _ = true; decide +kernel)
    | (show isiT _ = true; rfl)
    | (show Gb.fok _ _ _ = true; exact fok_of (by decide))
    | (show Gb.isc _ _ = true; exact isc_of (by decide))
    | (show List.contains _ _ = false; decide)
    | (show List.lookup _ _ = some _; rfl)
    | (show List.any _ _ = _; rfl)
    | (show atI _ _ = _; with_reducible assumption)
    | (show (0 : Int) < _; omega)
    | (show isNon _ = false; rfl)
    | (show fz _ = true; infer_instance)
    | (show fz _ = false; infer_instance)
    | (show fzs _ = true; infer_instance))

theorem w_plR {n P : Nat} {a hs : List Nat} {P0 : D} (wh : Hh P a hs) (hl : a.length = n) (hn2 : n ≤ 200) (hz : (P + 1) * n ≤ 1000) (h0 : frz P0 = sgD false hs) : Ret s_place_of [P0] (.int (rankOf P false a : Nat)) [some (sgD false hs)] := by
  have ln : hs.length = n := by rw [wh.ln, hl]
  have hn : 0 < n := by rw [← hl]; exact wh.w.n
  have hmx : mx hs ≤ 1000 := by
    obtain ⟨M1, M2⟩ := mx_mem wh.hn
    obtain ⟨i, hi, e⟩ := List.getElem_of_mem M1
    have := hl_le wh.w (wh.hl i (by omega))
    rw [List.getD_eq_getElem?_getD, List.getElem?_eq_getElem hi, Option.getD_some, e, hl] at this
    omega
  have hP : P ≤ 1000 := by
    have : P + 1 ≤ (P + 1) * n := Nat.le_mul_of_pos_right _ hn
    omega
  have e := props_le wh.sum wh.hn
  have := w_place.ok (P0 := P0) (wh.ok (by omega)) hmx (by omega) (by omega) (by rw [wh.ovL, e]; exact wh.w.le) h0
  rw [e, wh.ovL] at this
  exact this
/-! ### a drawn place -/
theorem mod_step {w k m : Nat} : ((w : Int) * 1000003 + (k : Int)) % (m : Int) = ((((w * 1000003 + k) % m : Nat)) : Int) := by rw [Int.natCast_emod, Int.natCast_add, Int.natCast_mul]; rfl
/-! ### not single -/
theorem dbl_ok : PatOk [2, 1] [[0, 2], [0]] := ⟨by decide, by decide, by decide, rfl, fun i h => by
  match i, h with
  | 0, _ => exact ⟨rfl, show 2 ≤ 1000 by omega⟩
  | 1, _ => exact ⟨rfl, show 1 ≤ 1000 by omega⟩, by decide⟩
theorem w_nots : Ret s__law_not_single [] (.bl true) [] := by
  intro q x h
  refine ⟨rfl, ?_⟩
  unfold m__law_not_single
  simp only [List.map_cons, List.map_nil, List.cons_append, List.nil_append, Nat.reduceSub, List.replicate]
  have wl : Ret s_Line_init [.ins true (Str.ofString "Line") [] [], .lst true [.int 2, .int 1]] .non [some (liD true [2, 1]), some (.lst false [.int 2, .int 1])] := w_Line (.lst true ((rI [2, 1]).map .int)) _ [2, 1] (frz_li _) (rI_row _) (by decide) (by decide)
  have wp : Ret s_Pattern_init [.ins true (Str.ofString "Pattern") [] [], liD true [2, 1], .lst true [.lst true [.int 0, .int 2], .lst true [.int 0]]] .non [some (paD true [2, 1] [[0, 2], [0]]), some (liD false [2, 1]), some (.lst false ([[0, 2], [0]].map fun r => D.lst false ((rI r).map .int)))] := w_Pat [2, 1] [[0, 2], [0]] (liD true [2, 1]) (.lst true (lstR [[0, 2], [0]])) _ (frz_line _ _) (lstR_frz _) (lF_D _) dbl_ok
  refine r_asg as_b ?_
  try dsimp only [putA, List.set_cons_succ, List.set_cons_zero]
  refine r_asg (as_new rfl (asr_c (as_new rfl (asr_c (as_lst (asv_c as_i (asv_c as_i asv_0))) asr_0) rfl wl rfl) (asr_c (as_lst (asv_c (as_lst (asv_c as_i (asv_c as_i asv_0))) (asv_c (as_lst (asv_c as_i asv_0)) asv_0))) asr_0)) rfl wp rfl) ?_
  try dsimp only [putA, List.set_cons_succ, List.set_cons_zero]
  refine r_tri ?_
  refine r_expX rfl (asr_c (as_fr rfl (frz_pa _ _ _)) asr_0) rfl (w_place.no (rooms := [2, 1]) (rows := [[0, 2], [0]]) (frz_pa _ _ _) ⟨2, by decide, by decide⟩) rfl ?_
  try dsimp only [putA, List.set_cons_succ, List.set_cons_zero]
  refine ⟨by decide, ?_⟩
  simp only [uv, uvs, offO]
  try dsimp only [putA, List.set_cons_succ, List.set_cons_zero]
  exact r_retf rfl rfl h
/-! ### refusals -/
theorem pair_n {k : Nat} (hk : k < 4) : ∃ n P : Nat, atI [D.tup [.int 13, .int 1], .tup [.int 4, .int 11], .tup [.int 3, .int 41], .tup [.int 24, .int 3]] (k : Int) = some (.tup [.int (n : Int), .int (P : Int)]) ∧ 1 ≤ n ∧ n ≤ 200 ∧ P ≤ 1000 ∧ 5000 < cnt P false n := by
  match k, hk with
  | 0, _ => exact ⟨13, 1, rfl, by decide, by decide, by decide, by decide +kernel⟩
  | 1, _ => exact ⟨4, 11, rfl, by decide, by decide, by decide, by decide +kernel⟩
  | 2, _ => exact ⟨3, 41, rfl, by decide, by decide, by decide, by decide +kernel⟩
  | 3, _ => exact ⟨24, 3, rfl, by decide, by decide, by decide, by decide +kernel⟩
theorem w_refu {n P w : Nat} (hn : 1 ≤ n) (hn2 : n ≤ 200) (hP : P ≤ 1000) (hw : w < 4) : Ret s__law_refusals [.int n, .int P, .int (cnt P false n : Nat), .int w] (.bl true) [some (.int n), some (.int P), some (.int (cnt P false n : Nat)), some (.int w)] := by
  intro q x h
  obtain ⟨n', P', hat, k1, k2, k3, k4⟩ := pair_n hw
  have s1 := nn_bad (s := .int n) (p := .int P) (l := .int (cnt P false n : Nat)) rfl rfl rfl (w_nth.place hn hn2 hP rfl (.inr ⟨_, rfl, .inr (Int.le_refl _)⟩))
  have s2 := nn_bad (s := .int n) (p := .int P) (l := .int (0 - 1 - (w : Int))) rfl rfl rfl (w_nth.place hn hn2 hP rfl (.inr ⟨_, rfl, .inl (by omega)⟩))
  have s3 := nn_bad (s := .int n) (p := .int P) (l := .bl true) rfl rfl rfl (w_nth.place hn hn2 hP rfl (.inl ⟨rfl, rfl⟩))
  have s4 := nn_bad (s := .int (0 - (w : Int))) (p := .int (0 - 1)) (l := .int (cnt P false n : Nat)) rfl rfl rfl (w_nth.size rfl rfl rfl (.inr ⟨_, rfl, by omega⟩))
  have s5 := nn_bad (s := .int n) (p := .int (0 - 1 - (w : Int))) (l := .non) rfl rfl rfl (w_nth.props hn rfl rfl (.inr ⟨_, rfl, by omega⟩))
  have s6 := nn_bad (s := .bl true) (p := .bl true) (l := .int 0) rfl rfl rfl (w_nth.size rfl rfl rfl (.inl ⟨rfl, rfl⟩))
  have s7 := lr_bad k1 k2 k3 k4
  refine ⟨rfl, ?_⟩
  unfold m__law_refusals
  simp only [List.map_cons, List.map_nil, List.cons_append, List.nil_append, Nat.reduceSub, List.replicate]
  apply r_ifF
  · and_intros
  try dsimp only [putA, List.set_cons_succ, List.set_cons_zero]
  apply r_ifF
  · and_intros
  try dsimp only [putA, List.set_cons_succ, List.set_cons_zero]
  apply r_ifF
  · and_intros
  try dsimp only [putA, List.set_cons_succ, List.set_cons_zero]
  apply r_asg
  · and_intros
  try dsimp only [putA, List.set_cons_succ, List.set_cons_zero]
  have t0 : atI [D.int (n' : Int), .int (P' : Int)] 0 = some (.int (n' : Int)) := rfl
  have t1 : atI [D.int (n' : Int), .int (P' : Int)] 1 = some (.int (P' : Int)) := rfl
  apply r_ret (d := .bl true) rfl
  · apply as_eqT'
    · and_intros
    · and_intros
    · rfl
  exact h
end Pf

namespace Pf
open PySem PySem.Spec PyProof.Rows L2
local macro_rules
  | `(tactic| infer_instance) => `(tactic| first
    | rfl
    | assumption
    | exact fz_lst_ints _
    | exact fz_tup_ints _
    | exact fz_rowT _
    | exact fz_rowsT _
    | exact fz_pa _ _
    | exact fz_li _
    | exact fz_lst_true _
    | (simp only [fz, fzs, Bool.and_true, fz_lst_ints, fz_tup_ints]; done))
local macro_rules
  | `(tactic| and_intros) => `(tactic| repeat' first
    | (show As _ _ _ _ _; with_reducible assumption)
    | exact as_i
    | exact as_s
    | exact as_n
    | exact as_b
    | exact as_v rfl (by infer_instance)
    | exact as_ff rfl (by infer_instance)
    | exact as_fr rfl (frz_li _)
    | exact as_fr rfl (frz_sgD _ _)
    | exact as_fr rfl (frz_pa _ _ _)
    | exact as_fr rfl (lstR_frz _)
    | exact as_fr rfl (by assumption)
    | exact as_leno rfl
    | exact as_sumo rfl
    | exact as_sortedo rfl
    | exact as_tupleo rfl (by infer_instance)
    | exact as_listo rfl (by infer_instance)
    | exact asr_0
    | exact asv_0
    | apply as_ntF
    | apply as_ntT
    | apply as_orF
    | apply as_andT
    | apply as_bop1
    | apply as_eqT'
    | apply as_eqF'
    | apply as_nePSx
    | apply as_neSx
    | apply as_eqSx
    | apply as_nePx
    | apply as_neT'
    | apply as_neF'
    | apply as_ltT'
    | apply as_ltF'
    | apply as_leT'
    | apply as_leF'
    | apply as_gtT'
    | apply as_gtF'
    | apply as_geT'
    | apply as_geF'
    | apply as_isT
    | apply as_isF
    | apply as_isnF
    | apply as_isnT
    | apply as_addLl
    | apply as_add
    | apply as_sub
    | apply as_modL
    | apply as_fdivL
    | apply as_mulX
    | apply as_neg
    | apply as_int1
    | (apply as_idxo; (· rfl))
    | apply as_idx
    | apply as_len
    | apply as_sum
    | apply as_sorted
    | apply as_list
    | apply as_tuple
    | apply as_tup
    | apply as_lst
    | (apply as_isioB; (· rfl); (· first | rfl | exact fz_lst_true _))
    | apply as_isiB
    | apply asv_c
    | (apply asr_o; (· rfl); (· first | rfl | exact fz_lst_true _))
    | apply asr_c
    | apply as_iscT
    | apply as_fld
    | apply as_meth
    | apply as_call
    | apply as_cm
    | apply as_new
    | (apply as_newv; (· rfl))
    | (show Ret _ _ _ _; with_reducible assumption)
    | (show Gb.fns _ _ = _; rfl)
    | (show Gb.cmt _ _ _ = _; rfl)
    | (show Gb.mth _ _ _ = _; rfl)
    | (show itms _ = some _; first | rfl | assumption)
    | (show Option.join _ = some _; rfl)
    | (show takeA _ _ = _; rfl)
    | (show putA _ _ _ = _; rfl)
    | (show PyData.strOk _ = true; decide +kernel)
    | (show isiT _ = true; rfl)
    | (show Gb.fok _ _ _ = true; exact fok_of (by decide))
    | (show Gb.isc _ _ = true; exact isc_of (by decide))
    | (show List.contains _ _ = false; decide)
    | (show List.lookup _ _ = some _; rfl)
    | (show List.any _ _ = _; rfl)
    | (show atI _ _ = _; with_reducible assumption)
    | (show (0 : Int) < _; omega)
    | (show isNon _ = false; rfl)
    | (show fz _ = true; infer_instance)
    | (show fz _ = false; infer_instance)
    | (show fzs _ = true; infer_instance))

theorem cnt_le (P n : Nat) : cnt P false n ≤ (P + 1) ^ n := by rw [cnt_f]; omega
theorem pow_sm {P n : Nat} (hP : P ≤ 3) (hn : n ≤ 3) : (P + 1) ^ n ≤ 64 := by
  have h1 : (P + 1) ^ n ≤ 4 ^ n := Nat.pow_le_pow_left (by omega) n
  have h2 : 4 ^ n ≤ 4 ^ 3 := Nat.pow_le_pow_right (by omega) hn
  have : 4 ^ 3 = 64 := by decide
  omega
/-! ### all listed -/
theorem w_listed {n P : Nat} (hn : 1 ≤ n) (hn2 : n ≤ 3) (hP : P ≤ 3) : Ret s__law_listed [.int n, .int P] (.bl true) [some (.int n), some (.int P)] := by
  intro q x h
  have hc := cnt_le P n
  have hc2 := pow_sm hP hn2
  have hz : (P + 1) * n ≤ 1000 := by
    have : (P + 1) * n ≤ 4 * 3 := Nat.mul_le_mul (by omega) hn2
    omega
  have hpos := cnt_pos P (n := n) (by omega)
  have r1 := w_rl (P := P) (l := n) (z := false) (by omega) (by omega)
  have r2 := w_allP.ok (n := n) (P := P) hn (by omega) (by omega) (by omega)
  have zS := fzs_sg (allR n P)
  have lA : ((allR n P).map (sgD false)).length = cnt P false n := by rw [List.length_map, allR_len]
  refine ⟨rfl, ?_⟩
  unfold m__law_listed
  simp only [List.map_cons, List.map_nil, List.cons_append, List.nil_append, Nat.reduceSub, List.replicate]
  apply r_asg
  · and_intros
  try dsimp only [putA, List.set_cons_succ, List.set_cons_zero]
  refine r_for (ass_rg1 (n := 2) (by omega) as_i) ?_
  refine fr_rg (fun s en => ∃ y3 y4 y5, en = [some (.int n), some (.int P), some (.int (cnt P false n : Nat)), y3, y4, y5]) ?_ ?_ ⟨_, _, _, rfl⟩
  · rintro s en K hs ⟨y3, y4, y5, rfl⟩ hK
    try dsimp only [putA, List.set_cons_succ, List.set_cons_zero]
    apply r_asg
    · and_intros
    try dsimp only [putA, List.set_cons_succ, List.set_cons_zero]
    apply r_ifF
    · and_intros
      omega
    refine r_for (ass_rg1 (n := cnt P false n) (by omega) (as_v rfl rfl)) ?_
    refine fr_rg (fun i en => ∃ y5, en = [some (.int n), some (.int P), some (.int (cnt P false n : Nat)), some (.int (s : Int)), some (.lst true ((allR n P).map (sgD false))), y5]) ?_ ?_ ⟨_, rfl⟩
    · rintro i en K2 hi ⟨y5, rfl⟩ hK2
      have wh := hsOf_ok (rowAt_Rw (by omega) hi)
      have ra := w_rowat (n := n) (P := P) (by omega) (by omega) hi
      have hh := w_has (n := n) (N0 := .lst true ((rI (rowAt P n false i)).map .int)) wh (rowAt_len ..) hz (frz_li _)
      have at1 : atI ((allR n P).map (sgD false)) (i : Int) = some (sgD false (hsOf P (rowAt P n false i))) := atI_ofN (by rw [List.getElem?_map, allR_at hi]; rfl)
      have zG : fz (sgD false (hsOf P (rowAt P n false i))) = true := fz_pa _ _
      try dsimp only [putA, List.set_cons_succ, List.set_cons_zero]
      apply r_ifF
      · and_intros
      rw [runs_0]
      exact hK2 _ ⟨_, rfl⟩
    · rintro en ⟨y5, rfl⟩
      refine r_rev rfl zS ?_
      try dsimp only [putA, List.set_cons_succ, List.set_cons_zero]
      refine r_popl rfl (by rw [← List.map_reverse]; exact fzs_sg _) (by rw [List.length_reverse, lA]; exact hpos) ?_
      try dsimp only [putA, List.set_cons_succ, List.set_cons_zero]
      rw [runs_0]
      exact hK _ ⟨_, _, _, rfl⟩
  · rintro en ⟨y3, y4, y5, rfl⟩
    exact r_ret rfl as_b h
/-! ### a long list -/
theorem long_n {k : Nat} (hk : k < 3) : ∃ n P : Nat, atI [D.tup [.int 11, .int 1], .tup [.int 4, .int 10], .tup [.int 6, .int 3]] (k : Int) = some (.tup [.int (n : Int), .int (P : Int)]) ∧ 1 ≤ n ∧ n ≤ 200 ∧ P ≤ 1000 ∧ (P + 1) * n ≤ 1000 ∧ cnt P false n ≤ 5000 := by
  match k, hk with
  | 0, _ => exact ⟨11, 1, rfl, by decide, by decide, by decide, by decide, by decide +kernel⟩
  | 1, _ => exact ⟨4, 10, rfl, by decide, by decide, by decide, by decide, by decide +kernel⟩
  | 2, _ => exact ⟨6, 3, rfl, by decide, by decide, by decide, by decide, by decide +kernel⟩
theorem w_long (ds : List Int) : ∃ ds' : List Int, Ret s__law_long_list [.lst true (ds.map .int)] (.bl true) [some (.lst true (ds'.map .int))] := by
  obtain ⟨k, ek, hk⟩ := take_nat ds (m := 3) (by omega)
  obtain ⟨n, P, hat, hn, hn2, hP, hz, hc⟩ := long_n (k := k) (by omega)
  have hpos := cnt_pos P (n := n) (by omega)
  have r1 := w_rl (P := P) (l := n) (z := false) (by omega) (by omega)
  have r2 := w_allP.ok (n := n) (P := P) hn (by omega) (by omega) (by omega)
  have zS := fzs_sg (allR n P)
  have lA : ((allR n P).map (sgD false)).length = cnt P false n := by rw [List.length_map, allR_len]
  have t0 := w_take ds 3 (by omega)
  rw [ek] at t0
  have a0 : atI [D.int (n : Int), .int (P : Int)] 0 = some (.int (n : Int)) := rfl
  have a1 : atI [D.int (n : Int), .int (P : Int)] 1 = some (.int (P : Int)) := rfl
  refine ⟨ds.dropLast.dropLast.dropLast.dropLast.dropLast.dropLast.dropLast, fun q x h => ⟨rfl, ?_⟩⟩
  unfold m__law_long_list
  simp only [List.map_cons, List.map_nil, List.cons_append, List.nil_append, Nat.reduceSub, List.replicate]
  apply r_asg
  · and_intros
  try dsimp only [putA, List.set_cons_succ, List.set_cons_zero]
  apply r_asg
  · and_intros
  try dsimp only [putA, List.set_cons_succ, List.set_cons_zero]
  apply r_asg
  · and_intros
  try dsimp only [putA, List.set_cons_succ, List.set_cons_zero]
  apply r_ifF
  · and_intros
    omega
  refine r_for (ass_rg1 (n := 6) (by omega) as_i) ?_
  refine fr_rg (fun s en => ∃ y4 y5, en = [some (.lst true ((Nat.repeat List.dropLast s ds.dropLast).map .int)), some (.tup [.int (n : Int), .int (P : Int)]), some (.int (cnt P false n : Nat)), some (.lst true ((allR n P).map (sgD false))), y4, y5]) ?_ ?_ ⟨_, _, rfl⟩
  · rintro s en K hs ⟨y4, y5, rfl⟩ hK
    try dsimp only [putA, List.set_cons_succ, List.set_cons_zero]
    generalize eD : Nat.repeat List.dropLast s ds.dropLast = ds1
    obtain ⟨i, ei, hi⟩ := take_nat ds1 (m := (cnt P false n : Int)) (by omega)
    have t1 := w_take ds1 (cnt P false n : Int) (by omega)
    rw [ei] at t1
    have go : ∀ (i : Nat) (P2 : Pt), i < cnt P false n → P2.nx = K → runs (mkP fs29 ms2 cs2 icL fkL exL emL ciL) (.cons (.iff (.nt (.call "_law_has_row" (.cons (.idx (.var 3) (.var 5)) (.cons (.idx (.var 1) (.int 0)) (.cons (.idx (.var 1) (.int 1)) (.cons (.call "_law_row_at" (.cons (.idx (.var 1) (.int 0)) (.cons (.idx (.var 1) (.int 1)) (.cons (.var 5) .nil)))) .nil)))))) (.cons (.ret (.bl false)) .nil) .nil) .nil) [some (.lst true (ds1.dropLast.map .int)), some (.tup [.int (n : Int), .int (P : Int)]), some (.int (cnt P false n : Nat)), some (.lst true ((allR n P).map (sgD false))), some (.int (s : Int)), some (.int (i : Int))] P2 := by
      intro i P2 hi e2
      have wh := hsOf_ok (rowAt_Rw (by omega) hi)
      have ra := w_rowat (n := n) (P := P) (by omega) (by omega) hi
      have hh := w_has (n := n) (N0 := .lst true ((rI (rowAt P n false i)).map .int)) wh (rowAt_len ..) hz (frz_li _)
      have at1 : atI ((allR n P).map (sgD false)) (i : Int) = some (sgD false (hsOf P (rowAt P n false i))) := atI_ofN (by rw [List.getElem?_map, allR_at hi]; rfl)
      have zG : fz (sgD false (hsOf P (rowAt P n false i))) = true := fz_pa _ _
      apply r_ifF
      · and_intros
      rw [runs_0, e2]
      have e9 : ds1.dropLast = Nat.repeat List.dropLast (s + 1) ds.dropLast := by rw [← eD]; rfl
      try dsimp only [putA, List.set_cons_succ, List.set_cons_zero]
      rw [e9]
      exact hK _ ⟨_, _, rfl⟩
    apply r_asg
    · and_intros
    try dsimp only [putA, List.set_cons_succ, List.set_cons_zero]
    by_cases h5 : s = 5
    · apply r_ifT
      · and_intros
        omega
      refine r_asg (d := .int ((cnt P false n - 1 : Nat) : Int)) (as_castL (as_sub (as_v rfl rfl) as_i) (by omega)) ?_
      rw [runs_0]
      try dsimp only [putA, List.set_cons_succ, List.set_cons_zero]
      exact go _ _ (by omega) rfl
    · apply r_ifF
      · and_intros
        omega
      exact go _ _ (by omega) rfl
  · rintro en ⟨y4, y5, rfl⟩
    exact r_ret rfl as_b h
/-! ### great places -/
theorem w_great (ds : List Int) : ∃ ds' : List Int, Ret s__law_great_places [.lst true (ds.map .int)] (.bl true) [some (.lst true (ds'.map .int))] := by
  obtain ⟨k1, e1, h1⟩ := take_nat ds (m := 5) (by omega)
  obtain ⟨k2, e2, h2⟩ := take_nat ds.dropLast (m := 8) (by omega)
  generalize en : 20 + k1 = n
  generalize eP : 1 + k2 = P
  have hz : (P + 1) * n ≤ 1000 := by
    have : (P + 1) * n ≤ 9 * 24 := Nat.mul_le_mul (by omega) (by omega)
    omega
  have hpos := cnt_pos P (n := n) (by omega)
  have r1 := w_rl (P := P) (l := n) (z := false) (by omega) (by omega)
  have s1 := nn_bad (s := .int n) (p := .int P) (l := .int (cnt P false n : Nat)) rfl rfl rfl (w_nth.place (by omega) (by omega) (by omega) rfl (.inr ⟨_, rfl, .inr (Int.le_refl _)⟩))
  generalize ec : cnt P false n = c at hpos r1 s1
  refine ⟨Nat.repeat List.dropLast 6 ds.dropLast.dropLast, fun q x h => ⟨rfl, ?_⟩⟩
  unfold m__law_great_places
  simp only [List.map_cons, List.map_nil, List.cons_append, List.nil_append, Nat.reduceSub, List.replicate]
  refine r_asg (as_castL (y := (n : Int)) (as_add as_i (as_take0 (ds := ds) rfl w_take (by omega) rfl as_i rfl)) (by rw [e1, ← en]; push_cast; rfl)) ?_
  refine r_asg (as_castL (y := (P : Int)) (as_add as_i (as_take0 (ds := ds.dropLast) rfl w_take (by omega) rfl as_i rfl)) (by rw [e2, ← eP]; push_cast; rfl)) ?_
  try dsimp only [putA, List.set_cons_succ, List.set_cons_zero]
  apply r_asg
  · and_intros
  try dsimp only [putA, List.set_cons_succ, List.set_cons_zero]
  apply r_asg
  · and_intros
  try dsimp only [putA, List.set_cons_succ, List.set_cons_zero]
  refine r_for (ass_rg1 (n := 6) (by omega) as_i) ?_
  refine fr_rg (fun s en => ∃ (w : Nat) (y5 : Option D), w < c ∧ en = [some (.lst true ((Nat.repeat List.dropLast s ds.dropLast.dropLast).map .int)), some (.int (n : Int)), some (.int (P : Int)), some (.int (c : Int)), some (.int (w : Int)), y5, none, none]) ?_ ?_ ⟨0, none, hpos, rfl⟩
  · rintro s en K hs ⟨w, y5, hw, rfl⟩ hK
    try dsimp only [putA, List.set_cons_succ, List.set_cons_zero]
    obtain ⟨i, ei, hi⟩ := take_nat (Nat.repeat List.dropLast s ds.dropLast.dropLast) (m := 1000003) (by omega)
    refine r_asg (as_castL (y := (((w * 1000003 + i) % c : Nat) : Int)) (as_modL (as_int1 (as_add (as_mulX (as_v rfl rfl) as_i (.inr (by omega))) (as_take0 (ds := Nat.repeat List.dropLast s ds.dropLast.dropLast) rfl w_take (by omega) rfl as_i rfl))) (as_v rfl rfl) (by omega)) (by rw [ei, mod_step])) ?_
    rw [runs_0]
    exact hK _ ⟨_, _, Nat.mod_lt _ hpos, rfl⟩
  · rintro en ⟨w, y5, hw, rfl⟩
    refine r_for (ass_it (xs := [.int (w : Int), .int (((c - 1 : Nat)) : Int)]) (as_lst (asv_c (as_v rfl rfl) (asv_c (as_castL (as_sub (as_v rfl rfl) as_i) (by omega)) asv_0))) rfl rfl) ?_
    refine fr_inv (fun ds' en => (∀ d ∈ ds', ∃ i : Nat, i < c ∧ d = .int (i : Int)) ∧ ∃ y6 y7, en = [some (.lst true ((Nat.repeat List.dropLast 6 ds.dropLast.dropLast).map .int)), some (.int (n : Int)), some (.int (P : Int)), some (.int (c : Int)), some (.int (w : Int)), y5, y6, y7]) ?_ ?_ _ _ ⟨fun d hd => ?_, _, _, rfl⟩
    · rintro d ds' en K ⟨hd, y6, y7, rfl⟩ hK
      obtain ⟨i, hi, rfl⟩ := hd d List.mem_cons_self
      subst ec
      have wh := hsOf_ok (rowAt_Rw (by omega) hi)
      have ra := w_rowat (n := n) (P := P) (by omega) (by omega) hi
      have nt := w_nth.ok (n := n) (P := P) (by omega) (by omega) (by omega) hi wh
      have hh := w_has (n := n) (N0 := .lst true ((rI (rowAt P n false i)).map .int)) wh (rowAt_len ..) hz (frz_li _)
      have zG : fz (sgD false (hsOf P (rowAt P n false i))) = true := fz_pa _ _
      have pl := w_plR (n := n) (P0 := sgD false (hsOf P (rowAt P n false i))) wh (rowAt_len ..) (by omega) hz (frz_pa _ _ _)
      rw [rank_rowAt hi] at pl
      simp only [bindW]
      try dsimp only [putA, List.set_cons_succ, List.set_cons_zero]
      apply r_asg
      · and_intros
      try dsimp only [putA, List.set_cons_succ, List.set_cons_zero]
      apply r_ifF
      · and_intros
        rfl
      rw [runs_0]
      exact hK _ ⟨fun d hd' => hd d (List.mem_cons_of_mem _ hd'), _, _, rfl⟩
    · rintro en ⟨_, y6, y7, rfl⟩
      apply r_ret (d := .bl true) rfl
      · apply as_eqSx
        · and_intros
        · and_intros
      exact h
    · simp only [List.mem_cons, List.not_mem_nil, or_false] at hd
      rcases hd with rfl | rfl
      · exact ⟨w, hw, rfl⟩
      · exact ⟨c - 1, by omega, rfl⟩
end Pf

namespace Pf
open PySem PySem.Spec PyProof.Rows L2
local macro_rules
  | `(tactic| infer_instance) => `(tactic| first
    | rfl
    | assumption
    | exact fz_lst_ints _
    | exact fz_tup_ints _
    | exact fz_rowT _
    | exact fz_rowsT _
    | exact fz_pa _ _
    | exact fz_li _
    | exact fz_lst_true _
    | (simp only [fz, fzs, Bool.and_true, fz_lst_ints, fz_tup_ints]; done))
local macro_rules
  | `(tactic| and_intros) => `(tactic| repeat' first
    | (show As _ _ _ _ _; with_reducible assumption)
    | exact as_i
    | exact as_s
    | exact as_n
    | exact as_b
    | exact as_v rfl (by infer_instance)
    | exact as_ff rfl (by infer_instance)
    | exact as_fr rfl (frz_li _)
    | exact as_fr rfl (frz_sgD _ _)
    | exact as_fr rfl (frz_pa _ _ _)
    | exact as_fr rfl (lstR_frz _)
    | exact as_fr rfl (by assumption)
    | exact as_leno rfl
    | exact as_sumo rfl
    | exact as_sortedo rfl
    | exact as_tupleo rfl (by infer_instance)
    | exact as_listo rfl (by infer_instance)
    | exact asr_0
    | exact asv_0
    | apply as_ntF
    | apply as_ntT
    | apply as_orF
    | apply as_andT
    | apply as_bop1
    | apply as_eqSx
    | apply as_eqT'
    | apply as_eqF'
    | apply as_nePSx
    | apply as_neSx
    | apply as_nePx
    | apply as_neT'
    | apply as_neF'
    | apply as_ltT'
    | apply as_ltF'
    | apply as_leT'
    | apply as_leF'
    | apply as_gtT'
    | apply as_gtF'
    | apply as_geT'
    | apply as_geF'
    | apply as_isT
    | apply as_isF
    | apply as_isnF
    | apply as_isnT
    | apply as_addLl
    | apply as_add
    | apply as_sub
    | apply as_modL
    | apply as_fdivL
    | apply as_mulX
    | apply as_neg
    | apply as_int1
    | (apply as_idxo; (· rfl))
    | apply as_idx
    | apply as_len
    | apply as_sum
    | apply as_sorted
    | apply as_list
    | apply as_tuple
    | apply as_tup
    | apply as_lst
    | (apply as_isioB; (· rfl); (· first | rfl | exact fz_lst_true _))
    | apply as_isiB
    | apply asv_c
    | (apply asr_o; (· rfl); (· first | rfl | exact fz_lst_true _))
    | apply asr_c
    | apply as_iscT
    | apply as_fld
    | apply as_meth
    | apply as_call
    | apply as_cm
    | apply as_new
    | (apply as_newv; (· rfl))
    | (show Ret _ _ _ _; with_reducible assumption)
    | (show Gb.fns _ _ = _; rfl)
    | (show Gb.cmt _ _ _ = _; rfl)
    | (show Gb.mth _ _ _ = _; rfl)
    | (show itms _ = some _; first | rfl | assumption)
    | (show Option.join _ = some _; rfl)
    | (show takeA _ _ = _; rfl)
    | (show putA _ _ _ = _; rfl)
    | (show PyData.strOk _ = true; decide +kernel)
    | (show isiT _ = true; rfl)
    | (show Gb.fok _ _ _ = true; exact fok_of (by decide))
    | (show Gb.isc _ _ = true; exact isc_of (by decide))
    | (show List.contains _ _ = false; decide)
    | (show List.lookup _ _ = some _; rfl)
    | (show List.any _ _ = _; rfl)
    | (show atI _ _ = _; with_reducible assumption)
    | (show (0 : Int) < _; omega)
    | (show isNon _ = false; rfl)
    | (show fz _ = true; infer_instance)
    | (show fz _ = false; infer_instance)
    | (show fzs _ = true; infer_instance))

abbrev GV : Gb := mkP fs38 ms2 cs2 icL fkL exL emL ciL
def lwM : Ss := dropS 3 m_law
theorem w_main {S : D} {ds : List Int} {n : Nat} {hs : List Nat} {P' : Pt} (p : SglOk hs) (hln : hs.length = n) (hn5 : n ≤ 5) (hm : mx hs ≤ 14) (h : ∀ e, P'.rt (.bl true) e) : runs GV lwM [some S, some (.lst true (ds.map .int)), some (.int (n : Int)), some (.lst true ((rI hs).map .int)), none, none, none, none, none, none, none, none, none, none, none, none, none] P' := by
  have hn := p.n
  obtain ⟨Q, hQ⟩ : ∃ Q, Q = hs.sum / hs.length := ⟨_, rfl⟩
  have hsum : hs.sum = hs.length * Q := by have := sum_dvd p; rw [Nat.mul_comm, hQ]; exact this.symm
  have wh := ov_Hh p.n (sgl_inj p) hsum
  have hQ14 : Q ≤ 14 := by
    have h1 : ∀ L : List Nat, (∀ y ∈ L, y ≤ 14) → L.sum ≤ L.length * 14 := by
      intro L
      induction L with
      | nil => intro _; exact Nat.le_refl _
      | cons a L ih =>
        intro hL
        rw [List.sum_cons, List.length_cons]
        have := ih fun y hy => hL y (List.mem_cons_of_mem _ hy)
        have := hL a List.mem_cons_self
        omega
    have h2 := h1 hs fun y hy => by have := (mx_mem hn).2 y hy; omega
    rw [hsum] at h2
    exact Nat.le_of_mul_le_mul_left h2 hn
  have hz : (Q + 1) * n ≤ 1000 := by
    have : (Q + 1) * n ≤ 15 * 5 := Nat.mul_le_mul (by omega) hn5
    omega
  have la : (ovL hs).length = n := by rw [← wh.ln, hln]
  have w := wh.w
  have rk := w.rank
  rw [la] at rk
  have hpos := cnt_pos Q (n := n) (by omega)
  have zH : fz (D.lst false ((rI hs).map .int)) = true := fz_lst_ints _
  have zA : fz (D.lst false ((rI (ovL hs)).map .int)) = true := fz_lst_ints _
  have lo := w_lov hs (.lst false ((rI hs).map .int)) _ p.n p.z (by omega) (frz_of _ zH) (rI_row hs)
  have r1 := w_rl (P := Q) (l := n) (z := false) (by omega) (by omega)
  have du := w_due (P := Q) (N0 := .lst false ((rI (ovL hs)).map .int)) (frz_of _ zA) (rI_row _) (by omega) (by omega) w.le
  have du' : Ret s__law_place_due [.int Q, .lst true ((rI (ovL hs)).map .int)] (.int (rankOf Q false (ovL hs) : Nat)) [some (.int Q), some (.lst false ((rI (ovL hs)).map .int))] := w_due (P := Q) (frz_li _) (rI_row _) (by omega) (by omega) w.le
  have pS : Ret s_Pattern_single [.cls (Str.ofString "Pattern"), .lst true ((rI hs).map .int)] (sgD true hs) [some (.cls (Str.ofString "Pattern")), some (.lst false ((rI hs).map .int))] := w_PatS hs (.lst true ((rI hs).map .int)) _ (frz_li _) (rI_row hs) p
  have pl := w_plR (n := n) (P0 := sgD true hs) wh la (by omega) hz (frz_sgD _ _)
  have nt := w_nth.ok (n := n) (P := Q) (by omega) (by omega) (by omega) rk.1 (by rw [rk.2]; exact wh)
  have hh := w_has (n := n) (N0 := .lst false ((rI (ovL hs)).map .int)) wh la hz (frz_of _ zA)
  have hw : Ret s__law_whole [.int ((rankOf Q false (ovL hs) : Nat) : Int)] (.bl true) [some (.int ((rankOf Q false (ovL hs) : Nat) : Int))] := w_law_whole _ rfl
  unfold lwM m_law
  simp only [dropS]
  refine r_asg (d := .int (Q : Int)) (as_castL (as_fdivL (as_sum (as_fr rfl (frz_li _)) rfl) (as_v rfl rfl) ⟨by omega, log_lt (by omega) (by omega)⟩) (by rw [rI_sum, hQ, hln]; push_cast; rfl)) ?_
  try dsimp only [putA, List.set_cons_succ, List.set_cons_zero]
  apply r_asg
  · and_intros
  try dsimp only [putA, List.set_cons_succ, List.set_cons_zero]
  apply r_asg
  · and_intros
  try dsimp only [putA, List.set_cons_succ, List.set_cons_zero]
  apply r_asg
  · and_intros
  try dsimp only [putA, List.set_cons_succ, List.set_cons_zero]
  apply r_asg
  · and_intros
  try dsimp only [putA, List.set_cons_succ, List.set_cons_zero]
  apply r_ifF
  · and_intros
    rfl
  try dsimp only [putA, List.set_cons_succ, List.set_cons_zero]
  apply r_asg
  · and_intros
  try dsimp only [putA, List.set_cons_succ, List.set_cons_zero]
  have m1 : As GV (.lc [11] (.it (.fv 3)) .nil (.tup (.cons (.var 11) .nil))) (.lst true ((sg hs).map rowT)) [some S, some (.lst true (ds.map .int)), some (.int (n : Int)), some (.lst false ((rI hs).map .int)), none, some (.int (Q : Int)), some (.lst false ((rI (ovL hs)).map .int)), some (.int (cnt Q false n : Nat)), some (.int (rankOf Q false (ovL hs) : Nat)), some (.int (rankOf Q false (ovL hs) : Nat)), some (sgD false hs), none, none, none, none, none, none] [some S, some (.lst true (ds.map .int)), some (.int (n : Int)), some (.lst false ((rI hs).map .int)), none, some (.int (Q : Int)), some (.lst false ((rI (ovL hs)).map .int)), some (.int (cnt Q false n : Nat)), some (.int (rankOf Q false (ovL hs) : Nat)), some (.int (rankOf Q false (ovL hs) : Nat)), some (sgD false hs), none, none, none, none, none, none] := by
    refine as_eq (as_map (xs := hs) (fun y : Nat => D.int (y : Int)) (fun y : Nat => rowT [y]) (ass_it (xs := hs.map fun y : Nat => D.int (y : Int)) (as_ff rfl zH) (by rw [itms, rI_map]) (by rw [← rI_map]; simp)) (by have := p.z; omega) fun b hb => as_tup (asv_c (as_v rfl rfl) asv_0)) ?_
    unfold sg
    rw [List.map_map]
    rfl
  apply r_ifF
  · apply as_orF
    · and_intros
    apply as_bop1
    apply as_neDF
    · exact pa_rows libG (as_ff rfl (fz_pa _ _))
    · exact as_tuple m1 rfl (fzs_rowT _)
    · exact rowsT_dat _
    · exact rowsT_dat _
    · exact rowsT_deq _
  try dsimp only [putA, List.set_cons_succ, List.set_cons_zero]
  apply r_asg
  · and_intros
  try dsimp only [putA, List.set_cons_succ, List.set_cons_zero]
  generalize ec : cnt Q false n = c at hpos
  refine r_for (ass_rg1 (n := 4) (by omega) as_i) ?_
  refine fr_rg (fun s en => ∃ (v : Nat) (y13 : Option D), v < c ∧ en = [some S, some (.lst true ((Nat.repeat List.dropLast s ds).map .int)), some (.int (n : Int)), some (.lst false ((rI hs).map .int)), none, some (.int (Q : Int)), some (.lst false ((rI (ovL hs)).map .int)), some (.int (c : Int)), some (.int (rankOf Q false (ovL hs) : Nat)), some (.int (rankOf Q false (ovL hs) : Nat)), some (sgD false hs), none, some (.int (v : Int)), y13, none, none, none]) ?_ ?_ ⟨0, none, hpos, rfl⟩
  · rintro s en K hs ⟨v, y13, hv, rfl⟩ hK
    try dsimp only [putA, List.set_cons_succ, List.set_cons_zero]
    obtain ⟨i, ei, hi⟩ := take_nat (Nat.repeat List.dropLast s ds) (m := 1000003) (by omega)
    refine r_asg (as_castL (y := (((v * 1000003 + i) % c : Nat) : Int)) (as_modL (as_int1 (as_add (as_mulX (as_v rfl rfl) as_i (.inr (by omega))) (as_take0 (ds := Nat.repeat List.dropLast s ds) rfl w_take (by omega) rfl as_i rfl))) (as_v rfl rfl) (by omega)) (by rw [ei, mod_step])) ?_
    rw [runs_0]
    exact hK _ ⟨_, _, Nat.mod_lt _ hpos, rfl⟩
  rintro en ⟨v, y13, hv, rfl⟩
  generalize Nat.repeat List.dropLast 4 ds = ds
  refine r_for (ass_it (xs := [.int (v : Int), .int 0, .int (((c - 1 : Nat)) : Int)]) (as_lst (asv_c (as_v rfl rfl) (asv_c as_i (asv_c (as_castL (as_sub (as_v rfl rfl) as_i) (by omega)) asv_0)))) rfl rfl) ?_
  refine fr_inv (fun ds' en => (∀ d ∈ ds', ∃ i : Nat, i < c ∧ d = .int (i : Int)) ∧ ∃ y14 y15, en = [some S, some (.lst true (ds.map .int)), some (.int (n : Int)), some (.lst false ((rI hs).map .int)), none, some (.int (Q : Int)), some (.lst false ((rI (ovL hs)).map .int)), some (.int (c : Int)), some (.int (rankOf Q false (ovL hs) : Nat)), some (.int (rankOf Q false (ovL hs) : Nat)), some (sgD false hs), none, some (.int (v : Int)), y13, y14, y15, none]) ?_ ?_ _ _ ⟨fun d hd => ?_, _, _, rfl⟩
  · rintro d ds' en K ⟨hd, y14, y15, rfl⟩ hK
    obtain ⟨i, hi, rfl⟩ := hd d List.mem_cons_self
    subst ec
    have wh' := hsOf_ok (rowAt_Rw (by omega) hi)
    have ra := w_rowat (n := n) (P := Q) (by omega) (by omega) hi
    have nt' := w_nth.ok (n := n) (P := Q) (by omega) (by omega) (by omega) hi wh'
    have hh' := w_has (n := n) (N0 := .lst true ((rI (rowAt Q n false i)).map .int)) wh' (rowAt_len ..) hz (frz_li _)
    have zG : fz (sgD false (hsOf Q (rowAt Q n false i))) = true := fz_pa _ _
    have pl' := w_plR (n := n) (P0 := sgD false (hsOf Q (rowAt Q n false i))) wh' (rowAt_len ..) (by omega) hz (frz_pa _ _ _)
    rw [rank_rowAt hi] at pl'
    simp only [bindW]
    try dsimp only [putA, List.set_cons_succ, List.set_cons_zero]
    apply r_asg
    · and_intros
    try dsimp only [putA, List.set_cons_succ, List.set_cons_zero]
    apply r_ifF
    · and_intros
      rfl
    rw [runs_0]
    exact hK _ ⟨fun d hd' => hd d (List.mem_cons_of_mem _ hd'), _, _, rfl⟩
  · rintro en ⟨_, y14, y15, rfl⟩
    subst ec
    obtain ⟨k1, e1, h1⟩ := take_nat ds (m := 3) (by omega)
    obtain ⟨k2, e2, h2⟩ := take_nat ds.dropLast (m := 4) (by omega)
    obtain ⟨k3, e3, h3⟩ := take_nat ds.dropLast.dropLast (m := 4) (by omega)
    obtain ⟨k4, e4, h4⟩ := take_nat ds.dropLast.dropLast.dropLast (m := 60) (by omega)
    obtain ⟨ds5, lg⟩ := w_long ds.dropLast.dropLast.dropLast.dropLast
    obtain ⟨ds6, gr⟩ := w_great ds.dropLast.dropLast.dropLast.dropLast
    have ls := w_listed (n := 1 + k1) (P := k2) (by omega) (by omega) (by omega)
    have ns := w_nots
    have rf := w_refu (n := n) (P := Q) (w := k3) (by omega) (by omega) (by omega) (by omega)
    have t3 := w_take ds.dropLast.dropLast 4 (by omega)
    rw [e3] at t3
    have t4 := w_take ds.dropLast.dropLast.dropLast 60 (by omega)
    rw [e4] at t4
    apply r_ifF
    · apply as_orF
      · apply as_ntF
        exact as_call rfl (asr_c (as_castL (y := ((1 + k1 : Nat) : Int)) (as_add as_i (as_take0 (ds := ds) rfl w_take (by omega) rfl as_i rfl)) (by rw [e1]; push_cast; rfl)) (asr_c (as_castL (as_take0 (ds := ds.dropLast) rfl w_take (by omega) rfl as_i rfl) e2) asr_0)) rfl ls rfl
      and_intros
    try dsimp only [putA, List.set_cons_succ, List.set_cons_zero]
    apply r_ifF
    · and_intros
    try dsimp only [putA, List.set_cons_succ, List.set_cons_zero]
    apply r_asg
    · and_intros
    try dsimp only [putA, List.set_cons_succ, List.set_cons_zero]
    by_cases h47 : k4 = 47
    · apply r_ifT
      · and_intros
        omega
      apply r_ret rfl
      · and_intros
      exact h _
    · apply r_ifF
      · and_intros
        omega
      by_cases h3' : k4 % 4 = 3
      · apply r_ifT
        · and_intros
          omega
        apply r_ret rfl
        · and_intros
        exact h _
      · apply r_ifF
        · and_intros
          omega
        exact r_ret rfl as_b (h _)
  · simp only [List.mem_cons, List.not_mem_nil, or_false] at hd
    rcases hd with rfl | rfl | rfl
    · exact ⟨v, hv, rfl⟩
    · exact ⟨0, hpos, rfl⟩
    · exact ⟨c - 1, by omega, rfl⟩
end Pf

namespace Pf
open PySem PySem.Spec PyProof.Rows L2
theorem law_true : ∀ ns : List Int, ns.length ≤ 63 → s_law [.lst false (ns.map D.int)] (fun d _ => d = .bl true) (fun _ _ _ => False) := by
  intro ns hl
  have eb : m_law = .cons (nthS 0 m_law) (.cons (nthS 1 m_law) (.cons (nthS 2 m_law) lwM)) := rfl
  refine ⟨rfl, ?_⟩
  rw [eb]
  unfold m_law
  simp only [nthS]
  simp only [List.map_cons, List.map_nil, List.cons_append, List.nil_append, Nat.reduceSub, List.replicate]
  generalize eS : D.lst false (ns.map D.int) = S
  have hS : fz S = true := by rw [← eS]; exact fz_lst_ints _
  refine r_asgP (Φ := fun d e => ∃ l : List Int, d = .lst true (l.map .int) ∧ e = [some S, none, none, none, none, none, none, none, none, none, none, none, none, none, none, none, none]) (asp_call (Ω := fun d us => ∃ l : List Int, d = .lst true (l.map .int) ∧ us = [some S]) rfl (asr_c (as_v (d := S) rfl hS) asr_0) rfl (fun q x hq => by rw [← eS] at hq ⊢; exact w_draws ns hl q x fun l => hq _ _ ⟨l, rfl, rfl⟩) (fun d us => by
    rintro ⟨l, rfl, rfl⟩
    exact ⟨l, rfl, rfl⟩)) fun d e => ?_
  rintro ⟨l, rfl, rfl⟩
  try dsimp only [putA, List.set_cons_succ, List.set_cons_zero]
  obtain ⟨k, ek, hk⟩ := take_nat l (m := 5) (by omega)
  obtain ⟨k2, ek2, hk2⟩ := take_nat l.dropLast (m := 3) (by omega)
  generalize en : 1 + k = n
  have hn : 0 < n := by omega
  refine r_asg (as_castL (y := (n : Int)) (as_add as_i (as_take0 (ds := l) rfl w_take (by omega) rfl as_i rfl)) (by rw [ek, ← en]; push_cast; rfl)) ?_
  try dsimp only [putA, List.set_cons_succ, List.set_cons_zero]
  have hl' : (ones n).length = n := by simp [ones]
  refine r_asgP (Φ := fun d e => ∃ (hs : List Nat) (ds' : List Int), hs.length = n ∧ SglOk hs ∧ mx hs ≤ 14 ∧ d = .lst true ((rI hs).map .int) ∧ e = [some S, some (.lst true (ds'.map .int)), some (.int (n : Int)), none, none, none, none, none, none, none, none, none, none, none, none, none, none]) (asp_call1 (Ψ := fun d e => ∃ (rows : List (List Nat)) (ds' : List Int), Drawn (ones n) (1 + k2) rows ∧ d = .lst true (lstR rows) ∧ e = [some S, some (.lst true (ds'.map .int)), some (.int (n : Int)), none, none, none, none, none, none, none, none, none, none, none, none, none, none]) rfl (asp_call (Ω := fun d us => ∃ (rows : List (List Nat)) (ds' : List Int), Drawn (ones n) (1 + k2) rows ∧ d = .lst true (lstR rows) ∧ us = [some (.lst true (ds'.map .int)), some (.lst false ((rI (ones n)).map .int)), some (.int ((1 + k2 : Nat) : Int))]) rfl (asr_o rfl (by simp) (asr_c (ones_ n (by omega) (as_v rfl rfl)) (asr_c (as_castL (y := ((1 + k2 : Nat) : Int)) (as_add as_i (as_take0 (ds := l.dropLast) rfl w_take (by omega) rfl as_i rfl)) (by rw [ek2]; push_cast; rfl)) asr_0))) rfl (fun q x hq => w_lawpat l.dropLast.dropLast (ones n) (.lst true ((rI (ones n)).map .int)) (.lst false ((rI (ones n)).map .int)) (1 + k2) (frz_li _) (rI_row _) (by omega) (by rw [hl']; exact hn) (by rw [hl']; omega) (fun r hr => by have := List.eq_of_mem_replicate hr; omega) (by unfold ones; rw [rep_sum]; omega) q x fun rows ds' hd => hq _ _ ⟨rows, ds', hd, rfl, rfl⟩) (fun d us => by
    rintro ⟨rows, ds', hd, rfl, rfl⟩
    exact ⟨rows, ds', hd, rfl, rfl⟩)) (fun d e => by
    rintro ⟨rows, ds', hd, rfl, rfl⟩
    obtain ⟨hs, q1, rfl, q3, q4⟩ := hd.sgl hn (by omega)
    refine ⟨_, _, w_flat (lstR_frz _) (flat_L hs) (by omega), hs, ds', q1, q3, ?_, rfl, rfl⟩
    have := q4 _ (mx_mem q3.n).1
    have h1 : (1 + k2) * n ≤ 3 * 5 := Nat.mul_le_mul (by omega) (by omega)
    omega)) fun d e => ?_
  rintro ⟨hs, ds', q1, q3, q5, rfl, rfl⟩
  try dsimp only [putA, List.set_cons_succ, List.set_cons_zero]
  exact w_main q3 q1 (by omega) q5 fun _ => rfl
end Pf


open PySem PySem.W PySem.Calls PyProof.Rows
theorem PySem.Challenge.cw_landings_k32_kth_pattern_holds : PySem.Challenge.rw_landings_k32_kth_pattern.Holds := by
  w_on; o_law
  refine HandSHeadRun.head_any (r := OpenLaw.row PySem.Challenge.rw_landings_k32_kth_pattern) (q := view (OpenLaw.row PySem.Challenge.rw_landings_k32_kth_pattern).prog [62]) (H := Pf.hk) (ob := Pf.ob) (M := 600000) (loose := ([("_wall" : PySem.Str), ("LandingsError" : PySem.Str), ("BadNumber" : PySem.Str), ("BadLine" : PySem.Str), ("BadThrows" : PySem.Str), ("NotPattern" : PySem.Str), ("NotSingle" : PySem.Str), ("OtherLine" : PySem.Str), ("BadRow" : PySem.Str), ("Stuck" : PySem.Str), ("TooMany" : PySem.Str), ("is_whole" : PySem.Str), ("is_row" : PySem.Str), ("check_whole" : PySem.Str), ("Line" : PySem.Str), ("spot_row" : PySem.Str), ("full_rows" : PySem.Str), ("_came_counts" : PySem.Str), ("_wrong_residue" : PySem.Str), ("_single_heights" : PySem.Str), ("Pattern" : PySem.Str), ("laid" : PySem.Str), ("_overtaking_row" : PySem.Str), ("_all_times" : PySem.Str), ("_power_of" : PySem.Str), ("how_many" : PySem.Str), ("overtakings" : PySem.Str), ("_check_overtakings" : PySem.Str), ("_height_from" : PySem.Str), ("pattern_by" : PySem.Str), ("_row_counts" : PySem.Str), ("place_of" : PySem.Str), ("nth" : PySem.Str), ("all_patterns" : PySem.Str), ("_law_draws" : PySem.Str), ("_law_take" : PySem.Str), ("_law_whole" : PySem.Str), ("_law_pattern" : PySem.Str), ("_law_overtakings" : PySem.Str), ("_law_flat" : PySem.Str), ("_law_power" : PySem.Str), ("_law_rows_left" : PySem.Str), ("_law_place_due" : PySem.Str), ("_law_row_at" : PySem.Str), ("_law_has_row" : PySem.Str), ("_law_no_nth" : PySem.Str), ("_law_list_refused" : PySem.Str), ("_law_not_single" : PySem.Str), ("_law_listed" : PySem.Str), ("_law_long_list" : PySem.Str), ("_law_great_places" : PySem.Str), ("_law_refusals" : PySem.Str)] : List PySem.Str)) (d := HandSHeadRun.topDef (OpenLaw.row PySem.Challenge.rw_landings_k32_kth_pattern).prog 62) (kwd := []) Pf.ob_eq
    (by kernel_rfl) (fun s => by kernel_rfl) Pf.hrun (by kernel_rfl) (by kernel_rfl) (by kernel_rfl) (by rfl) (by first | assumption | decide +kernel) (by decide +kernel) ⟨rfl, rfl, rfl, rfl, rfl, by decide +kernel⟩ ?hw ?hc
  case hw => w_witness2
  case hc =>
    refine L2.walk_ofE (l := PySem.Challenge.rw_landings_k32_kth_pattern) (n := 63) (k := 47) (x := "script") (CX := L2.CX0) rfl (by decide) (by kernel_rfl) ⟨rfl, by decide, by decide⟩ ?F (fun _ _ _ _ z => z)
    intro w mg fa h Y G hmg0
    obtain ⟨K, KX, c⟩ := Y
    have hmg : mg ("law" : PySem.Str) = some (.ref fa) := by
      have e : (HandSHeadRun.topDef (OpenLaw.row PySem.Challenge.rw_landings_k32_kth_pattern).prog 62).name = ("law" : PySem.Str) := by kernel_rfl
      rw [← e]
      exact hmg0
    obtain ⟨fd, hb, hK, hF⟩ := Pf.law_all (P := (PySem.Challenge.rw_landings_k32_kth_pattern).prog) (w := w) KX G hmg c
    exact ⟨K, fd, (fun vs H Q _ => Pf.spOf K (He.ga K) (Pf.mkP Pf.fs38 Pf.ms2 Pf.cs2 Pf.icL Pf.fkL Pf.exL Pf.emL Pf.ciL) Pf.s_law vs H Q L2.E0), KX, hb, fun H a ns hl _ hS => Pf.law_sp (n := 63) Pf.law_true hK hl hS, fun base _ _ => hF base⟩
