import PyProof.Rows.All
import Wide.All
import OpenK.AllK
import Wide.FinOn
import HandS.ForMost
import HandS.ForExc
import HandS.Wide
import HandS.TupAny
import HandS.TupMul
import HandS.TupLe
import HandS.Style
import HandS.SortOrd
import HandS.SortInts
import HandS.Conv
import HandS.IsInst
import HandS.TryMany
import HandS.TryOnly
import HandS.ExcInit
import HandS.ExcField
import HandS.ExcOwn
import HandS.Rev
import HandS.RevTup
import HandS.RevRange
import HandS.Flow
import HandS.Deep
import HandS.Iter
import HandS.Zip
import HandS.ClsMeth
import HandS.Property
import HandS.OwnEq
import HandS.HeadEnd
import HandS.HeadHook1
import HandS.HeadHook2
import HandS.Head0
import HandS.Head1
import HandS.Head2
import HandS.Small
import HandS.SetKeys
import HandS.Remove
import HandS.SetFor
import KE.SortData
import HandS.HeadHook4
import HandS.Head3
import PySem.Challenge.RW_landings_k86_sums_means_lots
set_option Elab.async false
set_option linter.all false
set_option maxRecDepth 100000
set_option maxHeartbeats 0
/-! Values as trees, and how the heap bears them. -/
namespace Pf
open PySem PySem.Spec PyProof.Rows L2

inductive D where
  | non | bl (b : Bool) | int (i : Int) | str (x : Str)
  | tup (xs : List D)
  | lst (o : Bool) (xs : List D)
  | ins (o : Bool) (c : Str) (ns : List Str) (fs : List D)
  | cls (c : Str)

mutual
def fz : D → Bool
  | .non => true
  | .bl _ => true
  | .int _ => true
  | .str _ => true
  | .tup xs => fzs xs
  | .lst o xs => !o && fzs xs
  | .ins o _ _ fs => !o && fzs fs
  | .cls _ => true
def fzs : List D → Bool
  | [] => true
  | d :: ds => fz d && fzs ds
end
mutual
def frz : D → D
  | .non => .non
  | .bl b => .bl b
  | .int i => .int i
  | .str x => .str x
  | .tup xs => .tup (frzs xs)
  | .lst _ xs => .lst false (frzs xs)
  | .ins _ c ns fs => .ins false c ns (frzs fs)
  | .cls c => .cls c
def frzs : List D → List D
  | [] => []
  | d :: ds => frz d :: frzs ds
end
mutual
theorem frz_of : ∀ d : D, fz d = true → frz d = d
  | .non, _ => rfl
  | .bl _, _ => rfl
  | .int _, _ => rfl
  | .str _, _ => rfl
  | .tup xs, h => by
    rw [frz, frzs_of xs (by rw [fz] at h; exact h)]
  | .lst o xs, h => by
    rw [fz, Bool.and_eq_true] at h
    rw [frz, frzs_of xs h.2]
    cases o with
    | false => rfl
    | true => cases h.1
  | .ins o _ _ fs, h => by
    rw [fz, Bool.and_eq_true] at h
    rw [frz, frzs_of fs h.2]
    cases o with
    | false => rfl
    | true => cases h.1
  | .cls _, _ => rfl
theorem frzs_of : ∀ ds : List D, fzs ds = true → frzs ds = ds
  | [], _ => rfl
  | d :: ds, h => by
    rw [fzs, Bool.and_eq_true] at h
    rw [frzs, frz_of d h.1, frzs_of ds h.2]
end
mutual
theorem fz_frz : ∀ d : D, fz (frz d) = true
  | .non => rfl
  | .bl _ => rfl
  | .int _ => rfl
  | .str _ => rfl
  | .tup xs => by rw [frz, fz]; exact fzs_frzs xs
  | .lst o xs => by rw [frz, fz, fzs_frzs xs]; rfl
  | .ins o _ _ fs => by rw [frz, fz, fzs_frzs fs]; rfl
  | .cls _ => rfl
theorem fzs_frzs : ∀ ds : List D, fzs (frzs ds) = true
  | [] => rfl
  | d :: ds => by rw [frzs, fzs, fz_frz d, fzs_frzs ds]; rfl
end
theorem fzs_iff : ∀ ds : List D, fzs ds = true ↔ ∀ d ∈ ds, fz d = true
  | [] => by simp [fzs]
  | d :: ds => by simp [fzs, fzs_iff ds]
theorem fzs_append (xs ys : List D) : fzs (xs ++ ys) = (fzs xs && fzs ys) := by
  induction xs with
  | nil => simp [fzs]
  | cons d ds ih => simp [fzs, ih, Bool.and_assoc]
theorem fzs_sub {xs ys : List D} (h : fzs ys = true) (s : ∀ d ∈ xs, d ∈ ys) : fzs xs = true :=
  (fzs_iff xs).mpr fun d hd => (fzs_iff ys).mp h d (s d hd)

/-- a set of addresses -/
abbrev AS := Addr → Prop
abbrev AS.no : AS := fun _ => False
/-- what never changes once it stands -/
def stat : HO → Bool
  | .tup _ => true
  | .xd _ => true
  | .frz _ _ => true
  | .own _ => true
  | _ => false

section
variable (K : PySem.W.Frag) (g : Str → Addr) (Z : AS) (H : Hp)
mutual
/-- the value v stands for d; O: the addresses that it may own -/
inductive Rep : D → V → AS → Prop
  | non {O : AS} : Rep .non .non O
  | bl {O : AS} (b : Bool) : Rep (.bl b) (.bl b) O
  | int {O : AS} (i : Int) : Rep (.int i) (.int i) O
  | str {O : AS} (x : Str) : Rep (.str x) (.str x) O
  | tup {O : AS} {a : Addr} {ds : List D} {vs : List V} (e : SqT K H a vs) (r : RepL ds vs O) : Rep (.tup ds) (.ref a) O
  | lstO {O O' : AS} {a : Addr} {ds : List D} {vs : List V} (e : H a = some (.lst vs)) (oa : O a) (s : ∀ b, O' b → O b ∧ b ≠ a) (r : RepL ds vs O') : Rep (.lst true ds) (.ref a) O
  | lstF {O : AS} {a : Addr} {ds : List D} {vs : List V} (z : Z a) (e : Rd H a (.lst vs)) (r : RepL ds vs AS.no) : Rep (.lst false ds) (.ref a) O
  | insO {O O' : AS} {a dx : Addr} {c : Str} {ns : List Str} {fs : List D} {vs : List V} (e : H a = some (.ins (g c) dx (ns.zip vs))) (hl : ns.length = vs.length) (oa : O a) (s : ∀ b, O' b → O b ∧ b ≠ a) (r : RepL fs vs O') : Rep (.ins true c ns fs) (.ref a) O
  | insF {O : AS} {a dx : Addr} {c : Str} {ns : List Str} {fs : List D} {vs : List V} (z : Z a) (e : H a = some (.ins (g c) dx (ns.zip vs))) (hl : ns.length = vs.length) (r : RepL fs vs AS.no) : Rep (.ins false c ns fs) (.ref a) O
  | cls {O : AS} (c : Str) : Rep (.cls c) (.ref (g c)) O
inductive RepL : List D → List V → AS → Prop
  | nil {O : AS} : RepL [] [] O
  | cons {O O1 O2 : AS} {d : D} {v : V} {ds : List D} {vs : List V} (s1 : ∀ b, O1 b → O b) (s2 : ∀ b, O2 b → O b ∧ ¬ O1 b) (r : Rep d v O1) (t : RepL ds vs O2) : RepL (d :: ds) (v :: vs) O
end
end
section
variable {K : PySem.W.Frag} {g : Str → Addr} {Z Z' : AS} {H H' : Hp}
/-- more may be owned -/
theorem Rep.up {d : D} {v : V} {O O' : AS} (r : Rep K g Z H d v O) (s : ∀ b, O b → O' b) : Rep K g Z H d v O' := by
  cases r with
  | non => exact .non
  | bl b => exact .bl b
  | int i => exact .int i
  | str x => exact .str x
  | tup e r => 
    cases r with
    | nil => exact .tup e .nil
    | cons s1 s2 r t => exact .tup e (.cons (fun b h => s b (s1 b h)) (fun b h => ⟨s b (s2 b h).1, (s2 b h).2⟩) r t)
  | lstO e oa s' r => exact .lstO e (s _ oa) (fun b h => ⟨s b (s' b h).1, (s' b h).2⟩) r
  | lstF z e r => exact .lstF z e r
  | insO e hl oa s' r => exact .insO e hl (s _ oa) (fun b h => ⟨s b (s' b h).1, (s' b h).2⟩) r
  | insF z e hl r => exact .insF z e hl r
  | cls c => exact .cls c
theorem RepL.up {ds : List D} {vs : List V} {O O' : AS} (r : RepL K g Z H ds vs O) (s : ∀ b, O b → O' b) : RepL K g Z H ds vs O' := by
  cases r with
  | nil => exact .nil
  | cons s1 s2 r t => exact .cons (fun b h => s b (s1 b h)) (fun b h => ⟨s b (s2 b h).1, (s2 b h).2⟩) r t
theorem RepL.length {ds : List D} {vs : List V} {O : AS} (r : RepL K g Z H ds vs O) : ds.length = vs.length := by
  induction ds generalizing vs O with
  | nil => cases r; rfl
  | cons d ds ih =>
    cases r with
    | cons s1 s2 r t => rw [List.length_cons, List.length_cons, ih t]
/-- what a step keeps -/
def Keep (Z O : AS) (H H' : Hp) : Prop := ∀ a x, H a = some x → (Z a ∨ O a ∨ stat x = true) → H' a = some x
theorem SqT.keep {a : Addr} {vs : List V} {O : AS} (e : SqT K H a vs) (k : Keep Z O H H') : SqT K H' a vs := by
  rcases e with (e | ⟨o, e⟩) | e
  · exact .inl (.inl (k a _ e (.inr (.inr rfl))))
  · exact .inl (.inr ⟨o, k a _ e (.inr (.inr rfl))⟩)
  · exact .inr e
mutual
theorem Rep.keep : ∀ {d : D} {v : V} {O : AS}, Rep K g Z H d v O → (∀ a, Z a → Z' a) → Keep Z O H H' → Rep K g Z' H' d v O
  | _, _, _, .non, _, _ => .non
  | _, _, _, .bl b, _, _ => .bl b
  | _, _, _, .int i, _, _ => .int i
  | _, _, _, .str x, _, _ => .str x
  | _, _, _, .tup e r, hz, k => .tup (SqT.keep e k) (RepL.keep r hz k)
  | _, _, _, .lstO e oa s r, hz, k => .lstO (k _ _ e (.inr (.inl oa))) oa s (RepL.keep r hz fun a x h q => k a x h (q.imp id fun q => q.imp (fun q => (s a q).1) id))
  | _, _, _, .lstF z e r, hz, k => .lstF (hz _ z) (by
      rcases e with e | ⟨o, e⟩
      · exact .inl (k _ _ e (.inl z))
      · exact .inr ⟨o, k _ _ e (.inl z)⟩) (RepL.keep r hz fun a x h q => k a x h (q.imp id fun q => q.imp (fun q => q.elim) id))
  | _, _, _, .insO e hl oa s r, hz, k => .insO (k _ _ e (.inr (.inl oa))) hl oa s (RepL.keep r hz fun a x h q => k a x h (q.imp id fun q => q.imp (fun q => (s a q).1) id))
  | _, _, _, .insF z e hl r, hz, k => .insF (hz _ z) (k _ _ e (.inl z)) hl (RepL.keep r hz fun a x h q => k a x h (q.imp id fun q => q.imp (fun q => q.elim) id))
  | _, _, _, .cls c, _, _ => .cls c
theorem RepL.keep : ∀ {ds : List D} {vs : List V} {O : AS}, RepL K g Z H ds vs O → (∀ a, Z a → Z' a) → Keep Z O H H' → RepL K g Z' H' ds vs O
  | _, _, _, .nil, _, _ => .nil
  | _, _, _, .cons s1 s2 r t, hz, k => .cons s1 s2 (Rep.keep r hz fun a x h q => k a x h (q.imp id fun q => q.imp (s1 a) id)) (RepL.keep t hz fun a x h q => k a x h (q.imp id fun q => q.imp (fun q => (s2 a q).1) id))
end
mutual
/-- what is frozen owns nothing -/
theorem Rep.none : ∀ {d : D} {v : V} {O : AS}, Rep K g Z H d v O → fz d = true → Rep K g Z H d v AS.no
  | _, _, _, .non, _ => .non
  | _, _, _, .bl b, _ => .bl b
  | _, _, _, .int i, _ => .int i
  | _, _, _, .str x, _ => .str x
  | _, _, _, .tup e r, h => .tup e (RepL.none r (by rw [fz] at h; exact h))
  | _, _, _, .lstO e oa s r, h => by rw [fz] at h; cases h
  | _, _, _, .lstF z e r, h => .lstF z e r
  | _, _, _, .insO e hl oa s r, h => by rw [fz] at h; cases h
  | _, _, _, .insF z e hl r, h => .insF z e hl r
  | _, _, _, .cls c, _ => .cls c
theorem RepL.none : ∀ {ds : List D} {vs : List V} {O : AS}, RepL K g Z H ds vs O → fzs ds = true → RepL K g Z H ds vs AS.no
  | _, _, _, .nil, _ => .nil
  | _, _, _, .cons s1 s2 r t, h => by
    rw [fzs, Bool.and_eq_true] at h
    exact .cons (fun _ x => x) (fun _ x => x.elim) (Rep.none r h.1) (RepL.none t h.2)
end
mutual
/-- frozen: all that was owned may not change any more -/
theorem Rep.frz : ∀ {d : D} {v : V} {O : AS}, Rep K g Z H d v O → (∀ a, Z a ∨ O a → Z' a) → Rep K g Z' H (frz d) v AS.no
  | _, _, _, .non, _ => .non
  | _, _, _, .bl b, _ => .bl b
  | _, _, _, .int i, _ => .int i
  | _, _, _, .str x, _ => .str x
  | _, _, _, .tup e r, h => .tup e (RepL.frz r h)
  | _, _, _, .lstO e oa s r, h => .lstF (h _ (.inr oa)) (.inl e) (RepL.frz r fun a q => h a (q.imp id fun q => (s a q).1))
  | _, _, _, .lstF z e r, h => .lstF (h _ (.inl z)) e (RepL.frz r fun a q => h a (q.imp id fun q => q.elim))
  | _, _, _, .insO e hl oa s r, h => .insF (h _ (.inr oa)) e hl (RepL.frz r fun a q => h a (q.imp id fun q => (s a q).1))
  | _, _, _, .insF z e hl r, h => .insF (h _ (.inl z)) e hl (RepL.frz r fun a q => h a (q.imp id fun q => q.elim))
  | _, _, _, .cls c, _ => .cls c
theorem RepL.frz : ∀ {ds : List D} {vs : List V} {O : AS}, RepL K g Z H ds vs O → (∀ a, Z a ∨ O a → Z' a) → RepL K g Z' H (frzs ds) vs AS.no
  | _, _, _, .nil, _ => .nil
  | _, _, _, .cons s1 s2 r t, h => .cons (fun _ x => x) (fun _ x => x.elim) (Rep.frz r fun a q => h a (q.imp id (s1 a))) (RepL.frz t fun a q => h a (q.imp id fun q => (s2 a q).1))
end
/-- one item of many -/
theorem RepL.get {ds : List D} {vs : List V} {O : AS} (r : RepL K g Z H ds vs O) {i : Nat} {d : D} (h : ds[i]? = some d) : ∃ v, vs[i]? = some v ∧ Rep K g Z H d v O := by
  induction ds generalizing vs O i with
  | nil => cases h
  | cons x xs ih =>
    cases r with
    | cons s1 s2 r t =>
      cases i with
      | zero =>
        cases h
        exact ⟨_, rfl, r.up s1⟩
      | succ i =>
        obtain ⟨v, e, q⟩ := ih t (i := i) h
        exact ⟨v, e, q.up fun b z => (s2 b z).1⟩
theorem RepL.ofNo {ds : List D} {vs : List V} (hl : ds.length = vs.length) (h : ∀ (i : Nat) (d : D) (v : V), ds[i]? = some d → vs[i]? = some v → Rep K g Z H d v AS.no) {O : AS} : RepL K g Z H ds vs O := by
  induction ds generalizing vs O with
  | nil =>
    cases vs with
    | nil => exact .nil
    | cons _ _ => cases hl
  | cons x xs ih =>
    cases vs with
    | nil => cases hl
    | cons v vs =>
      refine .cons (O1 := AS.no) (O2 := AS.no) (fun _ z => z.elim) (fun _ z => z.elim) (h 0 x v rfl rfl) ?_
      exact ih (by simpa using hl) fun i d v h1 h2 => h (i + 1) d v h1 h2
theorem RepL.app {xs ys : List D} {vs ws : List V} {O O1 O2 : AS} (r : RepL K g Z H xs vs O1) (t : RepL K g Z H ys ws O2) (s1 : ∀ b, O1 b → O b) (s2 : ∀ b, O2 b → O b ∧ ¬ O1 b) : RepL K g Z H (xs ++ ys) (vs ++ ws) O := by
  induction xs generalizing vs O O1 with
  | nil =>
    cases r
    exact t.up fun b z => (s2 b z).1
  | cons x xs ih =>
    cases r with
    | @cons _ A B _ _ _ _ a1 a2 r q =>
      refine .cons (O1 := A) (O2 := fun b => B b ∨ O2 b) (fun b z => s1 b (a1 b z)) (fun b z => ?_) r (ih q (O := fun b => B b ∨ O2 b) (fun b z => .inl z) fun b z => ⟨.inr z, fun y => (s2 b z).2 (a2 b y).1⟩)
      rcases z with z | z
      · exact ⟨s1 b (a2 b z).1, (a2 b z).2⟩
      · exact ⟨(s2 b z).1, fun y => (s2 b z).2 (a1 b y)⟩
/-- ints -/
theorem RepL.ints {ns : List Int} {O : AS} : RepL K g Z H (ns.map D.int) (ns.map V.int) O := by
  induction ns with
  | nil => exact .nil
  | cons n ns ih => exact .cons (O1 := AS.no) (O2 := O) (fun _ z => z.elim) (fun _ z => ⟨z, id⟩) (.int n) ih
theorem RepL.intsV {ns : List Int} {vs : List V} {O : AS} (r : RepL K g Z H (ns.map D.int) vs O) : vs = ns.map V.int := by
  induction ns generalizing vs O with
  | nil => cases r; rfl
  | cons n ns ih =>
    cases r with
    | cons s1 s2 r t =>
      cases r
      rw [ih t]
      rfl
theorem RepL.blsV {ns : List Bool} {vs : List V} {O : AS} (r : RepL K g Z H (ns.map D.bl) vs O) : vs = ns.map V.bl := by
  induction ns generalizing vs O with
  | nil => cases r; rfl
  | cons n ns ih =>
    cases r with
    | cons s1 s2 r t =>
      cases r
      rw [ih t]
      rfl
end
@[simp] theorem fzs_ints (ns : List Int) : fzs (ns.map D.int) = true := by
  induction ns with
  | nil => rfl
  | cons n ns ih => exact ih
@[simp] theorem frzs_ints (ns : List Int) : frzs (ns.map D.int) = ns.map D.int := frzs_of _ (fzs_ints ns)
end Pf

/-! The state of a body: the names' values, what is in flight, who may change what. -/
namespace Pf
open PySem PySem.Spec PyProof.Rows L2

abbrev Sg := L2.St
abbrev En := List (Option D)
/-- in flight: a value, or a name's own list -/
inductive R where
  | v (d : D) | s (i : Nat)
structure Bs where
  H : Hp
  Z : AS
  O : AS
  pin : List (Nat × V) := []
  ts : List D := []
  tv : List V := []

section
variable (K : PySem.W.Frag) (g : Str → Addr) (Z : AS) (H : Hp)
inductive RepE : En → Sg → AS → Prop
  | nil {O : AS} : RepE [] [] O
  | un {O : AS} {en : En} {σ : Sg} {x : Option V} (t : RepE en σ O) : RepE (none :: en) (x :: σ) O
  | has {O O1 O2 : AS} {d : D} {v : V} {en : En} {σ : Sg} (s1 : ∀ b, O1 b → O b) (s2 : ∀ b, O2 b → O b ∧ ¬ O1 b) (r : Rep K g Z H d v O1) (t : RepE en σ O2) : RepE (some d :: en) (some v :: σ) O
inductive RepT (σ : Sg) : List R → List V → AS → Prop
  | nil {O : AS} : RepT σ [] [] O
  | v {O O1 O2 : AS} {d : D} {v : V} {rs : List R} {vs : List V} (s1 : ∀ b, O1 b → O b) (s2 : ∀ b, O2 b → O b ∧ ¬ O1 b) (r : Rep K g Z H d v O1) (t : RepT σ rs vs O2) : RepT σ (.v d :: rs) (v :: vs) O
  | s {O : AS} {i : Nat} {v : V} {rs : List R} {vs : List V} (e : σ[i]? = some (some v)) (t : RepT σ rs vs O) : RepT σ (.s i :: rs) (v :: vs) O
end
/-- against the entry B -/
structure Good (B : Bs) (Z O : AS) (H : Hp) : Prop where
  dj : ∀ a, O a → Z a → False
  trO : ∀ a, O a → ∃ x, H a = some x ∧ stat x = false
  trZ : ∀ a, Z a → H a ≠ none
  fr : ∀ a x, B.H a = some x → ¬ B.O a → H a = some x
  dom : ∀ a, B.H a ≠ none → H a ≠ none
  zz : ∀ a, B.Z a → Z a
  zn : ∀ a, Z a → B.Z a ∨ B.O a ∨ B.H a = none
  on : ∀ a, O a → B.O a ∨ B.H a = none
theorem Good.sub {B : Bs} {Z O O' : AS} {H : Hp} (q : Good B Z O H) (s : ∀ a, O' a → O a) : Good B Z O' H :=
  ⟨fun a h => q.dj a (s a h), fun a h => q.trO a (s a h), q.trZ, q.fr, q.dom, q.zz, q.zn, fun a h => q.on a (s a h)⟩
theorem Good.nonew {B : Bs} {Z O : AS} {H : Hp} (q : Good B Z O H) {p : Addr} (hp : H p = none) : ¬ O p ∧ ¬ Z p ∧ B.H p = none :=
  ⟨fun h => (by obtain ⟨x, e, _⟩ := q.trO p h; rw [hp] at e; cases e), fun h => q.trZ p h hp, (by
    cases e : B.H p with
    | none => rfl
    | some x => exact absurd hp (q.dom p (by rw [e]; intro z; cases z)))⟩
theorem upd_new {H : Hp} {p a : Addr} {x y : HO} (hp : H p = none) (h : H a = some y) : upd H p x a = some y := by
  rw [upd_ne (ne_of_none h hp)]
  exact h
theorem upd_dom {H : Hp} {p a : Addr} {x : HO} (h : H a ≠ none) : upd H p x a ≠ none := by
  by_cases e : a = p
  · rw [e, upd_same]
    intro z
    cases z
  · rw [upd_ne e]
    exact h
theorem Good.new {B : Bs} {Z O : AS} {H : Hp} {x : HO} {p : Addr} (q : Good B Z O H) (hp : H p = none) : Good B Z O (upd H p x) :=
  ⟨q.dj, fun a h => (by
    obtain ⟨y, e, s⟩ := q.trO a h
    exact ⟨y, upd_new hp e, s⟩), fun a h => upd_dom (q.trZ a h), fun a y h n => upd_new hp (q.fr a y h n), fun a h => upd_dom (q.dom a h), q.zz, q.zn, q.on⟩
theorem Good.newO {B : Bs} {Z O : AS} {H : Hp} {x : HO} {p : Addr} (q : Good B Z O H) (hp : H p = none) (hs : stat x = false) : Good B Z (fun a => O a ∨ a = p) (upd H p x) := by
  have n := q.nonew hp
  have q' := q.new (x := x) hp
  exact ⟨fun a h z => h.elim (fun h => q.dj a h z) fun h => n.2.1 (h ▸ z), fun a h => h.elim (q'.trO a) fun h => ⟨x, (by rw [h, upd_same]), hs⟩, q'.trZ, q'.fr, q'.dom, q.zz, q.zn, fun a h => h.elim (q.on a) fun h => .inr (h ▸ n.2.2)⟩
theorem Good.mut {B : Bs} {Z O : AS} {H : Hp} {x : HO} {p : Addr} (q : Good B Z O H) (hp : O p) (hs : stat x = false) : Good B Z O (upd H p x) :=
  ⟨q.dj, fun a h => (by
    by_cases e : a = p
    · exact ⟨x, by rw [e, upd_same], hs⟩
    · obtain ⟨y, e1, s⟩ := q.trO a h
      exact ⟨y, by rw [upd_ne e]; exact e1, s⟩), fun a h => upd_dom (q.trZ a h), fun a y h n => (by
    by_cases e : a = p
    · rcases q.on p hp with o | o
      · exact absurd (e ▸ o) n
      · rw [← e, h] at o
        cases o
    · rw [upd_ne e]
      exact q.fr a y h n), fun a h => upd_dom (q.dom a h), q.zz, q.zn, q.on⟩
theorem Good.frz {B : Bs} {Z O O1 O2 : AS} {H : Hp} (q : Good B Z O H) (s1 : ∀ a, O1 a → O a) (s2 : ∀ a, O2 a → O a ∧ ¬ O1 a) : Good B (fun a => Z a ∨ O1 a) O2 H :=
  ⟨fun a h z => z.elim (q.dj a (s2 a h).1) (s2 a h).2, fun a h => q.trO a (s2 a h).1, fun a h => h.elim (q.trZ a) fun h => (by
    obtain ⟨x, e, _⟩ := q.trO a (s1 a h)
    rw [e]
    intro z
    cases z), q.fr, q.dom, fun a h => .inl (q.zz a h), fun a h => h.elim (q.zn a) fun h => .inr (q.on a (s1 a h)), fun a h => q.on a (s2 a h).1⟩
theorem keep_new {Z O : AS} {H : Hp} {x : HO} {p : Addr} (hp : H p = none) : Keep Z O H (upd H p x) := fun _ _ h _ => upd_new hp h
/-- what others own stays behind a write -/
theorem Good.keep {B : Bs} {Z O O2 : AS} {H : Hp} {x : HO} {p : Addr} (q : Good B Z O H) (hp : O p) (n : ¬ O2 p) : Keep Z O2 H (upd H p x) := fun a y h c => by
  have e : a ≠ p := fun e => by
    subst e
    rcases c with c | c | c
    · exact q.dj a hp c
    · exact n c
    · obtain ⟨z, e, s⟩ := q.trO a hp
      rw [h] at e
      cases e
      rw [c] at s
      cases s
  rw [upd_ne e]
  exact h

section
variable {K : PySem.W.Frag} {g : Str → Addr} {Z Z' : AS} {H H' : Hp}
theorem RepE.up {en : En} {σ : Sg} {O O' : AS} (r : RepE K g Z H en σ O) (s : ∀ b, O b → O' b) : RepE K g Z H en σ O' := by
  induction r with
  | nil => exact .nil
  | un t ih => exact .un (ih s)
  | has s1 s2 r t ih => exact .has (fun b h => s b (s1 b h)) (fun b h => ⟨s b (s2 b h).1, (s2 b h).2⟩) r t
theorem RepT.up {σ : Sg} {rs : List R} {vs : List V} {O O' : AS} (r : RepT K g Z H σ rs vs O) (s : ∀ b, O b → O' b) : RepT K g Z H σ rs vs O' := by
  induction r with
  | nil => exact .nil
  | v s1 s2 r t ih => exact .v (fun b h => s b (s1 b h)) (fun b h => ⟨s b (s2 b h).1, (s2 b h).2⟩) r t
  | s e t ih => exact .s e (ih s)
theorem RepE.len {en : En} {σ : Sg} {O : AS} (r : RepE K g Z H en σ O) : en.length = σ.length := by
  induction r with
  | nil => rfl
  | un t ih => rw [List.length_cons, List.length_cons, ih]
  | has s1 s2 r t ih => rw [List.length_cons, List.length_cons, ih]
theorem RepE.keep {en : En} {σ : Sg} {O : AS} (r : RepE K g Z H en σ O) (hz : ∀ a, Z a → Z' a) (k : Keep Z O H H') : RepE K g Z' H' en σ O := by
  induction r with
  | nil => exact .nil
  | un t ih => exact .un (ih k)
  | has s1 s2 r t ih => exact .has s1 s2 (r.keep hz fun a x h q => k a x h (q.imp id fun q => q.imp (s1 a) id)) (ih fun a x h q => k a x h (q.imp id fun q => q.imp (fun q => (s2 a q).1) id))
theorem RepT.keep {σ : Sg} {rs : List R} {vs : List V} {O : AS} (r : RepT K g Z H σ rs vs O) (hz : ∀ a, Z a → Z' a) (k : Keep Z O H H') : RepT K g Z' H' σ rs vs O := by
  induction r with
  | nil => exact .nil
  | v s1 s2 r t ih => exact .v s1 s2 (r.keep hz fun a x h q => k a x h (q.imp id fun q => q.imp (s1 a) id)) (ih fun a x h q => k a x h (q.imp id fun q => q.imp (fun q => (s2 a q).1) id))
  | s e t ih => exact .s e (ih k)
theorem RepE.split {en : En} {σ : Sg} {O : AS} (r : RepE K g Z H en σ O) {i : Nat} {d : D} (h : en[i]? = some (some d)) :
    ∃ v O1 O2, σ[i]? = some (some v) ∧ Rep K g Z H d v O1 ∧ RepE K g Z H (en.set i none) σ O2 ∧ (∀ b, O1 b → O b) ∧ ∀ b, O2 b → O b ∧ ¬ O1 b := by
  induction r generalizing i with
  | nil => cases h
  | un t ih =>
    cases i with
    | zero => cases h
    | succ i =>
      obtain ⟨v, O1, O2, e, r, q, s1, s2⟩ := ih h
      exact ⟨v, O1, O2, e, r, .un q, s1, s2⟩
  | @has O A B d' v' en σ a1 a2 r t ih =>
    cases i with
    | zero =>
      cases h
      exact ⟨v', A, B, rfl, r, .un t, a1, a2⟩
    | succ i =>
      obtain ⟨v, O1, O2, e, r', q, s1, s2⟩ := ih h
      refine ⟨v, O1, fun b => A b ∨ O2 b, e, r', .has (O1 := A) (O2 := O2) (fun b h => .inl h) (fun b h => ⟨.inr h, fun y => (a2 b (s2 b h).1).2 y⟩) r q, fun b h => (a2 b (s1 b h)).1, fun b h => ?_⟩
      rcases h with h | h
      · exact ⟨a1 b h, fun y => (a2 b (s1 b y)).2 h⟩
      · exact ⟨(a2 b (s2 b h).1).1, (s2 b h).2⟩
/-- name i holds d, at the place where its value stands -/
theorem RepE.put {en : En} {σ : Sg} {O O1 O2 : AS} (r : RepE K g Z H en σ O2) {i : Nat} {d : D} {v : V} (h : σ[i]? = some (some v)) (q : Rep K g Z H d v O1) (s1 : ∀ b, O1 b → O b) (s2 : ∀ b, O2 b → O b ∧ ¬ O1 b) :
    RepE K g Z H (en.set i (some d)) σ O := by
  induction r generalizing i O with
  | nil => cases h
  | @un A en' σ' x t ih =>
    cases i with
    | zero =>
      cases h
      exact .has s1 s2 q t
    | succ i => exact .un (ih h s1 s2)
  | @has A B C d' v' en' σ' a1 a2 r t ih =>
    cases i with
    | zero =>
      cases h
      exact .has s1 (fun b z => s2 b (a2 b z).1) q t
    | succ i =>
      refine .has (O1 := B) (O2 := fun b => O1 b ∨ C b) (fun b z => (s2 b (a1 b z)).1) (fun b z => ?_) r (ih h (fun b z => .inl z) fun b z => ⟨.inr z, (s2 b (a2 b z).1).2⟩)
      rcases z with z | z
      · exact ⟨s1 b z, fun y => (s2 b (a1 b y)).2 z⟩
      · exact ⟨(s2 b (a2 b z).1).1, (a2 b z).2⟩
/-- name i gets v -/
theorem RepE.asg {en : En} {σ : Sg} {O O1 O2 : AS} (r : RepE K g Z H en σ O2) {i : Nat} {d : D} {v : V} (h : i < σ.length) (q : Rep K g Z H d v O1) (s1 : ∀ b, O1 b → O b) (s2 : ∀ b, O2 b → O b ∧ ¬ O1 b) :
    RepE K g Z H (en.set i (some d)) (σ.set i (some v)) O := by
  induction r generalizing i O with
  | nil => cases h
  | @un A en' σ' x t ih =>
    cases i with
    | zero => exact .has s1 s2 q t
    | succ i => exact .un (ih (Nat.lt_of_succ_lt_succ h) s1 s2)
  | @has A B C d' v' en' σ' a1 a2 r t ih =>
    cases i with
    | zero => exact .has s1 (fun b z => s2 b (a2 b z).1) q t
    | succ i =>
      refine .has (O1 := B) (O2 := fun b => O1 b ∨ C b) (fun b z => (s2 b (a1 b z)).1) (fun b z => ?_) r (ih (Nat.lt_of_succ_lt_succ h) (fun b z => .inl z) fun b z => ⟨.inr z, (s2 b (a2 b z).1).2⟩)
      rcases z with z | z
      · exact ⟨s1 b z, fun y => (s2 b (a1 b y)).2 z⟩
      · exact ⟨(s2 b (a2 b z).1).1, (a2 b z).2⟩
/-- name i is forgotten -/
theorem RepE.off {en : En} {σ : Sg} {O : AS} (r : RepE K g Z H en σ O) (i : Nat) : RepE K g Z H (en.set i none) σ O := by
  induction r generalizing i with
  | nil => exact .nil
  | un t ih =>
    cases i with
    | zero => exact .un t
    | succ i => exact .un (ih i)
  | has s1 s2 r t ih =>
    cases i with
    | zero => exact .un (t.up fun b z => (s2 b z).1)
    | succ i => exact .has s1 s2 r (ih i)
/-- whatever stands where en knows nothing -/
theorem RepE.any {en : En} {σ : Sg} {O : AS} (r : RepE K g Z H en σ O) {i : Nat} (h : en[i]? = some none) (x : Option V) : RepE K g Z H en (σ.set i x) O := by
  induction r generalizing i with
  | nil => cases h
  | un t ih =>
    cases i with
    | zero => exact .un t
    | succ i => exact .un (ih h)
  | has s1 s2 r t ih =>
    cases i with
    | zero => cases h
    | succ i => exact .has s1 s2 r (ih h)
end
section
variable (K : PySem.W.Frag) (g : Str → Addr)
/-- the state -/
def SR (B : Bs) (en : En) (rs : List R) (σ : Sg) (vs : List V) (H : Hp) : Prop :=
  ∃ Z O O1 O2, RepE K g Z H en σ O1 ∧ RepT K g Z H σ rs vs O2 ∧ (∀ b, O1 b → O b) ∧ (∀ b, O2 b → O b ∧ ¬ O1 b) ∧ Good B Z O H ∧ ∀ p ∈ B.pin, σ[p.1]? = some (some p.2)
end
section
variable {K : PySem.W.Frag} {g : Str → Addr} {B : Bs} {en : En} {rs : List R} {σ : Sg} {vs : List V} {H : Hp}
theorem SR.len (h : SR K g B en rs σ vs H) : en.length = σ.length := by
  obtain ⟨_, _, _, _, r, _⟩ := h
  exact r.len
/-- a value without objects comes -/
theorem SR.flat {d : D} {v : V} (h : SR K g B en rs σ vs H) (r : ∀ Z, Rep K g Z H d v AS.no) : SR K g B en (.v d :: rs) σ (v :: vs) H := by
  obtain ⟨Z, O, O1, O2, e, t, s1, s2, q, p⟩ := h
  exact ⟨Z, O, O1, O2, e, .v (O1 := AS.no) (fun _ z => z.elim) (fun _ z => ⟨z, id⟩) (r Z) t, s1, s2, q, p⟩
theorem SR.drop {r : R} {v : V} (h : SR K g B en (r :: rs) σ (v :: vs) H) : SR K g B en rs σ vs H := by
  obtain ⟨Z, O, O1, O2, e, t, s1, s2, q, p⟩ := h
  cases t with
  | v a1 a2 r t => exact ⟨Z, O, O1, _, e, t, s1, fun b z => s2 b (a2 b z).1, q, p⟩
  | s _ t => exact ⟨Z, O, O1, _, e, t, s1, s2, q, p⟩
/-- a frozen name is read -/
theorem SR.read {i : Nat} {d : D} (h : SR K g B en rs σ vs H) (hi : en[i]? = some (some d)) (hf : fz d = true) : ∃ v, σ[i]? = some (some v) ∧ SR K g B en (.v d :: rs) σ (v :: vs) H := by
  obtain ⟨Z, O, O1, O2, e, t, s1, s2, q, p⟩ := h
  obtain ⟨v, A, C, ev, r, _, _, _⟩ := e.split hi
  exact ⟨v, ev, Z, O, O1, O2, e, .v (O1 := AS.no) (fun _ z => z.elim) (fun _ z => ⟨z, id⟩) (r.none hf) t, s1, s2, q, p⟩
/-- a name's list goes in flight as the name's -/
theorem SR.slot {i : Nat} {d : D} (h : SR K g B en rs σ vs H) (hi : en[i]? = some (some d)) : ∃ v, σ[i]? = some (some v) ∧ SR K g B en (.s i :: rs) σ (v :: vs) H := by
  obtain ⟨Z, O, O1, O2, e, t, s1, s2, q, p⟩ := h
  obtain ⟨v, A, C, ev, r, _, _, _⟩ := e.split hi
  exact ⟨v, ev, Z, O, O1, O2, e, .s ev t, s1, s2, q, p⟩
/-- a name is frozen and read -/
theorem SR.freeze {i : Nat} {d : D} (h : SR K g B en rs σ vs H) (hi : en[i]? = some (some d)) : ∃ v, σ[i]? = some (some v) ∧ SR K g B (en.set i (some (frz d))) (.v (frz d) :: rs) σ (v :: vs) H := by
  obtain ⟨Z, O, O1, O2, e, t, s1, s2, q, p⟩ := h
  obtain ⟨v, A, C, ev, r, e', a1, a2⟩ := e.split hi
  have q' : Good B (fun a => Z a ∨ A a) (fun a => C a ∨ O2 a) H := q.frz (O1 := A) (fun a z => s1 a (a1 a z)) fun a z => by
    rcases z with z | z
    · exact ⟨s1 a (a2 a z).1, (a2 a z).2⟩
    · exact ⟨(s2 a z).1, fun y => (s2 a z).2 (a1 a y)⟩
  have kz : ∀ (X : AS), Keep Z X H H := fun X a x h _ => h
  have r' := r.frz (Z' := fun a => Z a ∨ A a) fun a z => z
  have e2 := RepE.put (O1 := AS.no) (e'.keep (Z' := fun a => Z a ∨ A a) (fun a z => .inl z) (kz _)) ev r' (fun _ z => z.elim) (fun _ z => ⟨z, id⟩)
  rw [List.set_set] at e2
  refine ⟨v, ev, _, _, C, O2, e2, .v (O1 := AS.no) (fun _ z => z.elim) (fun _ z => ⟨z, id⟩) r' (t.keep (fun a z => .inl z) (kz _)), fun b z => .inl z, fun b z => ⟨.inr z, fun y => (s2 b z).2 (a2 b y).1⟩, q', p⟩
/-- what is in flight is frozen -/
theorem SR.freezeT {d : D} {v : V} (h : SR K g B en (.v d :: rs) σ (v :: vs) H) : SR K g B en (.v (frz d) :: rs) σ (v :: vs) H := by
  obtain ⟨Z, O, O1, O2, e, t, s1, s2, q, p⟩ := h
  cases t with
  | @v _ A C _ _ _ _ a1 a2 r t =>
    have q' : Good B (fun a => Z a ∨ A a) (fun a => O1 a ∨ C a) H := q.frz (O1 := A) (fun a z => (s2 a (a1 a z)).1) fun a z => by
      rcases z with z | z
      · exact ⟨s1 a z, fun y => (s2 a (a1 a y)).2 z⟩
      · exact ⟨(s2 a (a2 a z).1).1, (a2 a z).2⟩
    have kz : ∀ (X : AS), Keep Z X H H := fun X a x h _ => h
    exact ⟨_, _, O1, C, e.keep (fun a z => .inl z) (kz _), .v (O1 := AS.no) (fun _ z => z.elim) (fun _ z => ⟨z, id⟩) (r.frz fun a z => z) (t.keep (fun a z => .inl z) (kz _)), fun b z => .inl z, fun b z => ⟨.inr z, (s2 b (a2 b z).1).2⟩, q', p⟩
/-- the value of what is in flight -/
def rv (en : En) : R → Option D
  | .v d => some d
  | .s i => (en[i]?).join
/-- what is in flight stands for its value -/
theorem SR.rep {r : R} {d : D} {v : V} (h : SR K g B en (r :: rs) σ (v :: vs) H) (hr : rv en r = some d) : ∃ Z O, Rep K g Z H d v O ∧ (∀ a, Z a → H a ≠ none) ∧ ∀ a, O a → ∃ x, H a = some x ∧ stat x = false := by
  obtain ⟨Z, O, O1, O2, e, t, s1, s2, q, p⟩ := h
  cases t with
  | v a1 a2 r t =>
    cases hr
    exact ⟨Z, _, r, q.trZ, fun a h => q.trO a (s2 a (a1 a h)).1⟩
  | @s _ i _ _ _ ev t =>
    have hi : en[i]? = some (some d) := by
      have hr' : (en[i]?).join = some d := hr
      cases z : en[i]? with
      | none => rw [z] at hr'; cases hr'
      | some o => rw [z] at hr'; rw [show o = some d from hr']
    obtain ⟨v', A, C, ev', r, _, b1, _⟩ := e.split hi
    rw [ev] at ev'
    cases ev'
    exact ⟨Z, A, r, q.trZ, fun a h => q.trO a (s1 a (b1 a h))⟩
/-- the order of what is in flight -/
theorem RepT.swap {Z : AS} {O : AS} {r1 r2 : R} {v1 v2 : V} (t : RepT K g Z H σ (r1 :: r2 :: rs) (v1 :: v2 :: vs) O) : RepT K g Z H σ (r2 :: r1 :: rs) (v2 :: v1 :: vs) O := by
  cases t with
  | @v _ A C _ _ _ _ a1 a2 r t =>
    cases t with
    | @v _ A' C' _ _ _ _ b1 b2 r' t =>
      refine .v (O1 := A') (O2 := fun b => A b ∨ C' b) (fun b z => (a2 b (b1 b z)).1) (fun b z => ?_) r' (.v (O1 := A) (O2 := C') (fun b z => .inl z) (fun b z => ⟨.inr z, fun y => (a2 b (b2 b z).1).2 y⟩) r t)
      rcases z with z | z
      · exact ⟨a1 b z, fun y => (a2 b (b1 b y)).2 z⟩
      · exact ⟨(a2 b (b2 b z).1).1, (b2 b z).2⟩
    | s e t => exact .s e (.v a1 a2 r t)
  | s e t =>
    cases t with
    | v b1 b2 r' t => exact .v b1 b2 r' (.s e t)
    | s e' t => exact .s e' (.s e t)
theorem SR.swap {r1 r2 : R} {v1 v2 : V} (h : SR K g B en (r1 :: r2 :: rs) σ (v1 :: v2 :: vs) H) : SR K g B en (r2 :: r1 :: rs) σ (v2 :: v1 :: vs) H := by
  obtain ⟨Z, O, O1, O2, e, t, s1, s2, q, p⟩ := h
  exact ⟨Z, O, O1, O2, e, t.swap, s1, s2, q, p⟩
theorem RepT.move {Z : AS} {r : R} {v : V} : ∀ {xs : List R} {us : List V} {O : AS}, xs.length = us.length → RepT K g Z H σ (xs ++ r :: rs) (us ++ v :: vs) O → RepT K g Z H σ (r :: (xs ++ rs)) (v :: (us ++ vs)) O
  | [], [], _, _, t => t
  | [], _ :: _, _, h, _ => by cases h
  | _ :: _, [], _, h, _ => by cases h
  | x :: xs, u :: us, O, h, t => by
    have hl : xs.length = us.length := by simpa using h
    refine RepT.swap ?_
    cases t with
    | v a1 a2 q t => exact .v a1 a2 q (RepT.move hl t)
    | s e t => exact .s e (RepT.move hl t)
theorem SR.move {r : R} {v : V} {xs : List R} {us : List V} (h : SR K g B en (xs ++ r :: rs) σ (us ++ v :: vs) H) (hl : xs.length = us.length) : SR K g B en (r :: (xs ++ rs)) σ (v :: (us ++ vs)) H := by
  obtain ⟨Z, O, O1, O2, e, t, s1, s2, q, p⟩ := h
  exact ⟨Z, O, O1, O2, e, t.move hl, s1, s2, q, p⟩
/-- values in flight, all at once -/
theorem RepT.vals {Z : AS} : ∀ {ds : List D} {us : List V} {O : AS}, RepT K g Z H σ (ds.map R.v ++ rs) (us ++ vs) O → ds.length = us.length → ∃ O1 O2, RepL K g Z H ds us O1 ∧ RepT K g Z H σ rs vs O2 ∧ (∀ b, O1 b → O b) ∧ ∀ b, O2 b → O b ∧ ¬ O1 b
  | [], [], O, t, _ => ⟨AS.no, O, .nil, t, fun _ z => z.elim, fun _ z => ⟨z, id⟩⟩
  | [], _ :: _, _, _, h => by cases h
  | _ :: _, [], _, _, h => by cases h
  | d :: ds, u :: us, O, t, h => by
    cases t with
    | @v _ A C _ _ _ _ a1 a2 r t =>
      obtain ⟨O1, O2, q1, q2, b1, b2⟩ := RepT.vals t (by simpa using h)
      refine ⟨fun b => A b ∨ O1 b, O2, .cons (O1 := A) (O2 := O1) (fun b z => .inl z) (fun b z => ⟨.inr z, (a2 b (b1 b z)).2⟩) r q1, q2, fun b z => ?_, fun b z => ⟨(a2 b (b2 b z).1).1, fun y => ?_⟩⟩
      · rcases z with z | z
        · exact a1 b z
        · exact (a2 b (b1 b z)).1
      · rcases y with y | y
        · exact (a2 b (b2 b z).1).2 y
        · exact (b2 b z).2 y
/-- a new object of the values in flight -/
theorem SR.tup {ds : List D} {us : List V} (h : SR K g B en (ds.map R.v ++ rs) σ (us ++ vs) H) (hl : ds.length = us.length) {p : Addr} (hp : H p = none) : SR K g B en (.v (.tup ds) :: rs) σ (.ref p :: vs) (upd H p (.tup us)) := by
  obtain ⟨Z, O, O1, O2, e, t, s1, s2, q, pi⟩ := h
  obtain ⟨A, C, r, t', a1, a2⟩ := t.vals hl
  exact ⟨Z, O, O1, O2, e.keep (fun _ z => z) (keep_new hp), .v (O1 := A) (O2 := C) a1 a2 (.tup (.inl (.inl upd_same)) (r.keep (fun _ z => z) (keep_new hp))) (t'.keep (fun _ z => z) (keep_new hp)), s1, s2, q.new hp, pi⟩
theorem SR.lst {ds : List D} {us : List V} (h : SR K g B en (ds.map R.v ++ rs) σ (us ++ vs) H) (hl : ds.length = us.length) {p : Addr} (hp : H p = none) : SR K g B en (.v (.lst true ds) :: rs) σ (.ref p :: vs) (upd H p (.lst us)) := by
  obtain ⟨Z, O, O1, O2, e, t, s1, s2, q, pi⟩ := h
  obtain ⟨A, C, r, t', a1, a2⟩ := t.vals hl
  have n := q.nonew hp
  refine ⟨Z, fun a => O a ∨ a = p, O1, fun a => O2 a ∨ a = p, e.keep (fun _ z => z) (keep_new hp), .v (O1 := fun a => A a ∨ a = p) (O2 := C) (fun b z => z.imp (a1 b) id) (fun b z => ⟨.inl (a2 b z).1, fun y => ?_⟩) (.lstO (O' := A) upd_same (.inr rfl) (fun b z => ⟨.inl z, fun y => n.1 (y ▸ (s2 b (a1 b z)).1)⟩) (r.keep (fun _ z => z) (keep_new hp))) (t'.keep (fun _ z => z) (keep_new hp)),
    fun b z => .inl (s1 b z), fun b z => ?_, q.newO hp rfl, pi⟩
  · rcases y with y | y
    · exact (a2 b z).2 y
    · exact n.1 (y ▸ (s2 b (a2 b z).1).1)
  · rcases z with z | z
    · exact ⟨.inl (s2 b z).1, (s2 b z).2⟩
    · exact ⟨.inr z, fun y => n.1 (z ▸ s1 b y)⟩
/-- a name gets what is in flight -/
theorem RepT.any {Z : AS} {σ' : Sg} : ∀ {ds : List D} {us : List V} {O : AS}, RepT K g Z H σ (ds.map R.v) us O → RepT K g Z H σ' (ds.map R.v) us O
  | [], _, _, t => by cases t; exact .nil
  | _ :: _, _, _, t => by
    cases t with
    | v a1 a2 r t => exact .v a1 a2 r (RepT.any t)
theorem SR.asg {ts : List D} {i : Nat} {d : D} {v : V} (h : SR K g B en (.v d :: ts.map R.v) σ (v :: vs) H) (hi : i < σ.length) (hp : ∀ p ∈ B.pin, p.1 ≠ i) : SR K g B (en.set i (some d)) (ts.map R.v) (σ.set i (some v)) vs H := by
  obtain ⟨Z, O, O1, O2, e, t, s1, s2, q, p⟩ := h
  cases t with
  | @v _ A C _ _ _ _ a1 a2 r t =>
    refine ⟨Z, O, fun b => O1 b ∨ A b, C, e.asg (O1 := A) hi r (fun b z => .inr z) (fun b z => ⟨.inl z, fun y => (s2 b (a1 b y)).2 z⟩), RepT.any t, fun b z => ?_, fun b z => ⟨(s2 b (a2 b z).1).1, fun y => ?_⟩, q, fun x hx => ?_⟩
    · rcases z with z | z
      · exact s1 b z
      · exact (s2 b (a1 b z)).1
    · rcases y with y | y
      · exact (s2 b (a2 b z).1).2 y
      · exact (a2 b z).2 y
    · rw [List.getElem?_set_ne (Ne.symm (hp x hx))]
      exact p x hx
theorem SR.off (h : SR K g B en rs σ vs H) (i : Nat) : SR K g B (en.set i none) rs σ vs H := by
  obtain ⟨Z, O, O1, O2, e, t, s1, s2, q, p⟩ := h
  exact ⟨Z, O, O1, O2, e.off i, t, s1, s2, q, p⟩
end
end Pf

/-! A small language, and what has to hold so that its run ends as wanted. -/
namespace Pf
open PySem PySem.Spec PyProof.Rows L2

/-- built-in functions upon values -/
inductive Bf where
  | len | int1 | abs | min2 | max2 | sum | maxL | minL | sorted | sortD | list1 | tuple1 | all1 | any1
  deriving DecidableEq
/-- methods that change a list -/
inductive Mm where
  | append | pop0 | pop1 | reverse | extend | insert | remove
  deriving DecidableEq
mutual
inductive E where
  | var (i : Nat) | fv (i : Nat) | int (n : Int) | bl (b : Bool) | non | str (x : String) | gint (x : String) (n : Int)
  | bin (op : Operator) (a b : E) | neg (a : E)
  | cmp (op : CmpOp) (a b : E) | bop (isAnd : Bool) (es : Es) | nt (a : E) | ite (c a b : E)
  | tup (es : Es) | lst (es : Es)
  | idx (a b : E) | slc (a : E) (lo hi : Ox)
  | call (f : String) (es : Es) | blt (f : Bf) (es : Es) | isi (a : E) (ts : List String) | lrg (es : Es) | lset (a : E)
  | fld (a : E) (f : String) | meth (c m : String) (a : E) (es : Es) | new (c : String) (es : Es)
  | mut (m : Mm) (i : Nat) (es : Es)
  | lc (tg : List Nat) (src : Src) (cs : Es) (elt : E)
inductive Es where
  | nil | cons (e : E) (es : Es)
inductive Ox where
  | no | so (e : E)
inductive Src where
  | it (e : E) | rng (es : Es) | rdn (es : Es) | rev (e : E)
end
/-- what an except suite reckons -/
inductive U where
  | int (n : Int) | bl (b : Bool) | non | str (x : String) | var (i : Nat) | fld (f : String) | tup (us : List U) | lst (us : List U)
inductive Su where
  | asg (i : Nat) (u : U) | ret (u : U) | pas
inductive Hs where
  | nil | cons (c : String) (i : Option Nat) (u : Su) (hs : Hs)
mutual
inductive S where
  | asg (i : Nat) (e : E) | asgT (is : List Nat) (e : E) | aug (i : Nat) (op : Operator) (e : E) | put (i : Nat) (k e : E) | augI (i : Nat) (op : Operator) (k e : E) | setf (i : Nat) (f : String) (e : E)
  | expr (e : E) | ret (e : E) | retN | iff (c : E) (a b : Ss) | whl (c : E) (b : Ss) | forr (tg : List Nat) (src : Src) (b : Ss)
  | brk | cnt | pas | raise (c : String) (es : Es) | tri (b : Ss) (hs : Hs)
inductive Ss where
  | nil | cons (s : S) (ss : Ss)
end

def esLen : Es → Nat
  | .nil => 0
  | .cons _ es => esLen es + 1
/-! ### values -/
mutual
def deq : D → D → Bool
  | .non, .non => true
  | .bl a, .bl b => a == b
  | .bl a, .int j => (if a then 1 else 0) == j
  | .int i, .bl b => i == (if b then 1 else 0)
  | .int i, .int j => i == j
  | .str x, .str y => x == y
  | .lst _ xs, .lst _ ys => deqs xs ys
  | .tup xs, .tup ys => deqs xs ys
  | _, _ => false
def deqs : List D → List D → Bool
  | [], [] => true
  | x :: xs, y :: ys => deq x y && deqs xs ys
  | _, _ => false
end

mutual
def dat : Nat → D → Bool
  | _, .non => true
  | _, .bl _ => true
  | _, .int _ => true
  | _, .str x => PyData.strOk x
  | 0, _ => false
  | n + 1, .lst _ xs => dats n xs
  | n + 1, .tup xs => dats n xs
  | _, _ => false
def dats : Nat → List D → Bool
  | _, [] => true
  | n, d :: ds => dat n d && dats n ds
end
mutual
def toP : D → PyData
  | .non => .none
  | .bl b => .bool b
  | .int i => .int i
  | .str x => .str x
  | .tup xs => .tuple (toPs xs)
  | .lst _ xs => .list (toPs xs)
  | _ => .none
def toPs : List D → List PyData
  | [] => []
  | d :: ds => toP d :: toPs ds
end
/-- items that sorted() puts in some order: tuples of one form -/
def srtOk (xs : List D) : Prop := (fzs xs = true ∧ dats 60 xs = true) ∧ (∀ x ∈ xs, ∀ y ∈ xs, PySem.W.alike (toP x) (toP y) = true) ∧ ∀ x ∈ xs, ∃ d ds, x = .tup (d :: ds)
def flat : D → Bool
  | .non => true
  | .bl _ => true
  | .int _ => true
  | .str _ => true
  | _ => false
abbrev Wd := (D → Prop) → Prop
def addW : D → D → Wd
  | .int i, .int j, k => k (.int (i + j))
  | .str x, .str y, k => x.length + y.length ≤ 16777216 ∧ k (.str (x ++ y))
  | .lst _ xs, .lst _ ys, k => (fzs xs = true ∧ fzs ys = true ∧ xs.length + ys.length ≤ 16777216) ∧ k (.lst true (xs ++ ys))
  | .tup xs, .tup ys, k => (fzs xs = true ∧ fzs ys = true ∧ xs.length + ys.length ≤ 16777216) ∧ k (.tup (xs ++ ys))
  | _, _, _ => False
def subW : D → D → Wd
  | .int i, .int j, k => k (.int (i - j))
  | _, _, _ => False
def mulW : D → D → Wd
  | .int i, .int j, k => ((-(2 ^ 64) < i ∧ i < 2 ^ 64) ∨ (-(2 ^ 64) < j ∧ j < 2 ^ 64) ∨ i.natAbs.log2 + j.natAbs.log2 < 1000000) ∧ k (.int (i * j))
  | .lst _ xs, .int n, k => (fzs xs = true ∧ -(2 ^ 63) ≤ n ∧ n < 2 ^ 63 ∧ xs.length * n.toNat ≤ 16777216) ∧ k (.lst true (List.replicate n.toNat xs).flatten)
  | _, _, _ => False
def fdivW : D → D → Wd
  | .int i, .int j, k => (0 < j ∧ j.natAbs.log2 < 9000) ∧ k (.int (i / j))
  | _, _, _ => False
def modW : D → D → Wd
  | .int i, .int j, k => 0 < j ∧ k (.int (i % j))
  | _, _, _ => False
def powW : D → D → Wd
  | .int i, .int j, k => (0 ≤ j ∧ j ≤ 1000000 ∧ i.natAbs < 2 ^ 64) ∧ k (.int (i ^ j.toNat))
  | _, _, _ => False
def bopW : Operator → D → D → Wd
  | .Add => addW
  | .Sub => subW
  | .Mult => mulW
  | .FloorDiv => fdivW
  | .Mod => modW
  | .Pow => powW
  | _ => fun _ _ _ => False
def intW (p : Int → Int → Bool) : D → D → Wd
  | .int i, .int j, k => k (.bl (p i j))
  | _, _, _ => False
def eqW (n : Bool) (a b : D) : Wd := fun k => (dat 60 a = true ∧ dat 60 b = true) ∧ k (.bl (n ^^ deq a b))
def itms : D → Option (List D)
  | .lst _ xs => some xs
  | .tup xs => some xs
  | _ => none
def inW (n : Bool) (a b : D) : Wd := fun k => match itms b with
  | some xs => (flat a = true ∧ xs.all flat = true) ∧ k (.bl (n ^^ xs.any fun y => deq y a))
  | none => False
def isNon : D → Bool
  | .non => true
  | _ => false
def isW (n : Bool) : D → D → Wd
  | a, .non, k => k (.bl (n ^^ isNon a))
  | .bl a, .bl b, k => k (.bl (n ^^ decide (a = b)))
  | _, _, _ => False
def cmpW : CmpOp → D → D → Wd
  | .Lt => intW fun i j => decide (i < j)
  | .LtE => intW fun i j => decide (i ≤ j)
  | .Gt => intW fun i j => decide (j < i)
  | .GtE => intW fun i j => decide (j ≤ i)
  | .Eq => eqW false
  | .NotEq => eqW true
  | .In => inW false
  | .NotIn => inW true
  | .Is => isW false
  | .IsNot => isW true
def negW : D → Wd
  | .int i, k => k (.int (-i))
  | _, _ => False
def sortI (ns : List Int) : List Int := ns.mergeSort fun a b => decide (a ≤ b)
def ixW (a b : D) : Wd := fun k => match itms a, b with
  | some xs, .int i => ∃ d, atI xs i = some d ∧ k d
  | _, _ => False
def cutD (xs : List D) (lo hi : Option Int) : List D := (xs.drop (HT.sIx xs.length 0 lo)).take (HT.sIx xs.length xs.length hi - HT.sIx xs.length 0 lo)
def slW (lo hi : Option Int) : D → Wd
  | .lst _ xs, k => fzs xs = true ∧ k (.lst true (cutD xs lo hi))
  | .tup xs, k => fzs xs = true ∧ k (.tup (cutD xs lo hi))
  | _, _ => False
def lenW : D → Wd
  | .lst _ xs, k => k (.int xs.length)
  | .tup xs, k => k (.int xs.length)
  | .str x, k => x.length ≤ 16777216 ∧ k (.int x.length)
  | _, _ => False
def intsW (a : D) (f : List Int → Prop) : Prop := ∃ ns : List Int, itms a = some (ns.map .int) ∧ f ns
def isLst : D → Bool
  | .lst _ _ => true
  | _ => false
def bltW : Bf → List D → Wd
  | .len, [a], k => lenW a k
  | .int1, [.int i], k => k (.int i)
  | .int1, [.bl b], k => k (.int (if b then 1 else 0))
  | .abs, [.int i], k => k (.int (if i < 0 then -i else i))
  | .min2, [.int i, .int j], k => k (.int (if j < i then j else i))
  | .max2, [.int i, .int j], k => k (.int (if j > i then j else i))
  | .sum, [a], k => intsW a fun ns => k (.int ns.sum)
  | .maxL, [a], k => isLst a = true ∧ intsW a fun ns => ∃ m, (m ∈ ns ∧ ∀ y ∈ ns, y ≤ m) ∧ k (.int m)
  | .minL, [a], k => isLst a = true ∧ intsW a fun ns => ∃ m, (m ∈ ns ∧ ∀ y ∈ ns, m ≤ y) ∧ k (.int m)
  | .sorted, [a], k => intsW a fun ns => k (.lst true ((sortI ns).map .int))
  | .sortD, [a], k => isLst a = true ∧ ∃ xs, itms a = some xs ∧ srtOk xs ∧ ∀ ys, ys.Perm xs → k (.lst true ys)
  | .list1, [a], k => ∃ xs, itms a = some xs ∧ fzs xs = true ∧ k (.lst true xs)
  | .tuple1, [a], k => ∃ xs, itms a = some xs ∧ fzs xs = true ∧ k (.tup xs)
  | .all1, [a], k => isLst a = true ∧ ∃ bs : List Bool, itms a = some (bs.map .bl) ∧ k (.bl (bs.all id))
  | .any1, [a], k => isLst a = true ∧ ∃ bs : List Bool, itms a = some (bs.map .bl) ∧ k (.bl (bs.any id))
  | _, _, _ => False
/-- the built-in kinds that isinstance is asked for -/
def isiB : D → String → Bool
  | .non, _ => false
  | .bl _, t => t == "bool" || t == "int"
  | .int _, t => t == "int"
  | .str _, t => t == "str"
  | .tup _, t => t == "tuple"
  | .lst _ _, t => t == "list"
  | _, _ => false
def isiT : D → Bool
  | .ins _ _ _ _ => false
  | .cls _ => false
  | _ => true
/-- a changing method: the list's itms, the arguments, then the itms behind and the answer -/
def mutW : Mm → List D → List D → (List D → D → Prop) → Prop
  | .append, xs, [d], k => xs.length < 16777216 ∧ k (xs ++ [d]) .non
  | .pop0, xs, [], k => fzs xs = true ∧ ∃ d, xs[xs.length - 1]? = some d ∧ k xs.dropLast d
  | .pop1, xs, [.int i], k => (fzs xs = true ∧ xs.length ≤ 16777216) ∧ ∃ j d, ixN xs.length i = some j ∧ xs[j]? = some d ∧ k (xs.eraseIdx j) d
  | .reverse, xs, [], k => fzs xs = true ∧ k xs.reverse .non
  | .extend, xs, [.lst _ ys], k => (fzs xs = true ∧ fzs ys = true ∧ xs.length + ys.length ≤ 16777216) ∧ k (xs ++ ys) .non
  | .insert, xs, [.int i, d], k => (fzs xs = true ∧ fz d = true ∧ xs.length < 16777216 ∧ 0 ≤ i ∧ i < 2 ^ 63) ∧ k (xs.take i.toNat ++ [d] ++ xs.drop i.toNat) .non
  | _, _, _, _ => False
def rgL (a b : Int) : List D := (List.range (b - a).toNat).map fun (i : Nat) => D.int (a + i)

def rgD (a b : Int) : List D := (List.range (a - b).toNat).map fun (i : Nat) => D.int (a + i * (-1))
/-! ### the run -/
abbrev FSp := List D → (D → List (Option D) → Prop) → (String → List D → List (Option D) → Prop) → Prop
structure Gb where
  fns : String → Option FSp
  excs : String → Option (List Str)
  exm : String → String → Option Bool
  cints : String → Option Int
  mth : String → String → Option FSp := fun _ _ => none
  fok : Str → Str → Bool := fun _ _ => false
def takeA : En → List R → Option (List D × En)
  | en, [] => some ([], en)
  | en, .v d :: rs => (takeA en rs).map fun p => (d :: p.1, p.2)
  | en, .s i :: rs => match (en[i]?).join with
    | some d => (takeA (en.set i none) rs).map fun p => (d :: p.1, p.2)
    | none => none
def putA : En → List R → List (Option D) → En
  | en, .v _ :: rs, _ :: us => putA en rs us
  | en, .s i :: rs, u :: us => putA (en.set i u) rs us
  | en, _, _ => en
abbrev Xp := String → List D → En → Prop
def isS : R → Bool
  | .s _ => true
  | .v _ => false
def asR (e : E) (f : En → (D → En → Prop) → Xp → Prop) (en : En) (Q : R → En → Prop) (X : Xp) : Prop := match e with
  | .var i => (match (en[i]?).join with
    | some d => if fz d = true then Q (.v d) en else Q (.s i) en
    | none => False)
  | _ => f en (fun d en' => Q (.v d) en') X
def callW (F : Option FSp) (rs : List R) (en : En) (Q : D → En → Prop) (X : Xp) : Prop := match F, takeA en rs with
  | some F, some (ds, en2) => F ds (fun r us => Q r (putA en2 rs us)) (fun c fs us => X c fs (putA en2 rs us))
  | _, _ => False
/-- all that is in flight, told -/
def rvs (en : En) : List R → Option (List D)
  | [] => some []
  | r :: rs => match rv en r, rvs en rs with
    | some d, some ds => some (d :: ds)
    | _, _ => none
def setN : En → List Nat → List D → Option En
  | en, [], [] => some en
  | en, i :: is, d :: ds => setN (en.set i (some d)) is ds
  | _, _, _ => none
/-- the names of a target -/
def bindW (tg : List Nat) (d : D) (en : En) (Q : En → Prop) : Prop := match tg with
  | [i] => Q (en.set i (some d))
  | _ => ∃ ds en', d = .tup ds ∧ setN en tg ds = some en' ∧ Q en'
def offs : En → List Nat → En
  | en, [] => en
  | en, i :: is => offs (en.set i none) is
/-- a comprehension's turns -/
def lcW (tg : List Nat) (own : List Nat) (t : En → (Bool → En → Prop) → Prop) (f : En → (D → En → Prop) → Prop) : List D → En → List D → (D → En → Prop) → Prop
  | [], en, acc, Q => Q (.lst true acc) en
  | d :: ds, en, acc, Q => bindW tg d en fun e1 => t e1 fun b e2 => if b = true then f e2 (fun y e3 => acc.length < 16777216 ∧ lcW tg own t f ds (offs e3 own) (acc ++ [y]) Q) else lcW tg own t f ds (offs e2 own) acc Q
section
variable (G : Gb)
mutual
def ev : E → En → (D → En → Prop) → Xp → Prop
  | .var i, en, Q, _ => match (en[i]?).join with
    | some d => if fz d = true then Q d en else Q (frz d) (en.set i (some (frz d)))
    | none => False
  | .fv i, en, Q, _ => match (en[i]?).join with
    | some d => if fz d = true then Q d en else Q (frz d) (en.set i (some (frz d)))
    | none => False
  | .int n, en, Q, _ => Q (.int n) en
  | .bl b, en, Q, _ => Q (.bl b) en
  | .non, en, Q, _ => Q .non en
  | .str x, en, Q, _ => Q (.str (Str.ofString x)) en
  | .gint x n, en, Q, _ => G.cints x = some n ∧ Q (.int n) en
  | .bin op a b, en, Q, X => asR a (ev a) en (fun r1 e1 => asR b (ev b) e1 (fun r2 e2 => match rv e2 r1, rv e2 r2 with
    | some x, some y => bopW op x y fun d => Q d e2
    | _, _ => False) X) X
  | .neg a, en, Q, X => ev a en (fun x e1 => negW x fun d => Q d e1) X
  | .cmp op a b, en, Q, X => asR a (ev a) en (fun r1 e1 => asR b (ev b) e1 (fun r2 e2 => match rv e2 r1, rv e2 r2 with
    | some x, some y => cmpW op x y fun d => Q d e2
    | _, _ => False) X) X
  | .bop c es, en, Q, X => evB c es en Q X
  | .nt a, en, Q, X => ev a en (fun x e1 => ∃ b, x = .bl b ∧ Q (.bl (!b)) e1) X
  | .ite c a b, en, Q, X => ev c en (fun x e1 => ∃ t, x = .bl t ∧ if t = true then ev a e1 Q X else ev b e1 Q X) X
  | .tup es, en, Q, X => evs es en (fun ds e1 => Q (.tup ds) e1) X
  | .lst es, en, Q, X => evs es en (fun ds e1 => Q (.lst true ds) e1) X
  | .idx a b, en, Q, X => asR a (ev a) en (fun r1 e1 => ev b e1 (fun y e2 => match rv e2 r1 with
    | some x => ixW x y fun d => (isS r1 = true → fz d = true) ∧ Q d e2
    | none => False) X) X
  | .slc a lo hi, en, Q, X => asR a (ev a) en (fun r1 e1 => evO lo e1 (fun l e2 => evO hi e2 (fun h e3 => match rv e3 r1 with
    | some x => slW l h x fun d => Q d e3
    | none => False) X) X) X
  | .call f es, en, Q, X => evr es en (fun rs e1 => callW (G.fns f) rs e1 Q X) X
  | .blt f es, en, Q, X => evr es en (fun rs e1 => match rvs e1 rs with
    | some ds => bltW f ds fun d => Q d e1
    | none => False) X
  | .isi a ts, en, Q, X => asR a (ev a) en (fun r e1 => match rv e1 r with
    | some x => isiT x = true ∧ Q (.bl (ts.any (isiB x))) e1
    | none => False) X
  | .lrg es, en, Q, X => evs es en (fun ds e1 => match ds with
    | [.int b] => (b ≤ 16777216 ∧ -16777216 ≤ b) ∧ Q (.lst true (rgL 0 b)) e1
    | [.int a, .int b] => (a ≤ 16777216 ∧ -16777216 ≤ a ∧ b ≤ 16777216 ∧ -16777216 ≤ b ∧ b - a ≤ 16777216) ∧ Q (.lst true (rgL a b)) e1
    | _ => False) X
  | .lset a, en, Q, X => asR a (ev a) en (fun r e1 => match rv e1 r with
    | some x => ∃ ns : List Int, itms x = some (ns.map .int) ∧ ns.length ≤ 4000 ∧ ∀ c : Nat, c ≤ ns.length → (c = ns.length ↔ ns.Nodup) → Q (.int c) e1
    | none => False) X
  | .fld a f, en, Q, X => asR a (ev a) en (fun r e1 => match rv e1 r with
    | some (.ins _ c ns fs) => G.fok c (Str.ofString f) = true ∧ ∃ d, (ns.zip fs).lookup (Str.ofString f) = some d ∧ (isS r = true → fz d = true) ∧ Q d e1
    | _ => False) X
  | .meth c m a es, en, Q, X => (G.mth c m).isSome = true ∧ asR a (ev a) en (fun r e1 => (∃ o ns fs, rv e1 r = some (.ins o (Str.ofString c) ns fs) ∧ ns.contains (Str.ofString m) = false) ∧ evr es e1 (fun rs e2 => callW (G.mth c m) (r :: rs) e2 Q X) X) X
  | .new c es, en, Q, X => (G.mth c "__init__").isSome = true ∧ evr es en (fun rs e1 => match G.mth c "__init__", takeA e1 rs with
    | some F, some (ds, en2) => F (.ins true (Str.ofString c) [] [] :: ds) (fun r us => r = .non ∧ ∃ d, us.head?.join = some d ∧ Q d (putA en2 rs us.tail)) (fun cn fs us => X cn fs (putA en2 rs us.tail))
    | _, _ => False) X
  | .mut m i es, en, Q, X => (∃ ws, (en[i]?).join = some (.lst true ws)) ∧ evs es en (fun ds e1 => match (e1[i]?).join with
    | some (.lst true xs) => mutW m xs ds fun ys d => Q d (e1.set i (some (.lst true ys)))
    | _ => False) X
  | .lc tg src cs elt, en, Q, X => evSrc src en (fun ds e1 => lcW tg tg (fun e2 K => evTs cs e2 K X) (fun e2 K => ev elt e2 K (fun _ _ _ => False)) ds (offs e1 tg) [] Q) X
def evB : Bool → Es → En → (D → En → Prop) → Xp → Prop
  | _, .nil, _, _, _ => False
  | c, .cons a es, en, Q, X => match es with
    | .nil => ev a en Q X
    | _ => ev a en (fun x e1 => ∃ b, x = .bl b ∧ if b = c then evB c es e1 Q X else Q (.bl (!c)) e1) X
def evs : Es → En → (List D → En → Prop) → Xp → Prop
  | .nil, en, Q, _ => Q [] en
  | .cons a es, en, Q, X => ev a en (fun d e1 => evs es e1 (fun ds e2 => Q (d :: ds) e2) X) X
def evr : Es → En → (List R → En → Prop) → Xp → Prop
  | .nil, en, Q, _ => Q [] en
  | .cons a es, en, Q, X => asR a (ev a) en (fun d e1 => evr es e1 (fun ds e2 => Q (d :: ds) e2) X) X
/-- a clause's tests: none or one -/
def evTs : Es → En → (Bool → En → Prop) → Xp → Prop
  | .nil, en, Q, _ => Q true en
  | .cons a _, en, Q, X => ev a en (fun d e1 => ∃ b, d = .bl b ∧ Q b e1) (fun _ _ _ => False)
def evO : Ox → En → (Option Int → En → Prop) → Xp → Prop
  | .no, en, Q, _ => Q none en
  | .so e, en, Q, X => ev e en (fun d e1 => ∃ i, d = .int i ∧ Q (some i) e1) X
def evSrc : Src → En → (List D → En → Prop) → Xp → Prop
  | .it e, en, Q, X => ev e en (fun d e1 => ∃ xs, itms d = some xs ∧ Q (frzs xs) e1) X
  | .rng es, en, Q, X => evs es en (fun ds e1 => match ds with
    | [.int b] => (-(2 ^ 62) ≤ b ∧ b < 2 ^ 62) ∧ Q (rgL 0 b) e1
    | [.int a, .int b] => (-(2 ^ 62) ≤ a ∧ a < 2 ^ 62 ∧ -(2 ^ 62) ≤ b ∧ b < 2 ^ 62) ∧ Q (rgL a b) e1
    | _ => False) X
  | .rdn es, en, Q, X => evs es en (fun ds e1 => match ds with
    | [.int a, .int b, .int c] => (c = -1 ∧ -(2 ^ 62) ≤ a ∧ a < 2 ^ 62 ∧ -(2 ^ 62) ≤ b ∧ b < 2 ^ 62) ∧ Q (rgD a b) e1
    | _ => False) X
  | .rev e, en, Q, X => ev e en (fun d e1 => ∃ xs, itms d = some xs ∧ Q (frzs xs).reverse e1) X
end
structure Pt where
  nx : En → Prop
  rt : D → En → Prop
  bk : En → Prop := fun _ => False
  ct : En → Prop := fun _ => False
  ex : Xp
/-- so many turns at most -/
def whW (c : En → (Bool → En → Prop) → Prop) (b : En → (En → Prop) → Prop) (fin : En → Prop) : Nat → En → Prop
  | 0, _ => False
  | n + 1, en => c en fun t e1 => if t = true then b e1 (whW c b fin n) else fin e1
def frW (tg : List Nat) (b : En → (En → Prop) → Prop) (fin : En → Prop) : List D → En → Prop
  | [], en => fin en
  | d :: ds, en => bindW tg d en fun e1 => b e1 (frW tg b fin ds)
mutual
/-- a suite's value, with the error's own fields -/
def uv (ns : List Str) (fs : List D) (en : En) : U → (D → Prop) → Prop
  | .int n, k => k (.int n)
  | .bl b, k => k (.bl b)
  | .non, k => k .non
  | .str x, k => k (.str (Str.ofString x))
  | .var i, k => match (en[i]?).join with
    | some d => fz d = true ∧ k d
    | none => False
  | .fld f, k => ∃ (j : Nat) (d : D), ns[j]? = some (Str.ofString f) ∧ fs[j]? = some d ∧ k d
  | .tup us, k => uvs ns fs en us fun ds => k (.tup ds)
  | .lst us, k => uvs ns fs en us fun ds => k (.lst true ds)
def uvs (ns : List Str) (fs : List D) (en : En) : List U → (List D → Prop) → Prop
  | [], k => k []
  | u :: us, k => uv ns fs en u fun d => uvs ns fs en us fun ds => k (d :: ds)
end
def offO (en : En) : Option Nat → En
  | some i => en.set i none
  | none => en
def hnd : Hs → String → List D → En → Pt → Prop
  | .nil, c, fs, en, P => P.ex c fs en
  | .cons c' io u hs, c, fs, en, P => match G.exm c c', G.excs c with
    | some true, some ns => (match u with
      | .asg i x => io ≠ some i ∧ uv ns fs (offO en io) x fun d => P.nx ((offO en io).set i (some d))
      | .ret x => uv ns fs (offO en io) x fun d => P.rt d (offO en io)
      | .pas => P.nx (offO en io))
    | some false, some _ => hnd hs c fs en P
    | _, _ => False
mutual
def run : S → En → Pt → Prop
  | .asg i e, en, P => ev G e en (fun d e1 => P.nx (e1.set i (some d))) P.ex
  | .asgT is e, en, P => ev G e en (fun d e1 => ∃ ds e2, d = .tup ds ∧ setN e1 is ds = some e2 ∧ P.nx e2) P.ex
  | .aug i op e, en, P => (∃ d0, (en[i]?).join = some d0) ∧ ev G e en (fun y e1 => match (e1[i]?).join with
    | some (.int x) => (match op with
      | .Add => ∃ j, y = .int j ∧ P.nx (e1.set i (some (.int (x + j))))
      | .Sub => ∃ j, y = .int j ∧ P.nx (e1.set i (some (.int (x - j))))
      | _ => False)
    | _ => False) P.ex
  | .put i k e, en, P => ev G e en (fun d e1 => (∃ ws, (e1[i]?).join = some (.lst true ws)) ∧ ev G k e1 (fun x e2 => match (e2[i]?).join, x with
    | some (.lst true xs), .int z => ∃ j, ixN xs.length z = some j ∧ P.nx (e2.set i (some (.lst true (xs.set j d))))
    | _, _ => False) P.ex) P.ex
  | .setf i f e, en, P => ev G e en (fun d e1 => match (e1[i]?).join with
    | some (.ins true c ns fs) => G.fok c (Str.ofString f) = true ∧ ns.contains (Str.ofString f) = false ∧ ns.length < 900 ∧ P.nx (e1.set i (some (.ins true c (ns ++ [Str.ofString f]) (fs ++ [d]))))
    | _ => False) P.ex
  | .augI i op k e, en, P => (∃ ws, (en[i]?).join = some (.lst true ws)) ∧ ev G k en (fun x e1 => match (e1[i]?).join, x with
    | some (.lst true xs), .int z => ∃ j x0, ixN xs.length z = some j ∧ xs[j]? = some (.int x0) ∧ ev G e e1 (fun y e2 => match (e2[i]?).join, y with
      | some (.lst true ys), .int y => ∃ j2, ixN ys.length z = some j2 ∧ (match op with
        | .Add => P.nx (e2.set i (some (.lst true (ys.set j2 (.int (x0 + y))))))
        | .Sub => P.nx (e2.set i (some (.lst true (ys.set j2 (.int (x0 - y))))))
        | _ => False)
      | _, _ => False) P.ex
    | _, _ => False) P.ex
  | .expr e, en, P => ev G e en (fun _ e1 => P.nx e1) P.ex
  | .ret e, en, P => (match e with
    | .var i => (match (en[i]?).join with
      | some d => if fz d = true then P.rt d en else P.rt d (en.set i none)
      | none => False)
    | e => ev G e en P.rt P.ex)
  | .retN, en, P => P.rt .non en
  | .iff c a b, en, P => ev G c en (fun d e1 => ∃ t, d = .bl t ∧ if t = true then runs a e1 P else runs b e1 P) P.ex
  | .whl c b, en, P => ∃ n, whW (fun e1 K => ev G c e1 (fun d e2 => ∃ t, d = .bl t ∧ K t e2) P.ex) (fun e1 K => runs b e1 { P with nx := K, ct := K, bk := P.nx }) P.nx n en
  | .forr tg src b, en, P => evSrc G src en (fun ds e1 => frW tg (fun e2 K => runs b e2 { P with nx := K, ct := K, bk := P.nx }) P.nx ds e1) P.ex
  | .brk, en, P => P.bk en
  | .cnt, en, P => P.ct en
  | .pas, en, P => P.nx en
  | .raise c es, en, P => evs G es en (fun ds e1 => (∃ ns, G.excs c = some ns ∧ ns.length = ds.length) ∧ P.ex c (frzs ds) e1) P.ex
  | .tri b hs, en, P => runs b en { P with ex := fun c fs e1 => hnd G hs c fs e1 P }
def runs : Ss → En → Pt → Prop
  | .nil, en, P => P.nx en
  | .cons s ss, en, P => match ss with
    | .nil => run s en P
    | _ => run s en { P with nx := fun e1 => runs ss e1 P }
end
end
end Pf

/-! Operators and built-ins, by values. -/
namespace Pf
open PySem PySem.Spec PyProof.Rows L2

theorem or2 {X : Cx} {f : Value → Value → Sem Value} {r r' : R2} (h : OpR X f r) (h' : OpR X f r') : OpR X f (fun x y H Q => r x y H Q ∨ r' x y H Q) := by
  intro pins s σ H x y v u Q I rx ry q
  rcases q with q | q
  · exact h pins s σ H x y v u Q I rx ry q
  · exact h' pins s σ H x y v u Q I rx ry q
theorem orC {X : Cx} {f : Value} {r r' : List V → Hp → VK → Prop} (h : CallR X f r) (h' : CallR X f r') : CallR X f (fun x H Q => r x H Q ∨ r' x H Q) := by
  intro pins s σ H vs us Q I rx q
  rcases q with q | q
  · exact h pins s σ H vs us Q I rx q
  · exact h' pins s σ H vs us Q I rx q
theorem ofNever {X : Cx} {f : Value → Value → Sem Value} : OpR X f (fun _ _ _ _ => False) := fun _ _ _ _ _ _ _ _ _ _ _ _ h => h.elim
theorem Rd.lst {X : Cx} {pins : List (Addr × Obj)} {σ : L2.St} {H : Hp} {s : Shared} {l : Addr} {xs : List V} (I : Inv X pins σ H s) (h : Rd H l (.lst xs)) :
    xs.length ≤ sizeLine ∧ ∃ (its : List Value) (n : Nat), Vals xs its ∧ s.heap.get? l = some { cls := .type "list", data := .seq its.toArray n } := by
  obtain ⟨z, its, n, r, e⟩ := h.ok I.hok
  exact ⟨z, its, n, r, e⟩

section
variable {X : Cx}
/-- list + list -/
def rCatL : R2 := fun x y H Q => ∃ l b xs zs, x = .ref l ∧ y = .ref b ∧ Rd H l (.lst xs) ∧ Rd H b (.lst zs) ∧ xs.length + zs.length ≤ sizeLine ∧ ∀ p, H p = none → Q (.ref p) (upd H p (.lst (xs ++ zs)))
theorem op_catL : OpR X (binaryOp .Add) rCatL := by
  intro pins s σ H x y v u Q I rx ry h
  obtain ⟨l, b, xs, zs, rfl, rfl, h1, h2, hz, q⟩ := h
  cases rx
  cases ry
  obtain ⟨z, us, n, r, e⟩ := Rd.lst I h1
  obtain ⟨z', ws, n', r', e'⟩ := Rd.lst I h2
  have l1 := r.length
  have l2 := r'.length
  refine PySem.P.add_list e e' ?_ (by simp only [List.size_toArray]; omega)
  rw [show us.toArray ++ ws.toArray = (us ++ ws).toArray by simp]
  exact ⟨.ref _, _, I.lnew (t' := s.toks) (r.append r') (by rw [List.length_append]; omega), rfl, q _ I.fresh⟩
/-- list * int -/
def rRepL : R2 := fun x y H Q => ∃ l k xs, x = .ref l ∧ y = .int k ∧ Rd H l (.lst xs) ∧ -(2 ^ 63) ≤ k ∧ k < 2 ^ 63 ∧ xs.length * k.toNat ≤ sizeLine ∧ ∀ p, H p = none → Q (.ref p) (upd H p (.lst (List.replicate k.toNat xs).flatten))
theorem op_repL : OpR X (binaryOp .Mult) rRepL := by
  intro pins s σ H x y v u Q I rx ry h
  obtain ⟨l, k, xs, rfl, rfl, hH, h1, h2, hz, q⟩ := h
  cases rx
  obtain ⟨tk, rfl⟩ := ry
  obtain ⟨z, us, n, r, e⟩ := Rd.lst I hH
  have hl := r.length
  have c1 : ¬ (!Builtin.List.listFitsIndex k) = true := by
    rw [fitsIndex_both h1 h2]
    simp
  have hle : us.toArray.size * k.toNat ≤ sizeLine := by
    rw [List.size_toArray, ← hl]
    exact hz
  have c2 : ¬ us.toArray.size * k.toNat > (2 ^ 63 - 1) / 8 := by
    have big : (sizeLine : Nat) ≤ (2 ^ 63 - 1) / 8 := by decide
    omega
  have c3 : ¬ Builtin.List.listTooLong (us.toArray.size * k.toNat) = true := by
    rw [notLongL hle]
    simp
  have fl : ∀ m : Nat, List.foldl (fun x1 x2 => x1 ++ x2) #[] (List.replicate m us.toArray) = (List.replicate m us).flatten.toArray := fun m => by
    have z := foldl_rep us m []
    rw [List.nil_append] at z
    exact z
  have fin : List.foldl (fun x1 x2 => x1 ++ x2) #[] (List.replicate (if us.toArray.isEmpty = true then 0 else k.toNat) us.toArray) = (List.replicate k.toNat us).flatten.toArray := by
    rw [fl]
    cases us with
    | nil => simp
    | cons a r' => rw [if_neg (by simp)]
  refine wpAny_binaryOp_repeat_ref (T := "list") (U := "int") (by decide) ⟨_, e, rfl⟩ (fun s' => typeIs_int s' k tk) noFill_list_mul F.fills_int_mul F.slot_int_rmul repeat_list F.slot_int_index.lookup (call_meets F.slot_int_rmul (typeIs_int s k tk)
    F.entry_int_rmul (F.args_int_rmul_2 _ _) (int___rmul___int_list k tk l us.toArray n) ⟨e, rfl, ⟨_, e, rfl⟩, call_meets F.slot_list_mul ⟨_, e, rfl⟩ F.entry_list_mul (F.args_list_mul_2 _ _) (AutoListH.list___mul___list_int_3 l us.toArray n k tk c1 c2 c3) ⟨e, ?_⟩⟩)
  rw [fin]
  exact ⟨.ref _, _, I.lnew (t' := s.toks) (r.rep k.toNat) (by rw [PyProof.Rows.lm_len_rep_flat, Nat.mul_comm]; exact hz), rfl, q _ I.fresh⟩
def rAdd : R2 := rI0 fun i j => .int (i + j)
def rAddS : R2 := fun x y H Q => ∃ i j, x = .str i ∧ y = .str j ∧ i.length + j.length ≤ sizeLine ∧ Q (.str (i ++ j)) H
def rMulAll : R2 := fun x y H Q => rI CMul (fun i j => .int (i * j)) x y H Q ∨ rI CMulW (fun i j => .int (i * j)) x y H Q
def rBin (K : PySem.W.Frag) : Operator → R2
  | .Add => fun x y H Q => ((rAdd x y H Q ∨ rAddS x y H Q) ∨ rCatL x y H Q) ∨ rCatA K x y H Q
  | .Sub => rI0 fun i j => .int (i - j)
  | .Mult => fun x y H Q => (rI CMul (fun i j => .int (i * j)) x y H Q ∨ rI CMulW (fun i j => .int (i * j)) x y H Q) ∨ rRepL x y H Q
  | .FloorDiv => rI CDivW fun i j => .int (i / j)
  | .Mod => rI (fun _ j => 0 < j) fun i j => .int (i % j)
  | .Pow => rI CPow fun i j => .int (i ^ j.toNat)
  | _ => fun _ _ _ _ => False
theorem op_bin : ∀ op : Operator, OpR X (binaryOp op) (rBin X.K op)
  | .Add => or2 (or2 (or2 op_add op_add_str) op_catL) op_catA
  | .Sub => op_sub
  | .Mult => or2 (or2 op_mul op_mulW) op_repL
  | .FloorDiv => op_fdivW
  | .Mod => op_mod
  | .Pow => op_pow
  | .MatMult => ofNever
  | .Div => ofNever
  | .LShift => ofNever
  | .RShift => ofNever
  | .BitOr => ofNever
  | .BitXor => ofNever
  | .BitAnd => ofNever
def rCmp (K : PySem.W.Frag) : CmpOp → R2
  | .Lt => rI0 fun i j => .bl (decide (i < j))
  | .LtE => rI0 fun i j => .bl (decide (i ≤ j))
  | .Gt => rI0 fun i j => .bl (decide (j < i))
  | .GtE => rI0 fun i j => .bl (decide (j ≤ i))
  | .Eq => rEqD K
  | .NotEq => rNeD K
  | .In => rIn K false
  | .NotIn => rIn K true
  | .Is => fun x y H Q => (y = .non ∧ Q (.bl (decide (x = .non))) H) ∨ rIsB x y H Q
  | .IsNot => fun x y H Q => (y = .non ∧ Q (.bl (!decide (x = .non))) H) ∨ rNotB x y H Q
theorem op_cmp (hu : X.A.units + 64 < cLine) : ∀ op : CmpOp, OpR X (compareOp op) (rCmp X.K op)
  | .Lt => op_lt
  | .LtE => op_le
  | .Gt => op_gt
  | .GtE => op_ge
  | .Eq => op_eqD hu
  | .NotEq => op_neD hu
  | .In => op_in_seq
  | .NotIn => op_notIn_seq
  | .Is => or2 op_isN op_isBl
  | .IsNot => or2 op_notN op_notBl

/-! ### sorted of a tuple -/
end
end Pf
namespace PyProof.Rows
open PySem
section
variable {prog : Program} {w : World} {A : Around} {E : Value → Shared → Prop} {s : Shared}
theorem pf_collect {l : Addr} {vs : List Value} {Q : List Value → Shared → Prop} (hl : s.heap.IsTuple l vs.toArray) (hz : vs.length ≤ sizeLine)
    (h : Q vs { s with heap := (s.heap.push (seqObj "list" #[] 0)).update s.heap.objs.size (Obj.mapSeq (· ++ vs.toArray)) }) :
    wpAny (model prog w) A (collect (.ref l)) Q E s := by
  obtain ⟨ot, gt, ct, nt, dt⟩ := id hl
  unfold collect
  refine wpAny_bind (wpAny_runValue (codeAny_builtin entry_proto_collect' ?_))
  show wpAny _ _ (do again (.builtin "list.__iadd__" ⟨[← newList [], .ref l], []⟩)) _ _ s
  refine wpAny_bind (wpAny_newList (wpAny_pure ⟨Code.quiet_builtin _ (by decide +kernel), codeAny_builtin entry_list_iadd' ?_⟩))
  show wpAny _ _ (Builtin.List.listExtendWith (.ref s.heap.objs.size) (.ref l) (.ref s.heap.objs.size)) _ _ { s with heap := s.heap.push (seqObj "list" #[] 0) }
  unfold Builtin.List.listExtendWith
  have g2 : (s.heap.push (seqObj "list" #[] 0)).get? l = some ot := Heap.get?_push_of_some _ gt
  refine wpAny_bind (wpAny_typeOf (T := "tuple") ⟨ot, g2, ct⟩ ?_)
  have tt : (Value.type "tuple" == Value.type "tuple") = true := by rfl
  rw [if_pos (by rw [tt, Bool.or_true])]
  refine wpAny_bind (listItems_at g2 dt ?_)
  refine wpAny_bind (listItems_at (xs := #[]) (n := 0) (Heap.get?_push_size _ rfl) rfl ?_)
  rw [if_neg (by simp)]
  have sz : ((#[] : Array Value) ++ vs.toArray).size ≤ sizeLine + 1 := by
    simp only [Array.size_append, List.size_toArray, List.length_nil]
    omega
  refine wpAny_bind (listUpdate_at (xs := #[]) (n := 0) (Heap.get?_push_size _ rfl) rfl ?_ (Nat.zero_le _) sz)
  refine wpAny_pure ?_
  show wpAny (model prog w) A (do
      let o ← load s.heap.objs.size
      match o.data with
      | .seq xs _ => pure xs.toList
      | _ => unsupported "internal:collect") Q E { s with heap := (s.heap.push (seqObj "list" #[] 0)).update s.heap.objs.size (Obj.mapSeq (· ++ vs.toArray)) }
  refine wpAny_bind (wpAny_load (get?_update_seq (Heap.get?_push_size _ rfl) _) ?_)
  have ee : ((#[] : Array Value) ++ vs.toArray).toList = vs := by simp
  show wpAny _ _ (pure ((#[] : Array Value) ++ vs.toArray).toList) Q E _
  rw [ee]
  exact wpAny_pure h
theorem pf_sorted {l : Addr} {vs : List Value} {ltv : Value → Value → Bool} {Q : Value → Shared → Prop} (O : SrtO.Swo ltv) (hl : s.heap.IsTuple l vs.toArray) (hz : vs.length ≤ sizeLine)
    (hS : 2 ≤ vs.length → ∀ (h' : Heap) (a : Addr), h'.get? a = some (seqObj "list" vs.toArray 0) → (∀ b o, s.heap.get? b = some o → b ≠ a ∧ h'.get? b = some o) → SrtO.SortableO prog w A.in1.in1 { s with heap := h' } a vs ltv)
    (h : ∀ out : List Value, SrtO.Srtd ltv out → SrtO.Stb ltv out vs → Q (.ref (s.heap.objs.size + 1)) { s with heap := sortedAll s.heap vs out.toArray }) :
    wpAny (model prog w) A (call (.builtin "sorted") [.ref l]) Q E s := by
  refine Calls.call_function_entry kind_sorted plain_sorted entry_sorted (args_sorted1 _) ?_
  unfold Builtin.«sorted»
  refine wpAny_bind (m := checkCount "sorted" 1 1 _) (wpAny_pure ?_)
  refine wpAny_bind (pf_collect hl hz ?_)
  refine wpAny_bind (wpAny_newList ?_ hz)
  have n1 : ((s.heap.push (seqObj "list" #[] 0)).update s.heap.objs.size (Obj.mapSeq (· ++ vs.toArray))).objs.size = s.heap.objs.size + 1 := by
    rw [Heap.size_update, size_push']
  have at1 : (((s.heap.push (seqObj "list" #[] 0)).update s.heap.objs.size (Obj.mapSeq (· ++ vs.toArray))).push (seqObj "list" vs.toArray 0)).get? (s.heap.objs.size + 1) = some (seqObj "list" vs.toArray 0) := by
    rw [← n1]
    exact Heap.get?_push_size _ rfl
  have old : ∀ b o, s.heap.get? b = some o → b ≠ s.heap.objs.size + 1 ∧ (((s.heap.push (seqObj "list" #[] 0)).update s.heap.objs.size (Obj.mapSeq (· ++ vs.toArray))).push (seqObj "list" vs.toArray 0)).get? b = some o := fun b o q => by
    have lt := Heap.lt_size q
    refine ⟨Nat.ne_of_lt (Nat.lt_succ_of_lt lt), Heap.get?_push_of_some _ ?_⟩
    rw [Heap.get?_update_ne _ _ _ _ (Nat.ne_of_lt lt)]
    exact Heap.get?_push_of_some _ q
  show wpAny _ _ _ _ _ { s with heap := ((s.heap.push (seqObj "list" #[] 0)).update s.heap.objs.size (Obj.mapSeq (· ++ vs.toArray))).push (seqObj "list" vs.toArray 0) }
  rw [n1]
  refine wpAny_bind (wpAny_holding (wpAny_call_entry slot_list_sort ⟨_, at1, rfl⟩ entry_list_sort (SrtO.list_sort_ord O at1 hz (fun h2 => hS h2 _ _ at1 old) fun out hs hb => ⟨_, rfl, ?_⟩) (args_list_sort _)))
  exact wpAny_pure ⟨_, rfl, h out hs hb⟩
end
end PyProof.Rows
namespace Pf
open PySem PySem.Spec PyProof.Rows L2
section
variable {X : Cx}
def rSrtT (K : PySem.W.Frag) : List V → Hp → VK → Prop := fun vs H Q => ∃ (a : Addr) (ns : List Int), vs = [V.ref a] ∧ SqT K H a (ns.map V.int) ∧
  ∀ (ns' : List Int) (p : Addr), ns'.Perm ns → ns'.Pairwise (· ≤ ·) → H p = none → Q (.ref p) (upd H p (.lst (ns'.map V.int)))
theorem cr_srtT : CallR X (.builtin "sorted") (rSrtT X.K) := by
  intro pins s σ H vs us Q I r h
  obtain ⟨a, ns, rfl, hs, q⟩ := h
  obtain ⟨its, rv, hl, hz⟩ := I.tuple hs
  rw [Vals.ref1 r]
  have hi := rv.ints
  refine pf_sorted SrtO.swo_int hl (by rw [← rv.length]; exact hz) (fun h2 h₁ a' _ _ => SrtO.ints_sortable hi h2) fun out h1 h2 => ?_
  obtain ⟨k1, k2, k3⟩ := SrtO.ints_out hi h1 h2
  obtain ⟨ep, he'⟩ := PyProof.Rows.sortedAll_at s.heap its out.toArray
  have hlen : ((out.map SrtO.iv).map V.int).length ≤ sizeLine := by
    have e := k2.length_eq
    simp only [List.length_map] at hz e ⊢
    omega
  exact ⟨.ref _, upd H (s.heap.objs.size + 1) (.lst ((out.map SrtO.iv).map V.int)), I.laid (t' := s.toks) (fun _ _ => PyProof.Rows.sortedAll_old) (Nat.le_succ _) ⟨hlen, out, ep, vals_of_ints k1, he'⟩, rfl, q _ _ k2 k3 (I.hok.fresh (Nat.le_succ _))⟩
theorem dpAll_len {K : PySem.W.Frag} {H : Hp} : ∀ {xs : List V} {ds : List PyData}, DpAll K H xs ds → xs.length = ds.length
  | _, _, .nil => rfl
  | _, _, .cons _ t => by rw [List.length_cons, List.length_cons, dpAll_len t]
theorem dpAll_e1 {K : PySem.W.Frag} {H : Hp} : ∀ {xs : List V} {its : List Value} {ds : List PyData}, Vals xs its → DpAll K H xs ds → PySem.W.EachIs (fun (v : Value) (b : V × PyData) => RelV b.1 v) its (xs.zip ds)
  | _, _, _, .nil, _ => .nil
  | _, _, _, .cons rx rv, .cons _ t => .cons rx (dpAll_e1 rv t)
theorem dpAll_e2 {pins : List (Addr × Obj)} {σ : L2.St} {H : Hp} {s : Shared} (I : Inv X pins σ H s) : ∀ {xs : List V} {its : List Value} {ds : List PyData}, Vals xs its → DpAll X.K H xs ds → PySem.W.EachIs (fun (v : Value) (b : V × PyData) => ∃ as, Reads s.heap v b.2 as) its (xs.zip ds)
  | _, _, _, .nil, _ => .nil
  | _, _, _, .cons rx rv, .cons h t => .cons (Dp.reads I _ _ _ h rx) (dpAll_e2 I rv t)
theorem each_fst : ∀ {os : List Value} {bs : List (V × PyData)}, PySem.W.EachIs (fun (v : Value) (b : V × PyData) => RelV b.1 v) os bs → Vals (bs.map Prod.fst) os
  | _, _, .nil => .nil
  | _, _, .cons h t => .cons h (each_fst t)
/-- sorted of tuples of one form: a new list of the same items in some order -/
def rSrtD (K : PySem.W.Frag) : List V → Hp → VK → Prop := fun vs H Q => ∃ (a : Addr) (xs : List V) (ds : List PyData), vs = [V.ref a] ∧ SqL K H a xs ∧ DpAll K H xs ds ∧ PySem.W.AllAlike ds ∧ PySem.W.Sortable ds ∧ (∀ d ∈ ds, d.depth ≤ 60) ∧
  ∀ ys p, ys.Perm xs → H p = none → Q (.ref p) (upd H p (.lst ys))
theorem cr_srtD (hu : X.A.units + 66 < cLine) : CallR X (.builtin "sorted") (rSrtD X.K) := by
  intro pins s σ H vs us Q I r h
  obtain ⟨a, xs, ds, rfl, hs, hd, hal, hk, hdp, q⟩ := h
  obtain ⟨its, rv, hl, hz⟩ := I.list hs
  rw [Vals.ref1 r]
  have hlen : xs.length = ds.length := dpAll_len hd
  have em : (xs.zip ds).map Prod.snd = ds := List.map_snd_zip (Nat.le_of_eq hlen.symm)
  have lz : (xs.zip ds).length = ds.length := by rw [List.length_zip, hlen, Nat.min_self]
  refine PySem.W.sorted_data (enc := Prod.snd) (R := fun (v : Value) (b : V × PyData) => RelV b.1 v) hl.isList (dpAll_e1 rv hd) (dpAll_e2 I rv hd) (by rw [em]; exact hal) (by rw [em]; exact hk) (by rw [lz, ← hlen]; exact hz) (fun b hb => ?_) fun out hlo eo => ?_
  · have := hdp b.2 (by rw [← em]; exact List.mem_map.mpr ⟨b, hb, rfl⟩)
    omega
  · obtain ⟨ep, he'⟩ := PyProof.Rows.sortedAll_at s.heap its out.toArray
    have pm : (((xs.zip ds).mergeSort (PySem.W.dataLe false Prod.snd)).map Prod.fst).Perm xs := by
      have := List.Perm.map Prod.fst (List.mergeSort_perm (xs.zip ds) (PySem.W.dataLe false Prod.snd))
      rwa [List.map_fst_zip (Nat.le_of_eq hlen)] at this
    exact ⟨.ref _, upd H (s.heap.objs.size + 1) (.lst (((xs.zip ds).mergeSort (PySem.W.dataLe false Prod.snd)).map Prod.fst)), I.laid (t' := s.toks) (fun _ _ => PyProof.Rows.sortedAll_old) (Nat.le_succ _) ⟨by rw [pm.length_eq]; exact hz, out, ep, each_fst eo, he'⟩, rfl, q _ _ pm (I.hok.fresh (Nat.le_succ _))⟩
/-- sum of a tuple -/
theorem sum_tupV {prog : Program} {w : World} {A : Around} {E : Value → Shared → Prop} {s : Shared} {l : Addr} {its : List Value} {ns : List Int} {Q : Value → Shared → Prop} (hh : A.handled = none) (hl : s.heap.IsTuple l its.toArray) (hi : IntsAre its ns)
    (h : ∀ h' tk t', (∀ b o, s.heap.get? b = some o → h'.get? b = some o) → Q (.int ns.sum t') { s with heap := h', toks := tk }) : wpAny (model prog w) A (call (.builtin "sum") [.ref l]) Q E s := by
  obtain ⟨xs, e⟩ := hi.allInts.items
  have hn : numsOf (intItems xs).toList = ns := by rw [← e]; exact hi.numsOf
  rw [nums_intItems] at hn
  rw [e] at hl
  have hlt : l < s.heap.objs.size := by obtain ⟨_, e, _⟩ := hl; exact Heap.lt_size e
  refine call_sum_walkG (wpAny_pyIter_tuple hl ⟨_, _, _, _, _, _, numAt xs, rfl, Walks.tuple (A := A.in1) hh _ l (Nat.ne_of_lt hlt) (intItems xs), ⟨⟨_, Heap.get?_push_size _ rfl, rfl, rfl⟩, hl.push _⟩, fun b hb => ?_, (fun _ _ => intItems_at), fun h' tk t' hk => ?_⟩)
  · show b < (s.heap.push _).objs.size
    rw [Heap.size_push]
    rcases List.mem_cons.mp hb with rfl | hb
    · exact Nat.lt_succ_self _
    · rcases List.mem_cons.mp hb with rfl | hb
      · exact Nat.lt_succ_of_lt hlt
      · cases hb
  · have := h h' tk t' fun b o q => hk b o (fun hb => by
      rw [List.mem_singleton] at hb
      exact Nat.ne_of_lt (Heap.lt_size q) hb) (Heap.get?_push_of_some _ q)
    rw [← hn] at this
    have e2 : PySem.preSum (numAt xs) (intItems xs).size = (xs.toList.map Prod.fst).sum := by
      rw [preSum_eq, List.take_of_length_le (by simp [intItems])]
    rw [e2]
    exact this
def rSumT (K : PySem.W.Frag) : List V → Hp → VK → Prop := fun vs H Q => ∃ (a : Addr) (ns : List Int), vs = [V.ref a] ∧ SqT K H a (ns.map V.int) ∧ Q (.int ns.sum) H
theorem cr_sumT (hc : X.calm = true) : CallR X (.builtin "sum") (rSumT X.K) := by
  intro pins s σ H vs us Q I r h
  obtain ⟨a, ns, rfl, hs, q⟩ := h
  obtain ⟨its, rv, hl, _⟩ := I.tuple hs
  rw [Vals.ref1 r]
  exact sum_tupV (I.ok.hd hc) hl rv.ints fun h' tk t' hk => ⟨.int _, H, I.kept hk, ⟨_, rfl⟩, q⟩
/-- the built-ins -/
def rBlt (K : PySem.W.Frag) : Bf → List V → Hp → VK → Prop
  | .len => fun xs H Q => ∃ x n, xs = [x] ∧ LenV K x H n ∧ Q (.int n) H
  | .int1 => fun xs H Q => (∃ i, xs = [.int i] ∧ Q (.int i) H) ∨ ∃ k, xs = [.bl k] ∧ Q (.int (if k then 1 else 0)) H
  | .abs => fun xs H Q => ∃ i, xs = [.int i] ∧ Q (.int (if i < 0 then -i else i)) H
  | .min2 => fun xs H Q => ∃ i j, xs = [.int i, .int j] ∧ Q (.int (if j < i then j else i)) H
  | .max2 => fun xs H Q => ∃ i j, xs = [.int i, .int j] ∧ Q (.int (if j > i then j else i)) H
  | .sum => fun vs H Q => rSum K vs H Q ∨ rSumT K vs H Q
  | .maxL => rMax K
  | .minL => rMin K
  | .sorted => fun xs H Q => rSortedI K xs H Q ∨ rSrtT K xs H Q
  | .sortD => rSrtD K
  | .list1 => fun xs H Q => ∃ p ys, xs = [.ref p] ∧ (SqL K H p ys ∨ SqT K H p ys) ∧ ∀ l, H l = none → Q (.ref l) (upd H l (.lst ys))
  | .tuple1 => fun xs H Q => ∃ p ys, xs = [.ref p] ∧ ((SqL K H p ys ∧ ∀ l, H l = none → Q (.ref l) (upd H l (.tup ys))) ∨ (SqT K H p ys ∧ Q (.ref p) H))
  | .all1 => rAll K
  | .any1 => rAny K
def bfV : Bf → Value
  | .len => .builtin "len"
  | .int1 => .type "int"
  | .abs => .builtin "abs"
  | .min2 => .builtin "min"
  | .max2 => .builtin "max"
  | .sum => .builtin "sum"
  | .maxL => .builtin "max"
  | .minL => .builtin "min"
  | .sorted => .builtin "sorted"
  | .sortD => .builtin "sorted"
  | .list1 => .type "list"
  | .tuple1 => .type "tuple"
  | .all1 => .builtin "all"
  | .any1 => .builtin "any"
theorem cr_blt (hc : X.calm = true) (hu : X.A.units + 66 < cLine) : ∀ f : Bf, CallR X (bfV f) (rBlt X.K f)
  | .len => call_len
  | .int1 => call_int1
  | .abs => call_abs
  | .min2 => call_min2 hc
  | .max2 => call_max2 hc
  | .sum => orC (cr_sum hc) (cr_sumT hc)
  | .maxL => cr_max hc
  | .minL => cr_min hc
  | .sorted => orC cr_sortedI cr_srtT
  | .sortD => cr_srtD hu
  | .list1 => call_list_of
  | .tuple1 => call_tuple_of
  | .all1 => cr_all hc
  | .any1 => cr_any hc
end
end Pf

/-! The state of a body, further: calls, lists changed. -/
namespace Pf
open PySem PySem.Spec PyProof.Rows L2
section
variable (K : PySem.W.Frag) (g : Str → Addr)
def ST (B : Bs) (en : En) (rs : List R) (σ : Sg) (vs : List V) (H : Hp) : Prop := SR K g B en (rs ++ B.ts.map R.v) σ (vs ++ B.tv) H ∧ rs.length = vs.length
end
section
variable {K : PySem.W.Frag} {g : Str → Addr} {B : Bs} {en : En} {rs : List R} {σ : Sg} {vs : List V} {H : Hp}
theorem ST.flat {d : D} {v : V} (h : ST K g B en rs σ vs H) (r : ∀ Z, Rep K g Z H d v AS.no) : ST K g B en (.v d :: rs) σ (v :: vs) H :=
  ⟨SR.flat h.1 r, by rw [List.length_cons, List.length_cons, h.2]⟩
theorem ST.drop {r : R} {v : V} (h : ST K g B en (r :: rs) σ (v :: vs) H) : ST K g B en rs σ vs H := ⟨SR.drop h.1, by simpa using h.2⟩
theorem ST.read {i : Nat} {d : D} (h : ST K g B en rs σ vs H) (hi : (en[i]?).join = some d) (hf : fz d = true) : ∃ v, σ[i]? = some (some v) ∧ ST K g B en (.v d :: rs) σ (v :: vs) H := by
  obtain ⟨v, e, q⟩ := SR.read h.1 (i := i) (d := d) (by
    cases z : en[i]? with
    | none => rw [z] at hi; cases hi
    | some o => rw [z] at hi; rw [show o = some d from hi]) hf
  exact ⟨v, e, q, by rw [List.length_cons, List.length_cons, h.2]⟩
theorem join_some {en : En} {i : Nat} {d : D} (hi : (en[i]?).join = some d) : en[i]? = some (some d) := by
  cases z : en[i]? with
  | none => rw [z] at hi; cases hi
  | some o => rw [z] at hi; rw [show o = some d from hi]
theorem ST.slot {i : Nat} {d : D} (h : ST K g B en rs σ vs H) (hi : (en[i]?).join = some d) : ∃ v, σ[i]? = some (some v) ∧ ST K g B en (.s i :: rs) σ (v :: vs) H := by
  obtain ⟨v, e, q⟩ := SR.slot h.1 (join_some hi)
  exact ⟨v, e, q, by rw [List.length_cons, List.length_cons, h.2]⟩
theorem ST.freeze {i : Nat} {d : D} (h : ST K g B en rs σ vs H) (hi : (en[i]?).join = some d) : ∃ v, σ[i]? = some (some v) ∧ ST K g B (en.set i (some (frz d))) (.v (frz d) :: rs) σ (v :: vs) H := by
  obtain ⟨v, e, q⟩ := SR.freeze h.1 (join_some hi)
  exact ⟨v, e, q, by rw [List.length_cons, List.length_cons, h.2]⟩
theorem ST.freezeT {d : D} {v : V} (h : ST K g B en (.v d :: rs) σ (v :: vs) H) : ST K g B en (.v (frz d) :: rs) σ (v :: vs) H := ⟨SR.freezeT h.1, by simpa using h.2⟩
theorem ST.rep {r : R} {d : D} {v : V} (h : ST K g B en (r :: rs) σ (v :: vs) H) (hr : rv en r = some d) : ∃ Z O, Rep K g Z H d v O ∧ (∀ a, Z a → H a ≠ none) ∧ ∀ a, O a → ∃ x, H a = some x ∧ stat x = false := SR.rep h.1 hr
theorem ST.swap {r1 r2 : R} {v1 v2 : V} (h : ST K g B en (r1 :: r2 :: rs) σ (v1 :: v2 :: vs) H) : ST K g B en (r2 :: r1 :: rs) σ (v2 :: v1 :: vs) H := ⟨SR.swap h.1, by simpa using h.2⟩
theorem ST.tup {ds : List D} {us : List V} (h : ST K g B en (ds.map R.v ++ rs) σ (us ++ vs) H) (hl : ds.length = us.length) {p : Addr} (hp : H p = none) : ST K g B en (.v (.tup ds) :: rs) σ (.ref p :: vs) (upd H p (.tup us)) := by
  obtain ⟨h, l⟩ := h
  rw [List.append_assoc, List.append_assoc] at h
  refine ⟨SR.tup h hl hp, ?_⟩
  simp only [List.length_append, List.length_map] at l
  simp only [List.length_cons]
  omega
theorem ST.lst {ds : List D} {us : List V} (h : ST K g B en (ds.map R.v ++ rs) σ (us ++ vs) H) (hl : ds.length = us.length) {p : Addr} (hp : H p = none) : ST K g B en (.v (.lst true ds) :: rs) σ (.ref p :: vs) (upd H p (.lst us)) := by
  obtain ⟨h, l⟩ := h
  rw [List.append_assoc, List.append_assoc] at h
  refine ⟨SR.lst h hl hp, ?_⟩
  simp only [List.length_append, List.length_map] at l
  simp only [List.length_cons]
  omega
theorem ST.asg {i : Nat} {d : D} {v : V} (h : ST K g B en [.v d] σ [v] H) (hi : i < σ.length) (hp : ∀ p ∈ B.pin, p.1 ≠ i) : ST K g B (en.set i (some d)) [] (σ.set i (some v)) [] H := ⟨SR.asg h.1 hi hp, rfl⟩
theorem ST.off (h : ST K g B en rs σ vs H) (i : Nat) : ST K g B (en.set i none) rs σ vs H := ⟨SR.off h.1 i, h.2⟩
/-- a new object whose parts own nothing: the parts stand for themselves -/
theorem ST.newF {d : D} {p : Addr} {o : HO} (h : ST K g B en rs σ vs H) (hp : H p = none) (hs : stat o = false) (r : ∀ Z, (∀ a, Z a → H a ≠ none) → (∀ b, B.Z b → Z b) → Rep K g Z (upd H p o) d (.ref p) (fun a => a = p)) : ST K g B en (.v d :: rs) σ (.ref p :: vs) (upd H p o) := by
  obtain ⟨⟨Z, O, O1, O2, e, t, s1, s2, q, pi⟩, hl⟩ := h
  have n := q.nonew hp
  refine ⟨⟨Z, fun a => O a ∨ a = p, O1, fun a => O2 a ∨ a = p, e.keep (fun _ z => z) (keep_new hp), .v (O1 := fun a => a = p) (O2 := O2) (fun b z => .inr z) (fun b z => ⟨.inl z, fun y => n.1 (y ▸ (s2 b z).1)⟩) (r Z q.trZ q.zz) (t.keep (fun _ z => z) (keep_new hp)), fun b z => .inl (s1 b z), fun b z => ?_, q.newO hp hs, pi⟩, by rw [List.length_cons, List.length_cons, hl]⟩
  rcases z with z | z
  · exact ⟨.inl (s2 b z).1, (s2 b z).2⟩
  · exact ⟨.inr z, fun y => n.1 (z ▸ s1 b y)⟩

/-- values in flight, taken for a call -/
theorem takeA_ok {Z : AS} {rest : List R} {ws : List V} : ∀ {xs : List R} {us : List V} {en en2 : En} {ds : List D} {O Oe Ot : AS}, RepE K g Z H en σ Oe → RepT K g Z H σ (xs ++ rest) (us ++ ws) Ot → xs.length = us.length → (∀ b, Oe b → Ot b → False) → takeA en xs = some (ds, en2) →
    ∃ Oa Oe' Or, RepL K g Z H ds us Oa ∧ RepE K g Z H en2 σ Oe' ∧ RepT K g Z H σ rest ws Or ∧ (∀ b, Oa b → Oe b ∨ Ot b) ∧ (∀ b, Oe' b → Oe b ∧ ¬ Oa b) ∧ (∀ b, Or b → Ot b ∧ ¬ Oa b)
  | [], [], en, en2, ds, O, Oe, Ot, e, t, _, dj, h => by
    cases h
    exact ⟨AS.no, Oe, Ot, .nil, e, t, fun _ z => z.elim, fun _ z => ⟨z, id⟩, fun _ z => ⟨z, id⟩⟩
  | [], _ :: _, _, _, _, _, _, _, _, _, h, _, _ => by cases h
  | _ :: _, [], _, _, _, _, _, _, _, _, h, _, _ => by cases h
  | .v d :: xs, u :: us, en, en2, ds, O, Oe, Ot, e, t, hl, dj, h => by
    have h' : (takeA en xs).map (fun p => (d :: p.1, p.2)) = some (ds, en2) := h
    obtain ⟨⟨ds', en3⟩, h1, h2⟩ := Option.map_eq_some_iff.mp h'
    cases h2
    cases t with
    | @v _ A C _ _ _ _ a1 a2 r t =>
      obtain ⟨Oa, Oe', Or, k1, k2, k3, s1, s2, s3⟩ := takeA_ok (O := O) e t (by simpa using hl) (fun b x y => dj b x (a2 b y).1) h1
      refine ⟨fun b => A b ∨ Oa b, Oe', Or, .cons (O1 := A) (O2 := Oa) (fun b z => .inl z) (fun b z => ⟨.inr z, fun y => ?_⟩) r k1, k2, k3, fun b z => ?_, fun b z => ⟨(s2 b z).1, fun y => ?_⟩, fun b z => ⟨(a2 b (s3 b z).1).1, fun y => ?_⟩⟩
      · rcases s1 b z with x | x
        · exact dj b x (a1 b y)
        · exact (a2 b x).2 y
      · rcases z with z | z
        · exact .inr (a1 b z)
        · exact (s1 b z).imp id fun x => (a2 b x).1
      · rcases y with y | y
        · exact dj b (s2 b z).1 (a1 b y)
        · exact (s2 b z).2 y
      · rcases y with y | y
        · exact (a2 b (s3 b z).1).2 y
        · exact (s3 b z).2 y
  | .s i :: xs, u :: us, en, en2, ds, O, Oe, Ot, e, t, hl, dj, h => by
    have h' : (match (en[i]?).join with
      | some d => (takeA (en.set i none) xs).map fun p => (d :: p.1, p.2)
      | none => none) = some (ds, en2) := h
    cases hd : (en[i]?).join with
    | none => rw [hd] at h'; cases h'
    | some d =>
      rw [hd] at h'
      obtain ⟨⟨ds', en3⟩, h1, h2⟩ := Option.map_eq_some_iff.mp h'
      cases h2
      cases t with
      | s ev t =>
        obtain ⟨v, A, C, ev', r, e', a1, a2⟩ := e.split (join_some hd)
        rw [ev] at ev'
        cases ev'
        obtain ⟨Oa, Oe', Or, k1, k2, k3, s1, s2, s3⟩ := takeA_ok (O := O) e' t (by simpa using hl) (fun b x y => dj b (a2 b x).1 y) h1
        refine ⟨fun b => A b ∨ Oa b, Oe', Or, .cons (O1 := A) (O2 := Oa) (fun b z => .inl z) (fun b z => ⟨.inr z, fun y => ?_⟩) r k1, k2, k3, fun b z => ?_, fun b z => ⟨(a2 b (s2 b z).1).1, fun y => ?_⟩, fun b z => ⟨(s3 b z).1, fun y => ?_⟩⟩
        · rcases s1 b z with x | x
          · exact (a2 b x).2 y
          · exact dj b (a1 b y) x
        · rcases z with z | z
          · exact .inl (a1 b z)
          · exact (s1 b z).imp (fun x => (a2 b x).1) id
        · rcases y with y | y
          · exact (a2 b (s2 b z).1).2 y
          · exact (s2 b z).2 y
        · rcases y with y | y
          · exact dj b (a1 b y) (s3 b z).1
          · exact (s3 b z).2 y
/-- the names' own lists among the arguments -/
inductive Sl (σ : Sg) : List R → List V → Prop
  | nil : Sl σ [] []
  | v {d : D} {v : V} {rs : List R} {vs : List V} (t : Sl σ rs vs) : Sl σ (.v d :: rs) (v :: vs)
  | s {i : Nat} {v : V} {rs : List R} {vs : List V} (e : σ[i]? = some (some v)) (t : Sl σ rs vs) : Sl σ (.s i :: rs) (v :: vs)
theorem RepT.sl {Z : AS} {rest : List R} {ws : List V} : ∀ {xs : List R} {us : List V} {O : AS}, RepT K g Z H σ (xs ++ rest) (us ++ ws) O → xs.length = us.length → Sl σ xs us
  | [], [], _, _, _ => .nil
  | [], _ :: _, _, _, h => by cases h
  | _ :: _, [], _, _, h => by cases h
  | .v d :: xs, u :: us, _, t, h => by
    cases t with
    | v a1 a2 r t => exact .v (RepT.sl t (by simpa using h))
  | .s i :: xs, u :: us, _, t, h => by
    cases t with
    | s e t => exact .s e (RepT.sl t (by simpa using h))
theorem putA_ok {Z : AS} : ∀ {xs : List R} {us : List V} {up : List (Option D)} {en : En} {O O1 O2 : AS}, Sl σ xs us → RepE K g Z H en σ O1 → RepE K g Z H up (us.map some) O2 → (∀ b, O1 b → O b) → (∀ b, O2 b → O b ∧ ¬ O1 b) → RepE K g Z H (putA en xs up) σ O
  | [], _, up, en, O, O1, O2, _, e, _, s1, _ => by
    have : putA en [] up = en := by unfold putA; rfl
    rw [this]
    exact e.up s1
  | .v d :: xs, _, up, en, O, O1, O2, .v t, e, u, s1, s2 => by
    cases u with
    | un u =>
      have z := putA_ok t e u s1 s2
      exact z
    | has a1 a2 r u =>
      have z := putA_ok t e u s1 fun b z => s2 b (a2 b z).1
      exact z
  | .s i :: xs, _, up, en, O, O1, O2, .s ev t, e, u, s1, s2 => by
    cases u with
    | un u =>
      have z := putA_ok t (e.off i) u s1 s2
      exact z
    | @has _ A C d v _ _ a1 a2 r u =>
      have z := putA_ok (O := O) (O1 := fun b => O1 b ∨ A b) t (RepE.put (O1 := A) (O2 := O1) e ev r (fun b z => .inr z) fun b z => ⟨.inl z, fun y => (s2 b (a1 b y)).2 z⟩) u (fun b z => z.elim (s1 b) fun z => (s2 b (a1 b z)).1) fun b z => ⟨(s2 b (a2 b z).1).1, fun y => y.elim (s2 b (a2 b z).1).2 (a2 b z).2⟩
      exact z
/-- what a callee may have done -/
theorem Good.callee {Z O Oa O' Z' : AS} {H' : Hp} {Ok : AS} (q : Good B Z O H) (sa : ∀ a, Oa a → O a) (sk : ∀ a, Ok a → O a ∧ ¬ Oa a) (c : Good ⟨H, Z, Oa, [], [], []⟩ Z' O' H') :
    Good B Z' (fun a => O' a ∨ Ok a) H' ∧ (∀ a, O' a → Ok a → False) ∧ Keep Z Ok H H' := by
  have hO : ∀ a, Ok a → H a ≠ none := fun a h => by
    obtain ⟨x, e, _⟩ := q.trO a (sk a h).1
    rw [e]
    intro z
    cases z
  have hd : ∀ a, O' a → Ok a → False := fun a h k => by
    rcases c.on a h with z | z
    · exact (sk a k).2 z
    · exact hO a k z
  have fr' : ∀ a x, H a = some x → ¬ Oa a → H' a = some x := c.fr
  refine ⟨⟨fun a h z => ?_, fun a h => ?_, c.trZ, fun a x h n => ?_, fun a h => c.dom a (q.dom a h), fun a h => c.zz a (q.zz a h), fun a h => ?_, fun a h => ?_⟩, hd, fun a x h k => ?_⟩
  · rcases h with h | h
    · exact c.dj a h z
    · rcases c.zn a z with y | y | y
      · exact q.dj a (sk a h).1 y
      · exact (sk a h).2 y
      · exact hO a h y
  · rcases h with h | h
    · exact c.trO a h
    · obtain ⟨x, e, s⟩ := q.trO a (sk a h).1
      exact ⟨x, fr' a x e (sk a h).2, s⟩
  · refine fr' a x (q.fr a x h n) fun z => ?_
    rcases q.on a (sa a z) with y | y
    · exact n y
    · rw [h] at y
      cases y
  · rcases c.zn a h with y | y | y
    · exact q.zn a y
    · exact .inr (q.on a (sa a y))
    · refine .inr (.inr ?_)
      cases e : B.H a with
      | none => rfl
      | some x => exact absurd y (q.dom a (by rw [e]; intro z; cases z))
  · rcases h with h | h
    · rcases c.on a h with y | y
      · exact q.on a (sa a y)
      · refine .inr ?_
        cases e : B.H a with
        | none => rfl
        | some x => exact absurd y (q.dom a (by rw [e]; intro z; cases z))
    · exact q.on a (sk a h).1
  · refine fr' a x h fun z => ?_
    rcases k with k | k | k
    · exact q.dj a (sa a z) k
    · exact (sk a k).2 z
    · obtain ⟨y, e, s⟩ := q.trO a (sa a z)
      rw [h] at e
      cases e
      rw [k] at s
      cases s
theorem Good.refl {Z O : AS} (dj : ∀ a, O a → Z a → False) (tO : ∀ a, O a → ∃ x, H a = some x ∧ stat x = false) (tZ : ∀ a, Z a → H a ≠ none) : Good ⟨H, Z, O, [], [], []⟩ Z O H :=
  ⟨dj, tO, tZ, fun _ _ h _ => h, fun _ h => h, fun _ h => h, fun _ h => .inl h, fun _ h => .inl h⟩
theorem RepL.toE {Z : AS} : ∀ {ds : List D} {vs : List V} {O : AS}, RepL K g Z H ds vs O → RepE K g Z H (ds.map some) (vs.map some) O
  | _, _, _, .nil => .nil
  | _, _, _, .cons s1 s2 r t => .has s1 s2 r (RepL.toE t)
/-- the callee's state at its entry, and the caller's behind it -/
theorem call_ok {xs rest : List R} {us ws : List V} {ds : List D} {en2 : En} (h : SR K g B en (xs ++ rest) σ (us ++ ws) H) (hl : xs.length = us.length) (ht : takeA en xs = some (ds, en2)) :
    ∃ Z O, SR K g ⟨H, Z, O, [], [], []⟩ (ds.map some) [] (us.map some) [] H ∧
      ∀ (up : List (Option D)) (rr : List D) (vv : List V) (H' : Hp), rr.length = vv.length → SR K g ⟨H, Z, O, [], [], []⟩ up (rr.map R.v) (us.map some) vv H' → SR K g B (putA en2 xs up) (rr.map R.v ++ rest) σ (vv ++ ws) H' := by
  obtain ⟨Z, O, O1, O2, e, t, s1, s2, q, p⟩ := h
  have sl := t.sl hl
  obtain ⟨Oa, Oe, Or, k1, k2, k3, b1, b2, b3⟩ := takeA_ok (O := O) e t hl (fun b x y => (s2 b y).2 x) ht
  have sa : ∀ a, Oa a → O a := fun a h => (b1 a h).elim (s1 a) fun z => (s2 a z).1
  refine ⟨Z, Oa, ⟨Z, Oa, Oa, AS.no, k1.toE, .nil, fun _ z => z, fun _ z => z.elim, (q.sub sa).dj |> fun dj => Good.refl dj (q.sub sa).trO q.trZ, fun _ z => absurd z (by simp)⟩, fun up rr vv H' hlr h' => ?_⟩
  obtain ⟨Z', O', A1, A2, e', t', c1, c2, q', _⟩ := h'
  obtain ⟨G1, G2, G3⟩ := Good.callee (Ok := fun a => Oe a ∨ Or a) q sa (fun a z => z.elim (fun z => ⟨s1 a (b2 a z).1, (b2 a z).2⟩) fun z => ⟨(s2 a (b3 a z).1).1, (b3 a z).2⟩) q'
  have zz : ∀ a, Z a → Z' a := q'.zz
  have t2 : RepT K g Z' H' (us.map some) (rr.map R.v ++ []) (vv ++ []) A2 := by
    rw [List.append_nil, List.append_nil]
    exact t'
  obtain ⟨C1, C2, r1, _, d1, d2⟩ := t2.vals hlr
  have e2 := putA_ok (O := fun a => Oe a ∨ A1 a) sl (k2.keep zz fun a x y z => G3 a x y (z.imp id fun z => z.imp (fun z => .inl z) id)) e' (fun b z => .inl z) fun b z => ⟨.inr z, fun y => G2 b (c1 b z) (.inl y)⟩
  have t3 := k3.keep zz fun a x y z => G3 a x y (z.imp id fun z => z.imp (fun z => .inr z) id)
  have t4 : RepT K g Z' H' σ (rr.map R.v ++ rest) (vv ++ ws) (fun a => C1 a ∨ Or a) := by
    have gen : ∀ {rr : List D} {vv : List V} {C O : AS}, RepL K g Z' H' rr vv C → (∀ b, C b → O b) → (∀ b, Or b → O b ∧ ¬ C b) → RepT K g Z' H' σ (rr.map R.v ++ rest) (vv ++ ws) O := by
      intro rr
      induction rr with
      | nil =>
        intro vv C O r i1 i2
        cases r
        exact t3.up fun b z => (i2 b z).1
      | cons x xs ih =>
        intro vv C O r i1 i2
        cases r with
        | @cons _ E1 E2 _ _ _ _ f1 f2 r r' =>
          refine .v (O1 := E1) (O2 := fun b => E2 b ∨ Or b) (fun b z => i1 b (f1 b z)) (fun b z => ?_) r (ih r' (fun b z => .inl z) fun b z => ⟨.inr z, fun y => (i2 b z).2 (f2 b y).1⟩)
          rcases z with z | z
          · exact ⟨i1 b (f2 b z).1, (f2 b z).2⟩
          · exact ⟨(i2 b z).1, fun y => (i2 b z).2 (f1 b y)⟩
    exact gen r1 (fun b z => .inl z) fun b z => ⟨.inr z, fun y => G2 b (c2 b (d1 b y)).1 (.inr z)⟩
  refine ⟨Z', _, fun a => Oe a ∨ A1 a, fun a => C1 a ∨ Or a, e2, t4, fun b z => ?_, fun b z => ?_, G1, p⟩
  · rcases z with z | z
    · exact .inr (.inl z)
    · exact .inl (c1 b z)
  · rcases z with z | z
    · refine ⟨.inl (c2 b (d1 b z)).1, fun y => ?_⟩
      rcases y with y | y
      · exact G2 b (c2 b (d1 b z)).1 (.inl y)
      · exact (c2 b (d1 b z)).2 y
    · refine ⟨.inr (.inr z), fun y => ?_⟩
      rcases y with y | y
      · exact (s2 b (b3 b z).1).2 (b2 b y).1
      · exact G2 b (c1 b y) (.inr z)
/-- a name's own list is changed; what is in flight above goes into it -/
theorem SR.mutL {i : Nat} {xs ds ys : List D} {us : List V} (h : SR K g B en (ds.map R.v ++ rs) σ (us ++ vs) H) (hl : ds.length = us.length) (hi : (en[i]?).join = some (.lst true xs)) :
    ∃ a ws, σ[i]? = some (some (.ref a)) ∧ H a = some (.lst ws) ∧ xs.length = ws.length ∧ (∃ Z O, RepL K g Z H xs ws O) ∧
      ∀ (zs : List V), (∀ Z O1 O2, RepL K g Z H xs ws O1 → RepL K g Z H ds us O2 → ∀ O, (∀ b, O1 b → O b) → (∀ b, O2 b → O b ∧ ¬ O1 b) → RepL K g Z H ys zs O) → SR K g B (en.set i (some (.lst true ys))) rs σ vs (upd H a (.lst zs)) := by
  obtain ⟨Z, O, O1, O2, e, t, s1, s2, q, p⟩ := h
  obtain ⟨v, A, C, ev, r, e', a1, a2⟩ := e.split (join_some hi)
  obtain ⟨T1, T2, k1, k2, b1, b2⟩ := t.vals hl
  cases r with
  | @lstO _ A' a _ ws ea oa sa ra =>
    refine ⟨a, ws, ev, ea, ra.length, ⟨Z, A', ra⟩, fun zs hz => ?_⟩
    have oA : O a := s1 a (a1 a oa)
    have nT1 : ¬ T1 a := fun z => (s2 a (b1 a z)).2 (a1 a oa)
    have nT2 : ¬ T2 a := fun z => (s2 a (b2 a z).1).2 (a1 a oa)
    have nC : ¬ C a := fun z => (a2 a z).2 oa
    have r2 : RepL K g Z H ys zs (fun b => A' b ∨ T1 b) := hz Z A' T1 ra k1 _ (fun b z => .inl z) fun b z => ⟨.inr z, fun y => (s2 b (b1 b z)).2 (a1 b (sa b y).1)⟩
    have r3 := r2.keep (fun _ z => z) (q.keep (x := .lst zs) oA fun z => z.elim (fun z => (sa a z).2 rfl) nT1)
    have rn : Rep K g Z (upd H a (.lst zs)) (.lst true ys) (.ref a) (fun b => A b ∨ T1 b) :=
      .lstO (O' := fun b => A' b ∨ T1 b) upd_same (.inl oa) (fun b z => z.elim (fun z => ⟨.inl (sa b z).1, (sa b z).2⟩) fun z => ⟨.inr z, fun y => nT1 (y ▸ z)⟩) r3
    have e2 := RepE.put (O := fun b => O1 b ∨ T1 b) (O1 := fun b => A b ∨ T1 b) (O2 := C) (e'.keep (fun _ z => z) (q.keep (x := .lst zs) oA nC)) ev rn (fun b z => z.imp (a1 b) id) fun b z => ⟨.inl (a2 b z).1, fun y => y.elim (a2 b z).2 fun y => (s2 b (b1 b y)).2 (a2 b z).1⟩
    rw [List.set_set] at e2
    refine ⟨Z, O, fun b => O1 b ∨ T1 b, T2, e2, k2.keep (fun _ z => z) (q.keep (x := .lst zs) oA nT2), fun b z => z.elim (s1 b) fun z => (s2 b (b1 b z)).1, fun b z => ⟨(s2 b (b2 b z).1).1, fun y => y.elim (s2 b (b2 b z).1).2 (b2 b z).2⟩, q.mut oA rfl, p⟩
end
end Pf

/-! Which text a term of the small language stands for; expressions. -/
namespace Pf
open PySem PySem.Spec PyProof.Rows L2

/-! ### the context -/
section
variable (K : PySem.W.Frag) (g : Str → Addr) (G : Gb)
/-- an error that leaves, at the state en -/
def EXS (B : Bs) (c : String) (fs : List D) (en : En) (σ : Sg) (H : Hp) (cls : Value) (d : Option Addr) : Prop :=
  ∃ vs ns fV, SR K g B en (fs.map R.v ++ B.ts.map R.v) σ (vs ++ B.tv) H ∧ fs.length = vs.length ∧ fzs fs = true ∧ cls = .ref (g (Str.ofString c)) ∧ G.excs c = some ns ∧ ns.length = fs.length ∧ (d = none → ns = []) ∧
    (∀ dx, d = some dx → H dx = some (.xd fV)) ∧ ∀ (i : Nat) (n : Str) (v : V), ns[i]? = some n → vs[i]? = some v → fV.lookup n = some v
def XL (B : Bs) (W : WX) (X : Xp) : Prop := ∀ c fs en σ H cls d, X c fs en → EXS K g G B c fs en σ H cls d → W cls d σ H
/-- a def's promise -/
def spOf (F : FSp) : Sp := fun vs H Q E => ∃ Z O ds q x, SR K g ⟨H, Z, O, [], [], []⟩ (ds.map some) [] (vs.map some) [] H ∧ F ds q x ∧
  (∀ r us v H', q r us → SR K g ⟨H, Z, O, [], [], []⟩ us [.v r] (vs.map some) [v] H' → Q v H') ∧
  ∀ c fs us cls d H', x c fs us → EXS K g G ⟨H, Z, O, [], [], []⟩ c fs us (vs.map some) H' cls d → E cls d H'
end
def bnames : List String := ["len", "int", "abs", "min", "max", "sum", "sorted", "list", "tuple", "all", "any", "range", "isinstance", "reversed", "bool", "str", "dict", "set"]
/-- what an own __init__ promises: the error's dict bears the arguments by their names -/
def iniSp (C : Addr) (ns : List Str) : Sp := fun vs H Q _ => ∃ a us, vs = .ref a :: us ∧ us.length = ns.length ∧ H a = some (exo a C none) ∧
  ∀ (d : Addr) (H' : Hp) (fV : List (Str × V)), H d = none → d ≠ a → H' a = some (exo a C (some d)) → H' d = some (exd d fV) → (∀ (i : Nat) (n : Str) (v : V), ns[i]? = some n → us[i]? = some v → fV.lookup n = some v) → (∀ b, b ≠ a → b ≠ d → H' b = H b) → Q .non H'
/-- an own error class -/
structure ExF (g : Str → Addr) (k : Nat) (P : Program) (w : World) (K : PySem.W.Frag) (mg : Str → Option Value) (base : Heap) (c : Str) (ns : List Str) : Prop where
  gm : mg c = some (.ref (g c))
  kp : PySem.W.keepIn K (.ref (g c)) = true
  db : (c == ("__debug__" : Str)) = false
  sub : PySem.W.subIn K (.ref (g c)) (.type "BaseException") = some true
  ty : PySem.W.typeIn K (.ref (g c)) = some (.type "type")
  nd : ns.Nodup
  nul : ns = [] → PySem.W.excIn K (g c) [.type "ValueError", .type "Exception", .type "BaseException", .type "object"] "ValueError.__new__" = true
  own : ns ≠ [] → OexC K (g c) ∧ XfC K (g c) ∧ (∀ n ∈ ns, PySem.W.findIn K (.ref (g c)) n = some none) ∧ ∃ fI fd ps j, PySem.W.findIn K (.ref (g c)) "__init__" = some (some (.ref fI)) ∧ PySem.W.typeIn K (.ref fI) = some (.type "function") ∧ j + 1 ≤ k ∧
    FnOk P w K mg base (CX P w) j fI fd ps (iniSp (g c) ns) ∧ Binds K fd ps []
structure GOk (G : Gb) (g : Str → Addr) (k : Nat) (P : Program) (w : World) (K : PySem.W.Frag) (mg : Str → Option Value) (base : Heap) : Prop where
  fn : ∀ (x : String) (F : FSp), G.fns x = some F → ∃ f fd ps, mg (Str.ofString x) = some (.ref f) ∧ PySem.W.keepIn K (.ref f) = true ∧ Binds K fd ps [] ∧ FnOk P w K mg base (CX P w) k f fd ps (spOf K g G F) ∧ (Str.ofString x == ("__debug__" : Str)) = false
  fre : ∀ x ∈ bnames, mg (Str.ofString x) = none
  exc : ∀ (c : String) (ns : List Str), G.excs c = some ns → ExF g k P w K mg base (Str.ofString c) ns
  exm : ∀ (c c' : String) (b : Bool), G.exm c c' = some b → PySem.W.exmOne K (.ref (g (Str.ofString c))) (.ref (g (Str.ofString c'))) = some b
  mth : ∀ (c m : String) (F : FSp), G.mth c m = some F → Cls K (g (Str.ofString c)) ∧ ∃ f fd ps, Meth K (g (Str.ofString c)) (Str.ofString m) f ∧ Binds K fd ps [] ∧ FnOk P w K mg base (CX P w) k f fd ps (spOf K g G F)
  mkc : ∀ (c : String), (G.mth c "__init__").isSome = true → mg (Str.ofString c) = some (.ref (g (Str.ofString c))) ∧ PySem.W.makesIn K (g (Str.ofString c)) = true ∧ PySem.W.keepIn K (.ref (g (Str.ofString c))) = true ∧ (Str.ofString c == ("__debug__" : Str)) = false ∧
    ∀ F, G.mth c "__init__" = some F → ∃ f fd ps j, j + 1 ≤ k ∧ Meth K (g (Str.ofString c)) (Str.ofString "__init__") f ∧ Binds K fd ps [] ∧ FnOk P w K mg base (CX P w) j f fd ps (spOf K g G F)
  fok : ∀ (c f : Str), G.fok c f = true → Cls K (g c) ∧ NoAttr K (g c) f
  cint : ∀ (x : String) (n : Int), G.cints x = some n → (∃ t, mg (Str.ofString x) = some (.int n t)) ∧ (Str.ofString x == ("__debug__" : Str)) = false
structure Ct (G : Gb) (g : Str → Addr) (k : Nat) (sc : Scope) (N : List Str) (W : WX) (X : Cx) : Prop where
  hN : X.N = N
  nd : N.Nodup
  sc : X.env.scope = sc
  room : X.calm = true → Room k X.A
  hu : X.A.units + 66 < cLine
  tk : Takes X W
  ok : GOk G g k X.prog X.w X.K X.mg X.base

/-! ### which text -/
def nst : Expr → Bool
  | .Starred _ _ => false
  | _ => true
def nsl : Expr → Bool
  | .Slice _ _ _ _ => false
  | _ => true
/-- no call of super -/
def nab : Expr → Bool
  | .Call _ _ _ _ => false
  | _ => true
def nset : Expr → Bool
  | .Set _ _ _ => false
  | _ => true
theorem star_of {e : Expr} {es : List Expr} {env : Env} (h : nst e = true) : starEach (e :: es) env = (false, eval e env) :: starEach es env := by
  cases e <;> first | rfl | cases h
theorem plainIx_of {e : Expr} (h : nsl e = true) : PlainIx e := by
  intro o i
  cases e <;> first | rfl | cases h
theorem folded_of {e : Expr} {env : Env} (h : nset e = true) (x : Value) : foldedSetIterable e env x = pure x := by
  cases e <;> first | rfl | cases h
theorem mark_of {op : CmpOp} {e : Expr} (h : nset e = true) : behindInMarks op e = false := by
  cases e <;> first | rfl | cases h
theorem stars_of {pos : Pos} {env : Env} : ∀ {es : List Expr}, es.all nst = true → (backTo pos (starEach es env)).any (·.1) = false
  | [], _ => rfl
  | e :: es, h => by
    rw [List.all_cons, Bool.and_eq_true] at h
    rw [star_of h.1]
    show ((false : Bool) || (backTo pos (starEach es env)).any (·.1)) = false
    rw [Bool.false_or]
    exact stars_of h.2
def gl (sc : Scope) (x : Str) : Bool := decide (sc.names.lookup x = some .globalImplicit)
def vis (sc : Scope) (x : Str) : Bool := decide (sc.names.lookup x = some .local) || (decide (sc.names.lookup x = some .cell) || decide (sc.names.lookup x = some .free))
def loc (sc : Scope) (x : Str) : Bool := decide (sc.names.lookup x = some .local) || decide (sc.names.lookup x = some .cell)
def bfN : Bf → String
  | .len => "len"
  | .int1 => "int"
  | .abs => "abs"
  | .min2 => "min"
  | .max2 => "max"
  | .sum => "sum"
  | .maxL => "max"
  | .minL => "min"
  | .sorted => "sorted"
  | .sortD => "sorted"
  | .list1 => "list"
  | .tuple1 => "tuple"
  | .all1 => "all"
  | .any1 => "any"
def mmN : Mm → String
  | .append => "append"
  | .pop0 => "pop"
  | .pop1 => "pop"
  | .reverse => "reverse"
  | .extend => "extend"
  | .insert => "insert"
  | .remove => "remove"
def isBop : E → Bool
  | .bop _ _ => true
  | _ => false
/-- the classes of isinstance -/
def chkTs (sc : Scope) : List String → Expr → Bool
  | [t], .Name x _ => decide (x = Str.ofString t) && (gl sc x && ["int", "bool", "str", "list", "tuple"].contains t)
  | _, _ => false
def chkTl (sc : Scope) : List String → List Expr → Bool
  | [], [] => true
  | t :: ts, .Name x _ :: es => (decide (x = Str.ofString t) && (gl sc x && ["int", "bool", "str", "list", "tuple"].contains t)) && chkTl sc ts es
  | _, _ => false
def slotIs (N : List Str) (i : Nat) (x : Str) : Bool := decide (N[i]? = some x)
def chkTg (N : List Str) (names : List (Str × NameKind)) : List Nat → List Expr → Bool
  | [], [] => true
  | i :: is, .Name x _ :: es => (slotIs N i x && (decide (names.lookup x = some .local) || decide (names.lookup x = some .cell))) && chkTg N names is es
  | _, _ => false
def chkTgt (N : List Str) (names : List (Str × NameKind)) : List Nat → Expr → Bool
  | [i], .Name x _ => slotIs N i x && (decide (names.lookup x = some .local) || decide (names.lookup x = some .cell))
  | i :: j :: is, .Tuple es _ _ => chkTg N names (i :: j :: is) es
  | _, _ => false
def ownOf (N : List Str) (tg : List Nat) : List (Str × Nat) := tg.map fun i => ((N[i]?).getD Str.empty, i)
section
variable (N : List Str) (calm : Bool) (fl : List String)
mutual
def chkE : E → Scope → Expr → Bool
  | .var i, sc, .Name x _ => slotIs N i x && (vis sc x && (!(x == ("__debug__" : Str)) && !(x == ("__classdict__" : Str))))
  | .fv i, sc, .Name x _ => slotIs N i x && (vis sc x && (!(x == ("__debug__" : Str)) && !(x == ("__classdict__" : Str))))
  | .int n, _, .Constant (.int z) _ _ => decide (n = z)
  | .bl b, _, .Constant (.bool z) _ _ => b == z
  | .non, _, .Constant .none _ _ => true
  | .str x, _, .Constant (.str z) _ _ => decide (z = Str.ofString x)
  | .gint x _, sc, .Name y _ => decide (y = Str.ofString x) && gl sc y
  | .bin op a b, sc, .BinOp l o r _ => decide (op = o) && (chkE a sc l && chkE b sc r)
  | .neg a, sc, .UnaryOp .USub x _ => chkE a sc x
  | .cmp op a b, sc, .Compare l [o] [r] _ => decide (op = o) && (nset r && (chkE a sc l && chkE b sc r))
  | .bop c es, sc, .BoolOp op vs _ => (match op with
    | .And => c
    | .Or => !c) && chkEs es sc vs
  | .nt a, sc, .UnaryOp .Not x _ => chkE a sc x
  | .ite c a b, sc, .IfExp t x y _ => chkE c sc t && (chkE a sc x && chkE b sc y)
  | .tup es, sc, .Tuple xs _ _ => decide (esLen es ≤ 1000) && chkEs es sc xs
  | .lst es, sc, .List xs _ => decide (esLen es ≤ 1000) && chkEs es sc xs
  | .idx a b, sc, .Subscript x y _ => nsl y && (chkE a sc x && chkE b sc y)
  | .slc a lo hi, sc, .Subscript x (.Slice l h none _) _ => chkE a sc x && (chkO lo sc l && chkO hi sc h)
  | .call f es, sc, .Call (.Name x _) args [] _ => calm && (fl.contains f && (decide (x = Str.ofString f) && (gl sc x && chkEs es sc args)))
  | .blt f es, sc, .Call (.Name x _) (a :: args) [] _ => (calm || decide (f = .len)) && (decide (x = Str.ofString (bfN f)) && (gl sc x && chkEs es sc (a :: args)))
  | .isi a ts, sc, .Call (.Name x _) [e, t] [] _ => decide (x = Str.ofString "isinstance") && (gl sc x && (nst e && (nst t && (chkE a sc e && (match t with
    | .Tuple es _ _ => decide (es.length ≤ 1000) && chkTl sc ts es
    | t => chkTs sc ts t)))))
  | .lrg es, sc, .Call (.Name x _) [.Call (.Name y _) args [] _] [] _ => calm && (decide (x = Str.ofString "list") && (decide (y = Str.ofString "range") && (gl sc x && (gl sc y && ((args.length == 1 || args.length == 2) && chkEs es sc args)))))
  | .lset a, sc, .Call (.Name x _) [.Call (.Name y _) [e] [] _] [] _ => calm && (decide (x = Str.ofString "len") && (decide (y = Str.ofString "set") && (gl sc x && (gl sc y && (nst e && chkE a sc e)))))
  | .fld a f, sc, .Attribute e fn _ => nab e && (decide (fn = Str.ofString f) && chkE a sc e)
  | .meth c m a es, sc, .Call (.Attribute e mn ap) args [] cp => calm && (nab e && (decide (mn = Str.ofString m) && ((ap.endLine == cp.line) && (chkE a sc e && (decide (args.length < 9) && chkEs es sc args)))))
  | .new c es, sc, .Call (.Name x _) (a :: args) [] _ => calm && (decide (x = Str.ofString c) && (gl sc x && chkEs es sc (a :: args)))
  | .mut m i es, sc, .Call (.Attribute (.Name x _) f ap) args [] cp => slotIs N i x && (vis sc x && (!(x == ("__debug__" : Str)) && (!(x == ("__classdict__" : Str)) && (decide (f = Str.ofString (mmN m)) && ((ap.endLine == cp.line) && (chkEs es sc args && decide (args.length < 9)))))))
  | .lc tg src cs elt, sc, .ListComp el [⟨t, it, ifs, a⟩] scope _ => calm && (decide (a = 0) && (blkC N sc scope (ownOf N tg) && (chkTgt N scope.names tg t && (nset it && (chkS src sc it && (chkEs cs (relS scope sc) ifs && (decide (ifs.length ≤ 1) && chkE elt (relS scope sc) el)))))))
  | _, _, _ => false
def chkEs : Es → Scope → List Expr → Bool
  | .nil, _, [] => true
  | .cons e es, sc, x :: xs => (nst x && chkE e sc x) && chkEs es sc xs
  | _, _, _ => false
def chkO : Ox → Scope → Option Expr → Bool
  | .no, _, none => true
  | .so e, sc, some x => chkE e sc x
  | _, _, _ => false
def chkS : Src → Scope → Expr → Bool
  | .it e, sc, x => chkE e sc x
  | .rng es, sc, .Call (.Name x _) args [] _ => decide (x = Str.ofString "range") && (gl sc x && ((args.length == 1 || args.length == 2) && chkEs es sc args))
  | .rdn es, sc, .Call (.Name x _) args [] _ => decide (x = Str.ofString "range") && (gl sc x && (args.length == 3 && chkEs es sc args))
  | .rev e, sc, .Call (.Name x _) [a] [] _ => decide (x = Str.ofString "reversed") && (gl sc x && (nst a && chkE e sc a))
  | _, _, _ => false
end
end

/-! ### what a term asks -/
section
variable (K : PySem.W.Frag) (g : Str → Addr) (G : Gb) (W : WX)
def tE (m : E) : TE := fun σ H Q => ∃ B en rs vs X Q0, ST K g B en rs σ vs H ∧ XL K g G B W X ∧ ev G m en Q0 X ∧ ∀ d en' v H', Q0 d en' → ST K g B en' (.v d :: rs) σ (v :: vs) H' → Q v H'
def tR (m : E) : TE := fun σ H Q => ∃ B en rs vs X Q0, ST K g B en rs σ vs H ∧ XL K g G B W X ∧ asR m (ev G m) en Q0 X ∧ ∀ r en' v H', Q0 r en' → ST K g B en' (r :: rs) σ (v :: vs) H' → Q v H'
def tT (m : E) : TT := fun σ H Q => ∃ B en rs vs X, ∃ Q0 : Bool → En → Prop, ST K g B en rs σ vs H ∧ XL K g G B W X ∧ ev G m en (fun d e => ∃ b, d = .bl b ∧ Q0 b e) X ∧ ∀ b en' H', Q0 b en' → ST K g B en' rs σ vs H' → Q b H'
def tA (ms : Es) : TA := fun σ H Q => ∃ B en rs vs X Q0, ST K g B en rs σ vs H ∧ XL K g G B W X ∧ evr G ms en Q0 X ∧ ∀ xs en' us H', Q0 xs en' → xs.length = us.length → ST K g B en' (xs ++ rs) σ (us ++ vs) H' → Q us H'
def tV (ms : Es) : TA := fun σ H Q => ∃ B en rs vs X Q0, ST K g B en rs σ vs H ∧ XL K g G B W X ∧ evs G ms en Q0 X ∧ ∀ ds en' us H', Q0 ds en' → ds.length = us.length → ds.length = esLen ms → ST K g B en' (ds.map R.v ++ rs) σ (us ++ vs) H' → Q us H'
def tO (m : Ox) : L2.TO := fun σ H Q => ∃ B en rs vs X Q0, ST K g B en rs σ vs H ∧ XL K g G B W X ∧ evO G m en Q0 X ∧ ∀ o en' H', Q0 o en' → ST K g B en' rs σ vs H' → Q o H'
end
theorem _root_.L2.PE.im {X : Cx} {e : Expr} {t t' : TE} (h : PE X e t) (i : ∀ σ H Q, t' σ H Q → t σ H Q) : PE X e t' := ⟨fun pins s σ H Q I q => h.run pins s σ H Q I (i _ _ _ q)⟩
theorem _root_.L2.PT.im {X : Cx} {e : Expr} {t t' : TT} (h : PT X e t) (i : ∀ σ H Q, t' σ H Q → t σ H Q) : PT X e t' := ⟨fun pins s σ H Q I q => h.run pins s σ H Q I (i _ _ _ q)⟩
theorem _root_.L2.PA.im {X : Cx} {e : List Expr} {t t' : TA} (h : PA X e t) (i : ∀ σ H Q, t' σ H Q → t σ H Q) : PA X e t' := ⟨fun pos pins s σ H Q I q => h.run pos pins s σ H Q I (i _ _ _ q)⟩
theorem _root_.L2.PW.im {X : Cx} {e : Expr} {t t' : TT} (h : PW X e t) (i : ∀ σ H Q, t' σ H Q → t σ H Q) : PW X e t' := ⟨fun wh pins s σ H Q I q => h.run wh pins s σ H Q I (i _ _ _ q)⟩
theorem _root_.L2.PO.im {X : Cx} {e : Option Expr} {t t' : TO} (h : PO X e t) (i : ∀ σ H Q, t' σ H Q → t σ H Q) : PO X e t' := ⟨fun pins s σ H Q I q => h.run pins s σ H Q I (i _ _ _ q)⟩

/-! ### operators keep their word -/
section
variable {K : PySem.W.Frag} {g : Str → Addr} {B : Bs} {en : En} {rs : List R} {σ : Sg} {vs : List V} {H : Hp} {Q : VK}
theorem RepT.hd {Z : AS} {r : R} {d : D} {v : V} {O1 O2 : AS} (e : RepE K g Z H en σ O1) (t : RepT K g Z H σ (r :: rs) (v :: vs) O2) (hr : rv en r = some d) : ∃ O', Rep K g Z H d v O' := by
  cases t with
  | v a1 a2 r t => cases hr; exact ⟨_, r⟩
  | s ev t =>
    obtain ⟨v', A, C, ev', r, _⟩ := e.split (join_some (show (en[_]?).join = some d from hr))
    rw [ev] at ev'
    cases ev'
    exact ⟨_, r⟩
theorem RepT.tl {Z : AS} {r : R} {v : V} {O : AS} (t : RepT K g Z H σ (r :: rs) (v :: vs) O) : RepT K g Z H σ rs vs O := by
  cases t with
  | v a1 a2 r t => exact t.up fun b z => (a2 b z).1
  | s ev t => exact t
theorem RepT.addF {Z : AS} {O : AS} {xs : List D} {us : List V} (r : RepL K g Z H xs us AS.no) (t : RepT K g Z H σ rs vs O) : RepT K g Z H σ (xs.map R.v ++ rs) (us ++ vs) O := by
  induction xs generalizing us with
  | nil =>
    cases r
    exact t
  | cons x xs ih =>
    cases r with
    | cons b1 b2 r r' => exact .v (O1 := AS.no) (fun _ z => z.elim) (fun _ z => ⟨z, id⟩) (r.up b1) (ih (r'.up fun b z => (b2 b z).1))
/-- where the parts of a list or tuple stand -/
def Seq (K : PySem.W.Frag) (H : Hp) (d : D) (a : Addr) (us : List V) : Prop := (isLst d = true ∧ Rd H a (.lst us)) ∨ (isLst d = false ∧ SqT K H a us)
theorem Rep.seq {Z O : AS} {d : D} {v : V} {xs : List D} (r : Rep K g Z H d v O) (hx : itms d = some xs) : ∃ a us O', v = .ref a ∧ xs.length = us.length ∧ Seq K H d a us ∧ RepL K g Z H xs us O' := by
  cases r with
  | tup e r => cases hx; exact ⟨_, _, _, rfl, r.length, .inr ⟨rfl, e⟩, r⟩
  | lstO e oa s r => cases hx; exact ⟨_, _, _, rfl, r.length, .inl ⟨rfl, .inl e⟩, r⟩
  | lstF z e r => cases hx; exact ⟨_, _, _, rfl, r.length, .inl ⟨rfl, e⟩, r⟩
  | _ => cases hx
/-- the parts of what is in flight -/
theorem ST.seq {r : R} {d : D} {v : V} {xs : List D} (h : ST K g B en (r :: rs) σ (v :: vs) H) (hr : rv en r = some d) (hx : itms d = some xs) :
    ∃ a us, v = .ref a ∧ xs.length = us.length ∧ Seq K H d a us ∧ ∃ Z O, RepL K g Z H xs us O := by
  obtain ⟨Z, O, r, _, _⟩ := h.rep hr
  obtain ⟨a, us, O', e1, e2, e3, r'⟩ := r.seq hx
  exact ⟨a, us, e1, e2, e3, Z, O', r'⟩
/-- .. which may stand elsewhere where nothing is owned -/
theorem ST.seqF {r : R} {d : D} {v : V} {xs : List D} (h : ST K g B en (r :: rs) σ (v :: vs) H) (hr : rv en r = some d) (hx : itms d = some xs) (hf : fzs xs = true) :
    ∃ a us, v = .ref a ∧ xs.length = us.length ∧ Seq K H d a us ∧ ST K g B en (xs.map R.v ++ rs) σ (us ++ vs) H ∧ ∀ n : Nat, ST K g B en ((List.replicate n xs).flatten.map R.v ++ rs) σ ((List.replicate n us).flatten ++ vs) H := by
  obtain ⟨⟨Z, O, O1, O2, e, t, s1, s2, q, p⟩, hl⟩ := h
  obtain ⟨O', r⟩ := t.hd e hr
  obtain ⟨a, us, O'', e1, e2, e3, r'⟩ := r.seq hx
  have r0 := r'.none hf
  have many : ∀ n : Nat, RepL K g Z H (List.replicate n xs).flatten (List.replicate n us).flatten AS.no := by
    intro n
    induction n with
    | zero => exact .nil
    | succ n ih =>
      rw [List.replicate_succ, List.replicate_succ, List.flatten_cons, List.flatten_cons]
      exact r0.app ih (fun _ z => z) fun _ z => z.elim
  have hl' : rs.length = vs.length := by simpa using hl
  refine ⟨a, us, e1, e2, e3, ⟨⟨Z, O, O1, O2, e, ?_, s1, s2, q, p⟩, ?_⟩, fun n => ⟨⟨Z, O, O1, O2, e, ?_, s1, s2, q, p⟩, ?_⟩⟩
  · rw [List.append_assoc, List.append_assoc]
    exact RepT.addF r0 t.tl
  · rw [List.length_append, List.length_append, List.length_map, e2, hl']
  · rw [List.append_assoc, List.append_assoc]
    exact RepT.addF (many n) t.tl
  · rw [List.length_append, List.length_append, List.length_map, (many n).length, hl']
/-- .. in any order -/
theorem RepL.perm {K : PySem.W.Frag} {g : Str → Addr} {Z : AS} {H : Hp} {us zs : List V} (p : zs.Perm us) : ∀ {ds : List D}, RepL K g Z H ds us AS.no → ∃ ds', ds'.Perm ds ∧ RepL K g Z H ds' zs AS.no := by
  induction p with
  | nil => exact fun r => ⟨_, List.Perm.refl _, r⟩
  | cons x _ ih =>
    intro ds r
    cases r with
    | cons s1 s2 r t =>
      obtain ⟨ds', p', r'⟩ := ih (t.up fun b z => (s2 b z).1)
      exact ⟨_, p'.cons _, .cons s1 (fun _ z => z.elim) r r'⟩
  | swap x y l =>
    intro ds r
    cases r with
    | cons s1 s2 r t =>
      cases t with
      | cons s3 s4 r2 t =>
        have n1 := r.up (O' := AS.no) (fun b z => (s1 b z))
        have n2 := r2.up (O' := AS.no) (fun b z => (s2 b (s3 b z)).1)
        exact ⟨_, List.Perm.swap _ _ _, .cons (fun _ z => z) (fun _ z => z.elim) n2 (.cons (fun _ z => z) (fun _ z => z.elim) n1 (t.up fun b z => (s2 b (s4 b z).1).1))⟩
  | trans _ _ ih1 ih2 =>
    intro ds r
    obtain ⟨d1, p1, r1⟩ := ih2 r
    obtain ⟨d2, p2, r2⟩ := ih1 r1
    exact ⟨d2, p2.trans p1, r2⟩
theorem ST.seqP {r : R} {d : D} {v : V} {xs : List D} (h : ST K g B en (r :: rs) σ (v :: vs) H) (hr : rv en r = some d) (hx : itms d = some xs) (hf : fzs xs = true) :
    ∃ a us, v = .ref a ∧ xs.length = us.length ∧ Seq K H d a us ∧ (∃ Z, RepL K g Z H xs us AS.no) ∧ ∀ zs : List V, zs.Perm us → ∃ ys : List D, ys.Perm xs ∧ ST K g B en (ys.map R.v ++ rs) σ (zs ++ vs) H := by
  obtain ⟨⟨Z, O, O1, O2, e, t, s1, s2, q, p⟩, hl⟩ := h
  obtain ⟨O', r⟩ := t.hd e hr
  obtain ⟨a, us, O'', e1, e2, e3, r'⟩ := r.seq hx
  have r0 := r'.none hf
  have hl' : rs.length = vs.length := by simpa using hl
  refine ⟨a, us, e1, e2, e3, ⟨Z, r0⟩, fun zs pm => ?_⟩
  obtain ⟨ys, py, ry⟩ := r0.perm pm
  refine ⟨ys, py, ⟨Z, O, O1, O2, e, ?_, s1, s2, q, p⟩, ?_⟩
  · rw [List.append_assoc, List.append_assoc]
    exact RepT.addF ry t.tl
  · rw [List.length_append, List.length_append, List.length_map, ry.length, hl']
theorem ST.seq2 {r1 r2 : R} {d1 d2 : D} {v1 v2 : V} {xs ys : List D} (h : ST K g B en (r2 :: r1 :: rs) σ (v2 :: v1 :: vs) H) (h1 : rv en r1 = some d1) (h2 : rv en r2 = some d2) (x1 : itms d1 = some xs) (x2 : itms d2 = some ys) (f1 : fzs xs = true) (f2 : fzs ys = true) :
    ∃ a us b ws, v1 = .ref a ∧ v2 = .ref b ∧ xs.length = us.length ∧ ys.length = ws.length ∧ Seq K H d1 a us ∧ Seq K H d2 b ws ∧ ST K g B en ((xs ++ ys).map R.v ++ rs) σ ((us ++ ws) ++ vs) H := by
  obtain ⟨⟨Z, O, O1, O2, e, t, s1, s2, q, p⟩, hl⟩ := h
  obtain ⟨O', r⟩ := t.hd e h2
  obtain ⟨b, ws, O'', e1, e2, e3, r'⟩ := r.seq x2
  obtain ⟨U', w⟩ := t.tl.hd e h1
  obtain ⟨a, us, U'', i1, i2, i3, w'⟩ := w.seq x1
  refine ⟨a, us, b, ws, i1, e1, i2, e2, i3, e3, ⟨Z, O, O1, O2, e, ?_, s1, s2, q, p⟩, ?_⟩
  · rw [List.append_assoc, List.append_assoc]
    exact RepT.addF ((w'.none f1).app (r'.none f2) (fun _ z => z) fun _ z => z.elim) t.tl.tl
  · simp only [List.length_append, List.length_map, List.length_cons] at hl ⊢
    omega
/-- what is in flight as the name's stands for itself -/
theorem ST.self {r : R} {d : D} {v : V} (h : ST K g B en (r :: rs) σ (v :: vs) H) (hr : rv en r = some d) (hf : fz d = true) : ST K g B en (.v d :: rs) σ (v :: vs) H := by
  obtain ⟨⟨Z, O, O1, O2, e, t, s1, s2, q, p⟩, hl⟩ := h
  obtain ⟨O', r⟩ := t.hd e hr
  exact ⟨⟨Z, O, O1, O2, e, .v (O1 := AS.no) (fun _ z => z.elim) (fun _ z => ⟨z, id⟩) (r.none hf) t.tl, s1, s2, q, p⟩, hl⟩
theorem sizeL {n : Nat} (h : n ≤ 16777216) : n ≤ sizeLine := by rw [sizeLine_eq]; exact h
theorem ST.rep2 {r1 r2 : R} {d1 d2 : D} {v1 v2 : V} (h : ST K g B en (r2 :: r1 :: rs) σ (v2 :: v1 :: vs) H) (h1 : rv en r1 = some d1) (h2 : rv en r2 = some d2) : ∃ Z O Z' O', Rep K g Z H d1 v1 O ∧ Rep K g Z' H d2 v2 O' := by
  obtain ⟨Z', O', q2, _⟩ := h.rep h2
  obtain ⟨Z, O, q1, _⟩ := h.drop.rep h1
  exact ⟨Z, O, Z', O', q1, q2⟩
theorem bin_sat {op : Operator} {r1 r2 : R} {d1 d2 : D} {v1 v2 : V} {k : D → Prop} (h : ST K g B en (r2 :: r1 :: rs) σ (v2 :: v1 :: vs) H) (h1 : rv en r1 = some d1) (h2 : rv en r2 = some d2) (hw : bopW op d1 d2 k)
    (hq : ∀ d v H', k d → ST K g B en (.v d :: rs) σ (v :: vs) H' → Q v H') : rBin K op v1 v2 H Q := by
  obtain ⟨Z, O, Z', O', q1, q2⟩ := h.rep2 h1 h2
  have flat : ∀ {d : D} {v : V}, k d → (∀ Z, Rep K g Z H d v AS.no) → Q v H := fun hk hr => hq _ _ _ hk (h.drop.drop.flat hr)
  cases op with
  | Add =>
    have hw' : addW d1 d2 k := hw
    unfold addW at hw'
    split at hw'
    · cases q1
      cases q2
      exact .inl (.inl (.inl ⟨_, _, rfl, rfl, flat hw' fun _ => .int _⟩))
    · cases q1
      cases q2
      exact .inl (.inl (.inr ⟨_, _, rfl, rfl, sizeL hw'.1, flat hw'.2 fun _ => .str _⟩))
    · obtain ⟨⟨f1, f2, hz⟩, hk⟩ := hw'
      obtain ⟨a, us, b, ws, rfl, rfl, l1, l2, e1, e2, s⟩ := h.seq2 h1 h2 rfl rfl f1 f2
      refine .inl (.inr ⟨a, b, us, ws, rfl, rfl, e1.elim (fun z => z.2) (fun z => nomatch z.1), e2.elim (fun z => z.2) (fun z => nomatch z.1), sizeL (by omega), fun p hp => hq _ _ _ hk (s.lst (by simp only [List.length_append]; omega) hp)⟩)
    · obtain ⟨⟨f1, f2, hz⟩, hk⟩ := hw'
      obtain ⟨a, us, b, ws, rfl, rfl, l1, l2, e1, e2, s⟩ := h.seq2 h1 h2 rfl rfl f1 f2
      refine .inr ⟨a, b, us, ws, rfl, rfl, e1.elim (fun z => nomatch z.1) fun z => z.2, e2.elim (fun z => nomatch z.1) fun z => z.2, sizeL (by omega), fun z => ?_, fun z z' => ?_, fun z z' p hp => hq _ _ _ hk (s.tup (by simp only [List.length_append]; omega) hp)⟩
      · subst z
        cases List.eq_nil_of_length_eq_zero l1
        exact hq _ _ _ hk (h.swap.drop.self h2 f2)
      · subst z'
        cases List.eq_nil_of_length_eq_zero l2
        rw [List.append_nil] at hk
        exact hq _ _ _ hk (h.drop.self h1 f1)
    · exact hw'.elim
  | Sub =>
    have hw' : subW d1 d2 k := hw
    unfold subW at hw'
    split at hw'
    · cases q1
      cases q2
      exact ⟨_, _, rfl, rfl, flat hw' fun _ => .int _⟩
    · exact hw'.elim
  | Mult =>
    have hw' : mulW d1 d2 k := hw
    unfold mulW at hw'
    split at hw'
    · cases q1
      cases q2
      obtain ⟨c, hk⟩ := hw'
      rcases c with c | c | c
      · exact .inl (.inl ⟨_, _, rfl, rfl, .inl c, flat hk fun _ => .int _⟩)
      · exact .inl (.inl ⟨_, _, rfl, rfl, .inr c, flat hk fun _ => .int _⟩)
      · exact .inl (.inr ⟨_, _, rfl, rfl, c, flat hk fun _ => .int _⟩)
    · obtain ⟨⟨f1, c1, c2, c3⟩, hk⟩ := hw'
      cases q2
      obtain ⟨a, us, rfl, l1, e1, s, sn⟩ := h.drop.seqF h1 rfl f1
      have e1' := e1.elim (fun z => z.2) (fun z => nomatch z.1)
      refine .inr ⟨a, _, us, rfl, rfl, e1', c1, c2, sizeL (by rw [← l1]; exact c3), fun p hp => hq _ _ _ hk ((sn _).lst ?_ hp)⟩
      simp only [List.length_flatten, List.map_replicate, List.sum_replicate_nat, l1]
    · exact hw'.elim
  | FloorDiv =>
    have hw' : fdivW d1 d2 k := hw
    unfold fdivW at hw'
    split at hw'
    · cases q1
      cases q2
      exact ⟨_, _, rfl, rfl, hw'.1, flat hw'.2 fun _ => .int _⟩
    · exact hw'.elim
  | Mod =>
    have hw' : modW d1 d2 k := hw
    unfold modW at hw'
    split at hw'
    · cases q1
      cases q2
      exact ⟨_, _, rfl, rfl, hw'.1, flat hw'.2 fun _ => .int _⟩
    · exact hw'.elim
  | Pow =>
    have hw' : powW d1 d2 k := hw
    unfold powW at hw'
    split at hw'
    · cases q1
      cases q2
      exact ⟨_, _, rfl, rfl, hw'.1, flat hw'.2 fun _ => .int _⟩
    · exact hw'.elim
  | _ => exact (show False from hw).elim
end
end Pf

/-! Comparisons, built-ins. -/
namespace Pf
open PySem PySem.Spec PyProof.Rows L2
section
variable {K : PySem.W.Frag} {g : Str → Addr} {Z : AS} {H : Hp}
mutual
theorem Rep.dp : ∀ {d : D} {v : V} {O : AS} {n : Nat}, Rep K g Z H d v O → dat n d = true → Dp K H v (toP d)
  | _, _, _, _, .non, _ => .non
  | _, _, _, _, .bl b, _ => .bl b
  | _, _, _, _, .int i, _ => .int i
  | _, _, _, _, .str x, _ => .str x
  | _, _, _, 0, .tup e r, h => by simp [dat] at h
  | _, _, _, 0, .lstO e oa s r, h => by simp [dat] at h
  | _, _, _, 0, .lstF z e r, h => by simp [dat] at h
  | _, _, _, n + 1, .tup e r, h => .tup e (RepL.dp (n := n) r (by simpa [dat] using h))
  | _, _, _, n + 1, .lstO e oa s r, h => .lst (.inl (.inl e)) (RepL.dp (n := n) r (by simpa [dat] using h))
  | _, _, _, n + 1, .lstF z e r, h => .lst (.inl e) (RepL.dp (n := n) r (by simpa [dat] using h))
  | _, _, _, n, .insO e hl oa s r, h => by cases n <;> simp [dat] at h
  | _, _, _, n, .insF z e hl r, h => by cases n <;> simp [dat] at h
  | _, _, _, n, .cls c, h => by cases n <;> simp [dat] at h
theorem RepL.dp : ∀ {ds : List D} {vs : List V} {O : AS} {n : Nat}, RepL K g Z H ds vs O → dats n ds = true → DpAll K H vs (toPs ds)
  | _, _, _, _, .nil, _ => .nil
  | _, _, _, n, .cons s1 s2 r t, h => by
    rw [dats, Bool.and_eq_true] at h
    exact .cons (Rep.dp r h.1) (RepL.dp t h.2)
end
end
mutual
theorem shp_of : ∀ (d : D) (n : Nat), dat n d = true → (toP d).canLay0 = true ∧ (toP d).depth ≤ n
  | .non, _, _ => ⟨by rw [toP, PyData.canLay0], by rw [toP, PyData.depth]; exact Nat.zero_le _⟩
  | .bl _, _, _ => ⟨by rw [toP, PyData.canLay0], by rw [toP, PyData.depth]; exact Nat.zero_le _⟩
  | .int _, _, _ => ⟨by rw [toP, PyData.canLay0], by rw [toP, PyData.depth]; exact Nat.zero_le _⟩
  | .str x, n, h => ⟨by rw [toP, PyData.canLay0]; cases n <;> simpa [dat] using h, by rw [toP, PyData.depth]; exact Nat.zero_le _⟩
  | .tup xs, 0, h => by simp [dat] at h
  | .lst _ xs, 0, h => by simp [dat] at h
  | .tup xs, n + 1, h => by
    have z := shps_of xs n (by simpa [dat] using h)
    rw [toP, PyData.canLay0, PyData.depth]
    exact ⟨z.1, by omega⟩
  | .lst _ xs, n + 1, h => by
    have z := shps_of xs n (by simpa [dat] using h)
    rw [toP, PyData.canLay0, PyData.depth]
    exact ⟨z.1, by omega⟩
  | .ins _ _ _ _, n, h => by cases n <;> simp [dat] at h
  | .cls _, n, h => by cases n <;> simp [dat] at h
theorem shps_of : ∀ (ds : List D) (n : Nat), dats n ds = true → PyData.canLayAll0 (toPs ds) = true ∧ PyData.depthAll (toPs ds) ≤ n
  | [], _, _ => ⟨by rw [toPs, PyData.canLayAll0], by rw [toPs, PyData.depthAll]; exact Nat.zero_le _⟩
  | d :: ds, n, h => by
    rw [dats, Bool.and_eq_true] at h
    have z := shp_of d n h.1
    have z' := shps_of ds n h.2
    rw [toPs, PyData.canLayAll0, PyData.depthAll, z.1, z'.1]
    exact ⟨rfl, by omega⟩
end
mutual
theorem eqv_of : ∀ (d e : D) (n m : Nat), dat n d = true → dat m e = true → PyData.eqv (toP d) (toP e) = deq d e
  | d, e, n, m, h, h' => by
    cases d with
    | tup xs =>
      cases e with
      | tup ys =>
        cases n with
        | zero => simp [dat] at h
        | succ n =>
          cases m with
          | zero => simp [dat] at h'
          | succ m =>
            rw [toP, toP, PyData.eqv, deq]
            exact eqvs_of xs ys n m (by simpa [dat] using h) (by simpa [dat] using h')
      | ins _ _ _ _ => cases m <;> simp [dat] at h'
      | _ => simp [toP, PyData.eqv, deq]
    | lst o xs =>
      cases e with
      | lst o' ys =>
        cases n with
        | zero => simp [dat] at h
        | succ n =>
          cases m with
          | zero => simp [dat] at h'
          | succ m =>
            rw [toP, toP, PyData.eqv, deq]
            exact eqvs_of xs ys n m (by simpa [dat] using h) (by simpa [dat] using h')
      | ins _ _ _ _ => cases m <;> simp [dat] at h'
      | _ => simp [toP, PyData.eqv, deq]
    | ins _ _ _ _ => cases n <;> simp [dat] at h
    | cls _ => cases n <;> simp [dat] at h
    | _ =>
      cases e with
      | ins _ _ _ _ => cases m <;> simp [dat] at h'
      | cls _ => cases m <;> simp [dat] at h'
      | _ => simp [toP, PyData.eqv, deq]
theorem eqvs_of : ∀ (ds es : List D) (n m : Nat), dats n ds = true → dats m es = true → PyData.eqvAll (toPs ds) (toPs es) = deqs ds es
  | [], [], _, _, _, _ => by simp [toPs, PyData.eqvAll, deqs]
  | [], _ :: _, _, _, _, _ => by simp [toPs, PyData.eqvAll, deqs]
  | _ :: _, [], _, _, _, _ => by simp [toPs, PyData.eqvAll, deqs]
  | d :: ds, e :: es, n, m, h, h' => by
    rw [dats, Bool.and_eq_true] at h h'
    rw [toPs, toPs, PyData.eqvAll, deqs, eqv_of d e n m h.1 h'.1, eqvs_of ds es n m h.2 h'.2]
end
section
variable {K : PySem.W.Frag} {g : Str → Addr} {B : Bs} {en : En} {rs : List R} {σ : Sg} {vs : List V} {H : Hp} {Q : VK} {Z O : AS}
theorem ST.dropL {xs : List R} {us : List V} (h : ST K g B en (xs ++ rs) σ (us ++ vs) H) (hl : xs.length = us.length) : ST K g B en rs σ vs H := by
  induction xs generalizing us with
  | nil =>
    cases us with
    | nil => exact h
    | cons _ _ => cases hl
  | cons x xs ih =>
    cases us with
    | nil => cases hl
    | cons u us => exact ih (ST.drop h) (by simpa using hl)
theorem Rep.flat {d : D} {v : V} (r : Rep K g Z H d v O) (h : flat d = true) : flatV v = true := by
  cases r <;> first | rfl | cases h
theorem Rep.eqV {d e : D} {v u : V} {Z' O' : AS} (r : Rep K g Z H d v O) (r' : Rep K g Z' H e u O') (h : Pf.flat d = true) (h' : Pf.flat e = true) : eqV v u = deq d e := by
  cases r <;> first | (cases h; done) | (cases r' <;> first | (cases h'; done) | simp [L2.eqV, deq])
theorem RepL.any {ds : List D} {us : List V} {e : D} {u : V} {Z' O' : AS} (r : RepL K g Z H ds us O) (r' : Rep K g Z' H e u O') (h : ds.all Pf.flat = true) (h' : Pf.flat e = true) : us.all flatV = true ∧ (us.any fun y => L2.eqV y u) = ds.any fun y => deq y e := by
  induction ds generalizing us O with
  | nil => cases r; exact ⟨rfl, rfl⟩
  | cons d ds ih =>
    rw [List.all_cons, Bool.and_eq_true] at h
    cases r with
    | cons s1 s2 r t =>
      obtain ⟨i1, i2⟩ := ih t h.2
      refine ⟨?_, ?_⟩
      · rw [List.all_cons, i1, Rep.flat r h.1]; rfl
      · rw [List.any_cons, List.any_cons, i2, Rep.eqV r r' h.1 h']
theorem cmp_sat {op : CmpOp} {r1 r2 : R} {d1 d2 : D} {v1 v2 : V} {k : D → Prop} (h : ST K g B en (r2 :: r1 :: rs) σ (v2 :: v1 :: vs) H) (h1 : rv en r1 = some d1) (h2 : rv en r2 = some d2) (hw : cmpW op d1 d2 k)
    (hq : ∀ b : Bool, k (.bl b) → Q (.bl b) H) : rCmp K op v1 v2 H Q := by
  obtain ⟨Z, O, Z', O', q1, q2⟩ := h.rep2 h1 h2
  have hint : ∀ {p : Int → Int → Bool}, intW p d1 d2 k → (rI0 fun i j => .bl (p i j)) v1 v2 H Q := fun {p} hw => by
    unfold intW at hw
    split at hw
    · cases q1
      cases q2
      exact ⟨_, _, rfl, rfl, hq _ hw⟩
    · exact hw.elim
  have heq : ∀ {n : Bool}, eqW n d1 d2 k → ∃ d e, Dp K H v1 d ∧ Dp K H v2 e ∧ SeqAt.shaped d = true ∧ SeqAt.shaped e = true ∧ Q (.bl (n ^^ PyData.eqv d e)) H := fun {n} hw => by
    obtain ⟨⟨a, b⟩, hk⟩ := hw
    have sh : ∀ {d : D}, dat 60 d = true → SeqAt.shaped (toP d) = true := fun {d} h => by
      obtain ⟨x, y⟩ := shp_of d 60 h
      unfold SeqAt.shaped
      rw [x, Bool.true_and]
      exact decide_eq_true (by omega)
    refine ⟨_, _, q1.dp a, q2.dp b, sh a, sh b, ?_⟩
    rw [eqv_of d1 d2 60 60 a b]
    exact hq _ hk
  have hin : ∀ {n : Bool}, inW n d1 d2 k → rIn K n v1 v2 H Q := fun {n} hw => by
    unfold inW at hw
    split at hw
    · rename_i xs hx
      obtain ⟨⟨f1, f2⟩, hk⟩ := hw
      obtain ⟨a, us, O'', rfl, l1, e1, r'⟩ := q2.seq hx
      obtain ⟨i1, i2⟩ := r'.any q1 f2 f1
      refine ⟨a, us, rfl, ?_, q1.flat f1, i1, ?_⟩
      · exact e1.elim (fun z => .inl (.inl z.2)) fun z => .inr z.2
      · have e : (if n = true then !inV v1 us else inV v1 us) = (n ^^ xs.any fun y => deq y d1) := by
          unfold inV
          rw [i2]
          cases n <;> simp
        rw [e]
        exact hq _ hk
    · exact hw.elim
  cases op with
  | Lt => exact hint hw
  | LtE => exact hint hw
  | Gt => exact hint hw
  | GtE => exact hint hw
  | Eq =>
    obtain ⟨d, e, a1, a2, a3, a4, q⟩ := heq (n := false) hw
    rw [Bool.false_xor] at q
    exact ⟨d, e, a1, a2, a3, a4, q⟩
  | NotEq =>
    obtain ⟨d, e, a1, a2, a3, a4, q⟩ := heq (n := true) hw
    rw [Bool.true_xor] at q
    exact ⟨d, e, a1, a2, a3, a4, q⟩
  | In => exact hin hw
  | NotIn => exact hin hw
  | Is =>
    have hw' : isW false d1 d2 k := hw
    unfold isW at hw'
    split at hw'
    · cases q2
      refine .inl ⟨rfl, ?_⟩
      have e : decide (v1 = .non) = isNon d1 := by cases q1 <;> simp [isNon]
      rw [e]
      rw [Bool.false_xor] at hw'
      exact hq _ hw'
    · cases q1
      cases q2
      rw [Bool.false_xor] at hw'
      exact .inr ⟨_, _, rfl, rfl, hq _ hw'⟩
    · exact hw'.elim
  | IsNot =>
    have hw' : isW true d1 d2 k := hw
    unfold isW at hw'
    split at hw'
    · cases q2
      refine .inl ⟨rfl, ?_⟩
      have e : decide (v1 = .non) = isNon d1 := by cases q1 <;> simp [isNon]
      rw [e]
      rw [Bool.true_xor] at hw'
      exact hq _ hw'
    · cases q1
      cases q2
      rw [Bool.true_xor] at hw'
      exact .inr ⟨_, _, rfl, rfl, hq _ hw'⟩
    · exact hw'.elim
theorem sortI_of {ns ns' : List Int} (p : ns'.Perm ns) (s : ns'.Pairwise (· ≤ ·)) : ns' = sortI ns := by
  refine (p.trans (List.mergeSort_perm ns _).symm).eq_of_pairwise (le := fun a b => decide (a ≤ b)) (fun a b _ _ x y => ?_) (s.imp fun h => decide_eq_true h) (List.pairwise_mergeSort (fun a b c x y => ?_) (fun a b => ?_) ns)
  · exact Int.le_antisymm (of_decide_eq_true x) (of_decide_eq_true y)
  · exact decide_eq_true (Int.le_trans (of_decide_eq_true x) (of_decide_eq_true y))
  · rw [Bool.or_eq_true, decide_eq_true_eq, decide_eq_true_eq]
    exact Int.le_total a b
theorem rvs1 {r : R} {ds : List D} (h : rvs en [r] = some ds) : ∃ d, ds = [d] ∧ rv en r = some d := by
  unfold rvs at h
  split at h
  · rename_i d ds' e1 e2
    cases e2
    cases h
    exact ⟨d, rfl, e1⟩
  · cases h
theorem rvs_cons {r : R} {rs' : List R} {ds : List D} (h : rvs en (r :: rs') = some ds) : ∃ d ds', ds = d :: ds' ∧ rv en r = some d ∧ rvs en rs' = some ds' := by
  rw [rvs] at h
  split at h
  · rename_i d ds' e1 e2
    cases h
    exact ⟨d, ds', rfl, e1, e2⟩
  · cases h
theorem rvs_len : ∀ {rs' : List R} {ds : List D}, rvs en rs' = some ds → rs'.length = ds.length
  | [], _, h => by cases h; rfl
  | r :: rs', ds, h => by
    obtain ⟨d, ds', rfl, _, e⟩ := rvs_cons h
    rw [List.length_cons, List.length_cons, rvs_len e]
/-- what one argument asks -/
theorem one_of {xs : List R} {us : List V} {d : D} (h : ST K g B en (xs ++ rs) σ (us ++ vs) H) (hl : xs.length = us.length) (hr : rvs en xs = some [d]) : ∃ r v, xs = [r] ∧ us = [v] ∧ rv en r = some d ∧ ST K g B en (r :: rs) σ (v :: vs) H := by
  have e := rvs_len hr
  match xs, us, e, hl with
  | [r], [v], _, _ =>
    obtain ⟨d', e1, e2⟩ := rvs1 hr
    cases e1
    exact ⟨r, v, rfl, rfl, e2, h⟩
theorem two_of {xs : List R} {us : List V} {d1 d2 : D} (h : ST K g B en (xs ++ rs) σ (us ++ vs) H) (hl : xs.length = us.length) (hr : rvs en xs = some [d1, d2]) : ∃ r1 v1 r2 v2, xs = [r1, r2] ∧ us = [v1, v2] ∧ rv en r1 = some d1 ∧ rv en r2 = some d2 ∧ ST K g B en (r1 :: r2 :: rs) σ (v1 :: v2 :: vs) H := by
  have e := rvs_len hr
  match xs, us, e, hl with
  | [r1, r2], [v1, v2], _, _ =>
    obtain ⟨d, ds, e1, e2, e3⟩ := rvs_cons hr
    obtain ⟨d', e4, e5⟩ := rvs1 e3
    cases e1
    cases e4
    exact ⟨r1, v1, r2, v2, rfl, rfl, e2, e5, h⟩
theorem toPs_map : ∀ ds : List D, toPs ds = ds.map toP
  | [] => rfl
  | d :: ds => by rw [toPs, List.map_cons, toPs_map ds]
theorem dats_mem {n : Nat} : ∀ {ds : List D}, dats n ds = true → ∀ d ∈ ds, dat n d = true
  | d :: ds, h, x, hx => by
    rw [dats, Bool.and_eq_true] at h
    rcases List.mem_cons.mp hx with rfl | hx
    · exact h.1
    · exact dats_mem h.2 x hx
theorem blt_sat {f : Bf} {xs : List R} {us : List V} {ds : List D} {k : D → Prop} (h : ST K g B en (xs ++ rs) σ (us ++ vs) H) (hl : xs.length = us.length) (hr : rvs en xs = some ds) (hw : bltW f ds k)
    (hq : ∀ d v H', k d → ST K g B en (.v d :: rs) σ (v :: vs) H' → Q v H') : rBlt K f us H Q := by
  have flat : ∀ {d : D} {v : V}, k d → (∀ Z, Rep K g Z H d v AS.no) → Q v H := fun hk hr => hq _ _ _ hk ((h.dropL hl).flat hr)
  have hints : ∀ {a : D} {f : List Int → Prop}, rvs en xs = some [a] → intsW a f → ∃ (p : Addr) (ns : List Int), us = [V.ref p] ∧ Seq K H a p (ns.map V.int) ∧ f ns := fun {a f} hr hw => by
    obtain ⟨ns, hx, hf⟩ := hw
    obtain ⟨r, v, rfl, rfl, e, s⟩ := one_of h hl hr
    obtain ⟨p, ws, rfl, l, e1, Z, O, r'⟩ := s.seq e hx
    rw [r'.intsV] at e1
    exact ⟨p, ns, rfl, e1, hf⟩
  have bls : ∀ {a : D} {bs : List Bool}, rvs en xs = some [a] → itms a = some (bs.map .bl) → ∃ (p : Addr), us = [V.ref p] ∧ Seq K H a p (bs.map V.bl) := fun {a bs} hr hx => by
    obtain ⟨r, v, rfl, rfl, e, s⟩ := one_of h hl hr
    obtain ⟨p, ws, rfl, l, e1, Z, O, r'⟩ := s.seq e hx
    rw [r'.blsV] at e1
    exact ⟨p, rfl, e1⟩
  have lstOf : ∀ {a : D} {p : Addr} {ws : List V}, isLst a = true → Seq K H a p ws → SqL K H p ws := fun ha e => e.elim (fun z => .inl z.2) fun z => by rw [ha] at z; cases z.1
  unfold bltW at hw
  split at hw
  · -- len
    rename_i a k
    obtain ⟨r, v, rfl, rfl, e, s⟩ := one_of h hl hr
    obtain ⟨Z, O, q, _⟩ := s.rep e
    unfold lenW at hw
    split at hw
    · obtain ⟨p, ws, rfl, l, e1, _⟩ := s.seq e rfl
      refine ⟨_, ws.length, rfl, .inl ⟨ws, lstOf rfl e1, rfl⟩, ?_⟩
      rw [← l]
      exact flat hw fun _ => .int _
    · obtain ⟨p, ws, rfl, l, e1, _⟩ := s.seq e rfl
      refine ⟨_, ws.length, rfl, .inr ⟨ws, e1.elim (fun z => nomatch z.1) fun z => z.2, rfl⟩, ?_⟩
      rw [← l]
      exact flat hw fun _ => .int _
    · cases q
      exact ⟨_, _, rfl, ⟨sizeL hw.1, rfl⟩, flat hw.2 fun _ => .int _⟩
    · exact hw.elim
  · obtain ⟨r, v, rfl, rfl, e, s⟩ := one_of h hl hr
    obtain ⟨Z, O, q, _⟩ := s.rep e
    cases q
    exact .inl ⟨_, rfl, flat hw fun _ => .int _⟩
  · obtain ⟨r, v, rfl, rfl, e, s⟩ := one_of h hl hr
    obtain ⟨Z, O, q, _⟩ := s.rep e
    cases q
    exact .inr ⟨_, rfl, flat hw fun _ => .int _⟩
  · obtain ⟨r, v, rfl, rfl, e, s⟩ := one_of h hl hr
    obtain ⟨Z, O, q, _⟩ := s.rep e
    cases q
    exact ⟨_, rfl, flat hw fun _ => .int _⟩
  · obtain ⟨r1, v1, r2, v2, rfl, rfl, e1, e2, s⟩ := two_of h hl hr
    obtain ⟨Z, O, Z', O', q2, q1⟩ := s.rep2 e2 e1
    cases q1
    cases q2
    exact ⟨_, _, rfl, flat hw fun _ => .int _⟩
  · obtain ⟨r1, v1, r2, v2, rfl, rfl, e1, e2, s⟩ := two_of h hl hr
    obtain ⟨Z, O, Z', O', q2, q1⟩ := s.rep2 e2 e1
    cases q1
    cases q2
    exact ⟨_, _, rfl, flat hw fun _ => .int _⟩
  · obtain ⟨p, ns, rfl, e1, hf⟩ := hints hr hw
    rcases e1 with ⟨h1, e1⟩ | ⟨_, e1⟩
    · exact .inl ⟨p, ns, rfl, .inl e1, flat hf fun _ => .int _⟩
    · exact .inr ⟨p, ns, rfl, e1, flat hf fun _ => .int _⟩
  · obtain ⟨p, ns, rfl, e1, m, ⟨hm, hy⟩, hf⟩ := hints hr hw.2
    refine ⟨p, ns, rfl, lstOf hw.1 e1, List.length_pos_of_mem hm, fun m' h1 h2 => ?_⟩
    rw [Int.le_antisymm (hy m' h1) (h2 m hm)]
    exact flat hf fun _ => .int _
  · obtain ⟨p, ns, rfl, e1, m, ⟨hm, hy⟩, hf⟩ := hints hr hw.2
    refine ⟨p, ns, rfl, lstOf hw.1 e1, List.length_pos_of_mem hm, fun m' h1 h2 => ?_⟩
    rw [Int.le_antisymm (h2 m hm) (hy m' h1)]
    exact flat hf fun _ => .int _
  · rename_i a k
    obtain ⟨p, ns, rfl, e1, hf⟩ := hints hr hw
    have fin : ∀ (ns' : List Int) (q : Addr), ns'.Perm ns → ns'.Pairwise (· ≤ ·) → H q = none → Q (.ref q) (upd H q (.lst (ns'.map V.int))) := fun ns' q a b hp => by
      rw [sortI_of a b]
      refine hq _ _ _ hf ?_
      have s0 := h.dropL hl
      exact s0.newF hp rfl fun Z hz _ => .lstO upd_same rfl (O' := AS.no) (fun _ z => z.elim) RepL.ints
    rcases e1 with ⟨_, e1⟩ | ⟨_, e1⟩
    · exact .inl ⟨p, ns, rfl, .inl e1, fin⟩
    · exact .inr ⟨p, ns, rfl, e1, fin⟩
  · obtain ⟨hL, ys, hx, ⟨⟨hf, hdt⟩, hal, htp⟩, hk⟩ := hw
    obtain ⟨r, v, rfl, rfl, e, s⟩ := one_of h hl hr
    obtain ⟨p, ws, rfl, l, e1, ⟨Z, rl⟩, pm⟩ := s.seqP e hx hf
    have hm : ∀ {d}, d ∈ toPs ys → ∃ x ∈ ys, toP x = d := fun {d} hd => by
      have := toPs_map ys ▸ hd
      exact List.mem_map.mp this
    refine ⟨p, ws, toPs ys, rfl, lstOf hL e1, RepL.dp rl hdt, fun d hd d' hd' => ?_, .inl fun d hd => ?_, fun d hd => ?_, fun zs q pz hp => ?_⟩
    · obtain ⟨x, mx, rfl⟩ := hm hd
      obtain ⟨y, my, rfl⟩ := hm hd'
      exact hal x mx y my
    · obtain ⟨x, mx, rfl⟩ := hm hd
      obtain ⟨d0, ds0, rfl⟩ := htp x mx
      exact ⟨toP d0, toPs ds0, by rw [toP, toPs]⟩
    · obtain ⟨x, mx, rfl⟩ := hm hd
      exact (shp_of x 60 (dats_mem hdt x mx)).2
    · obtain ⟨ys', py, s2⟩ := pm zs pz
      exact hq _ _ _ (hk ys' py) (s2.lst (by rw [py.length_eq, pz.length_eq, l]) hp)
  · obtain ⟨ys, hx, hf, hk⟩ := hw
    obtain ⟨r, v, rfl, rfl, e, s⟩ := one_of h hl hr
    obtain ⟨p, ws, rfl, l, e1, s2, _⟩ := s.seqF e hx hf
    refine ⟨p, ws, rfl, ?_, fun q hp => hq _ _ _ hk (s2.lst l hp)⟩
    exact e1.elim (fun z => .inl (.inl z.2)) fun z => .inr z.2
  · obtain ⟨ys, hx, hf, hk⟩ := hw
    obtain ⟨r, v, rfl, rfl, e, s⟩ := one_of h hl hr
    obtain ⟨p, ws, rfl, l, e1, s2, _⟩ := s.seqF e hx hf
    refine ⟨p, ws, rfl, ?_⟩
    rcases e1 with ⟨_, e1⟩ | ⟨k1, e1⟩
    · exact .inl ⟨.inl e1, fun q hp => hq _ _ _ hk (s2.tup l hp)⟩
    · rename_i a k
      cases a <;> first | (cases hx; done) | (cases k1; done) | skip
      cases hx
      exact .inr ⟨e1, hq _ _ _ hk (s.self e hf)⟩
  · obtain ⟨hL, bs, hx, hk⟩ := hw
    obtain ⟨p, rfl, e1⟩ := bls hr hx
    exact ⟨p, bs, rfl, lstOf hL e1, flat hk fun _ => .bl _⟩
  · obtain ⟨hL, bs, hx, hk⟩ := hw
    obtain ⟨p, rfl, e1⟩ := bls hr hx
    exact ⟨p, bs, rfl, lstOf hL e1, flat hk fun _ => .bl _⟩
  · exact hw.elim
end
end Pf

/-! Expressions keep what is asked. -/
namespace Pf
open PySem PySem.Spec PyProof.Rows L2
section
variable {G : Gb} {g : Str → Addr} {k : Nat} {sc : Scope} {N : List Str} {W : WX} {X : Cx}
theorem Ct.vis (c : Ct G g k sc N W X) {x : Str} (h : vis sc x = true) : Vis X.env.scope x := by
  rw [c.sc]
  unfold Pf.vis at h
  rw [Bool.or_eq_true, Bool.or_eq_true] at h
  exact h.imp of_decide_eq_true fun h => h.imp of_decide_eq_true of_decide_eq_true
theorem Ct.gl (c : Ct G g k sc N W X) {x : Str} (h : gl sc x = true) : Gl X x := by
  show X.env.scope.names.lookup x = some .globalImplicit
  rw [c.sc]
  exact of_decide_eq_true h
theorem and2 {a b : Bool} (h : (a && b) = true) : a = true ∧ b = true := by rwa [Bool.and_eq_true] at h
theorem not1 {a : Bool} (h : (!a) = true) : a = false := by cases a <;> first | rfl | cases h

theorem pe_name (c : Ct G g k sc N W X) {i : Nat} {x : Str} {p : Pos} (h : (slotIs N i x && (vis sc x && (!(x == ("__debug__" : Str)) && !(x == ("__classdict__" : Str))))) = true) : PE X (.Name x p) (tVar i) := by
  obtain ⟨h1, h⟩ := and2 h
  obtain ⟨h2, h⟩ := and2 h
  obtain ⟨h3, h4⟩ := and2 h
  exact pe_var (by rw [c.hN]; exact of_decide_eq_true h1) (c.vis h2) (not1 h3) (not1 h4)
theorem s_var (c : Ct G g k sc N W X) {i : Nat} {x : Str} {p : Pos} (h : (slotIs N i x && (vis sc x && (!(x == ("__debug__" : Str)) && !(x == ("__classdict__" : Str))))) = true) : PE X (.Name x p) (tE X.K g G W (.var i)) := by
  refine (pe_name c h).im fun σ H Q ⟨B, en, rs, vs, Xp, Q0, hs, hx, he, hq⟩ => ?_
  unfold ev at he
  split at he
  · rename_i d hd
    by_cases hf : fz d = true
    · rw [if_pos hf] at he
      obtain ⟨v, ev, s⟩ := hs.read hd hf
      exact ⟨v, ev, hq _ _ _ _ he s⟩
    · rw [if_neg hf] at he
      obtain ⟨v, ev, s⟩ := hs.freeze hd
      exact ⟨v, ev, hq _ _ _ _ he s⟩
  · exact he.elim
theorem s_varR (c : Ct G g k sc N W X) {i : Nat} {x : Str} {p : Pos} (h : (slotIs N i x && (vis sc x && (!(x == ("__debug__" : Str)) && !(x == ("__classdict__" : Str))))) = true) : PE X (.Name x p) (tR X.K g G W (.var i)) := by
  refine (pe_name c h).im fun σ H Q ⟨B, en, rs, vs, Xp, Q0, hs, hx, he, hq⟩ => ?_
  unfold asR at he
  dsimp only at he
  split at he
  · rename_i d hd
    by_cases hf : fz d = true
    · rw [if_pos hf] at he
      obtain ⟨v, ev, s⟩ := hs.read hd hf
      exact ⟨v, ev, hq _ _ _ _ he s⟩
    · rw [if_neg hf] at he
      obtain ⟨v, ev, s⟩ := hs.slot hd
      exact ⟨v, ev, hq _ _ _ _ he s⟩
  · exact he.elim
theorem asR_of {m : E} (h : ∀ i, m ≠ .var i) (f : En → (D → En → Prop) → Xp → Prop) (en : En) (Q : R → En → Prop) (Xp : Xp) : asR m f en Q Xp = f en (fun d e => Q (.v d) e) Xp := by
  cases m <;> first | rfl | exact absurd rfl (h _)
theorem s_R {m : E} {e : Expr} (h : ∀ i, m ≠ .var i) (p : PE X e (tE X.K g G W m)) : PE X e (tR X.K g G W m) :=
  p.im fun σ H Q ⟨B, en, rs, vs, Xp, Q0, hs, hx, he, hq⟩ => ⟨B, en, rs, vs, Xp, _, hs, hx, by rw [asR_of h] at he; exact he, fun d e v H' h1 h2 => hq _ _ _ _ h1 h2⟩
/-- a value without parts -/
theorem s_flat {m : E} {e : Expr} {d : D} {v : V} (p : PE X e (tC v)) (h : ∀ en Q Xp, ev G m en Q Xp → Q d en) (r : ∀ Z H, Rep X.K g Z H d v AS.no) : PE X e (tE X.K g G W m) :=
  p.im fun σ H Q ⟨B, en, rs, vs, Xp, Q0, hs, hx, he, hq⟩ => hq _ _ _ _ (h _ _ _ he) (hs.flat fun Z => r Z H)
theorem s_bin {a b : Expr} {op : Operator} {p : Pos} {ma mb : E} (ha : PE X a (tR X.K g G W ma)) (hb : PE X b (tR X.K g G W mb)) : PE X (.BinOp a op b p) (tE X.K g G W (.bin op ma mb)) := by
  refine (pe_op (op_bin op) ha hb).im fun σ H Q ⟨B, en, rs, vs, Xp, Q0, hs, hx, he, hq⟩ => ?_
  unfold ev at he
  refine ⟨B, en, rs, vs, Xp, _, hs, hx, he, fun r1 e1 v1 H1 h1 s1 => ⟨B, e1, r1 :: rs, v1 :: vs, Xp, _, s1, hx, h1, fun r2 e2 v2 H2 h2 s2 => ?_⟩⟩
  split at h2
  · rename_i x y hx' hy'
    exact bin_sat s2 hx' hy' h2 fun d v H' h3 s3 => hq _ _ _ _ h3 s3
  · exact h2.elim
theorem cmp_rd {σ : L2.St} {H : Hp} {Q : VK} {op : CmpOp} {ma mb : E} (h : tE X.K g G W (.cmp op ma mb) σ H Q) : tOp (rCmp X.K op) (tR X.K g G W ma) (tR X.K g G W mb) σ H Q := by
  obtain ⟨B, en, rs, vs, Xp, Q0, hs, hx, he, hq⟩ := h
  unfold ev at he
  refine ⟨B, en, rs, vs, Xp, _, hs, hx, he, fun r1 e1 v1 H1 h1 s1 => ⟨B, e1, r1 :: rs, v1 :: vs, Xp, _, s1, hx, h1, fun r2 e2 v2 H2 h2 s2 => ?_⟩⟩
  split at h2
  · rename_i x y hx' hy'
    exact cmp_sat s2 hx' hy' h2 fun b h3 => hq _ _ _ _ h3 (s2.drop.drop.flat fun Z => .bl b)
  · exact h2.elim
theorem s_cmp (c : Ct G g k sc N W X) {a b : Expr} {op : CmpOp} {p : Pos} {ma mb : E} (hm : nset b = true) (ha : PE X a (tR X.K g G W ma)) (hb : PE X b (tR X.K g G W mb)) : PE X (.Compare a [op] [b] p) (tE X.K g G W (.cmp op ma mb)) :=
  (pe_cmpR (op_cmp (by have := c.hu; omega) op) ha hb (mark_of hm)).im fun σ H Q h => cmp_rd h
/-- from the answer of a test -/
theorem tT_of {m : E} {σ : L2.St} {H : Hp} {Q : Bool → Hp → Prop} (h : tT X.K g G W m σ H Q) : tE X.K g G W m σ H (fun v H' => ∃ b, v = .bl b ∧ Q b H') := by
  obtain ⟨B, en, rs, vs, Xp, Q0, hs, hx, he, hq⟩ := h
  refine ⟨B, en, rs, vs, Xp, _, hs, hx, he, fun d e v H' ⟨b, e1, h1⟩ s => ?_⟩
  subst e1
  obtain ⟨Z, O, r, _⟩ := s.rep rfl
  cases r
  exact ⟨b, rfl, hq _ _ _ h1 s.drop⟩
theorem t_cmp (c : Ct G g k sc N W X) {a b : Expr} {op : CmpOp} {p : Pos} {ma mb : E} (hm : nset b = true) (ha : PE X a (tR X.K g G W ma)) (hb : PE X b (tR X.K g G W mb)) : PT X (.Compare a [op] [b] p) (tT X.K g G W (.cmp op ma mb)) :=
  (pt_cmpR (op_cmp (by have := c.hu; omega) op) ha hb (mark_of hm)).im fun σ H Q h => cmp_rd (tT_of h)
theorem t_val {m : E} {e : Expr} (p : PE X e (tE X.K g G W m)) (he : ∀ whole, isTrue e X.env whole = (do let v ← whole; standAt e.pos; holding [v] (truthy v))) : PT X e (tT X.K g G W m) :=
  (pt_val p he).im fun σ H Q h => tT_of h
theorem s_neg {a : Expr} {p : Pos} {ma : E} (ha : PE X a (tE X.K g G W ma)) : PE X (.UnaryOp .USub a p) (tE X.K g G W (.neg ma)) := by
  refine (pe_un un_neg ha).im fun σ H Q ⟨B, en, rs, vs, Xp, Q0, hs, hx, he, hq⟩ => ?_
  unfold ev at he
  refine ⟨B, en, rs, vs, Xp, _, hs, hx, he, fun d e v H' h1 s1 => ?_⟩
  unfold negW at h1
  split at h1
  · obtain ⟨Z, O, r, _⟩ := s1.rep rfl
    cases r
    exact ⟨_, rfl, hq _ _ _ _ h1 (s1.drop.flat fun Z => .int _)⟩
  · exact h1.elim
theorem s_nt {a : Expr} {p : Pos} {ma : E} (ha : PE X a (tE X.K g G W ma)) : PE X (.UnaryOp .Not a p) (tE X.K g G W (.nt ma)) := by
  refine (pe_not ha).im fun σ H Q ⟨B, en, rs, vs, Xp, Q0, hs, hx, he, hq⟩ => ?_
  unfold ev at he
  refine ⟨B, en, rs, vs, Xp, _, hs, hx, he, fun d e v H' ⟨b, e1, h1⟩ s1 => ?_⟩
  subst e1
  obtain ⟨Z, O, r, _⟩ := s1.rep rfl
  cases r
  exact ⟨b, rfl, hq _ _ _ _ h1 (s1.drop.flat fun Z => .bl _)⟩
theorem t_nt {a : Expr} {p : Pos} {ma : E} (ha : PT X a (tT X.K g G W ma)) : PT X (.UnaryOp .Not a p) (tT X.K g G W (.nt ma)) := by
  refine (pt_not ha).im fun σ H Q ⟨B, en, rs, vs, Xp, Q0, hs, hx, he, hq⟩ => ?_
  unfold ev at he
  have he' : ev G ma en (fun x e1 => ∃ b, x = .bl b ∧ Q0 (!b) e1) Xp := by
    have z : (fun (x : D) (e1 : En) => ∃ b, x = .bl b ∧ ∃ b', D.bl (!b) = .bl b' ∧ Q0 b' e1) = (fun (x : D) (e1 : En) => ∃ b, x = .bl b ∧ Q0 (!b) e1) := by
      funext x e1
      refine propext ⟨fun ⟨b, h1, b', h2, h3⟩ => ?_, fun ⟨b, h1, h2⟩ => ⟨b, h1, _, rfl, h2⟩⟩
      cases h2
      exact ⟨b, h1, h3⟩
    rw [← z]
    exact he
  exact ⟨B, en, rs, vs, Xp, _, hs, hx, he', fun b e H' h1 s1 => hq _ _ _ h1 s1⟩
theorem s_ite {c a b : Expr} {p : Pos} {mc ma mb : E} (hc : PT X c (tT X.K g G W mc)) (ha : PE X a (tE X.K g G W ma)) (hb : PE X b (tE X.K g G W mb)) : PE X (.IfExp c a b p) (tE X.K g G W (.ite mc ma mb)) := by
  refine (pe_ifExp hc ha hb).im fun σ H Q ⟨B, en, rs, vs, Xp, Q0, hs, hx, he, hq⟩ => ?_
  unfold ev at he
  refine ⟨B, en, rs, vs, Xp, _, hs, hx, he, fun t e H' h1 s1 => ?_⟩
  cases t with
  | true => exact ⟨B, e, rs, vs, Xp, _, s1, hx, h1, hq⟩
  | false => exact ⟨B, e, rs, vs, Xp, _, s1, hx, h1, hq⟩
theorem ST.move {K : PySem.W.Frag} {B : Bs} {en : En} {rs : List R} {σ : Sg} {vs : List V} {H : Hp} {r : R} {v : V} {xs : List R} {us : List V} (h : ST K g B en (xs ++ r :: rs) σ (us ++ v :: vs) H) (hl : xs.length = us.length) : ST K g B en ((r :: xs) ++ rs) σ ((v :: us) ++ vs) H := by
  refine ⟨?_, ?_⟩
  · have z := SR.move (xs := xs) (us := us) (r := r) (v := v) (rs := rs ++ B.ts.map R.v) (vs := vs ++ B.tv) (by simpa only [List.append_assoc, List.cons_append] using h.1) hl
    simpa only [List.append_assoc, List.cons_append] using z
  · have := h.2
    simp only [List.length_append, List.length_cons] at this ⊢
    omega
theorem a_nil : PA X [] (tA X.K g G W .nil) := by
  refine pa_nil.im fun σ H Q ⟨B, en, rs, vs, Xp, Q0, hs, hx, he, hq⟩ => ?_
  unfold evr at he
  exact hq [] en [] H he rfl hs
theorem a_cons {e : Expr} {es : List Expr} {m : E} {ms : Es} (hn : nst e = true) (h : PE X e (tR X.K g G W m)) (t : PA X es (tA X.K g G W ms)) : PA X (e :: es) (tA X.K g G W (.cons m ms)) := by
  refine (pa_cons h t (star_of hn)).im fun σ H Q ⟨B, en, rs, vs, Xp, Q0, hs, hx, he, hq⟩ => ?_
  unfold evr at he
  refine ⟨B, en, rs, vs, Xp, _, hs, hx, he, fun r1 e1 v1 H1 h1 s1 => ⟨B, e1, r1 :: rs, v1 :: vs, Xp, _, s1, hx, h1, fun xs e2 us H2 h2 hl s2 => ?_⟩⟩
  refine hq (r1 :: xs) e2 (v1 :: us) H2 h2 (by simp [hl]) (s2.move hl)
theorem v_nil : PA X [] (tV X.K g G W .nil) := by
  refine pa_nil.im fun σ H Q ⟨B, en, rs, vs, Xp, Q0, hs, hx, he, hq⟩ => ?_
  unfold evs at he
  exact hq [] en [] H he rfl rfl hs
theorem v_cons {e : Expr} {es : List Expr} {m : E} {ms : Es} (hn : nst e = true) (h : PE X e (tE X.K g G W m)) (t : PA X es (tV X.K g G W ms)) : PA X (e :: es) (tV X.K g G W (.cons m ms)) := by
  refine (pa_cons h t (star_of hn)).im fun σ H Q ⟨B, en, rs, vs, Xp, Q0, hs, hx, he, hq⟩ => ?_
  unfold evs at he
  refine ⟨B, en, rs, vs, Xp, _, hs, hx, he, fun d1 e1 v1 H1 h1 s1 => ⟨B, e1, .v d1 :: rs, v1 :: vs, Xp, _, s1, hx, h1, fun xs e2 us H2 h2 hl hl2 s2 => ?_⟩⟩
  refine hq (d1 :: xs) e2 (v1 :: us) H2 h2 (by simp [hl]) (by rw [List.length_cons, hl2]; rfl) (s2.move (by rw [List.length_map]; exact hl))
theorem s_tup {es : List Expr} {x1 : Nat} {p : Pos} {ms : Es} (h : PA X es (tV X.K g G W ms)) (hl : esLen ms ≤ 1000) : PE X (.Tuple es x1 p) (tE X.K g G W (.tup ms)) := by
  refine (pe_tup h).im fun σ H Q ⟨B, en, rs, vs, Xp, Q0, hs, hx, he, hq⟩ => ?_
  unfold ev at he
  exact ⟨B, en, rs, vs, Xp, _, hs, hx, he, fun ds e1 us H1 h1 l1 l2 s1 => ⟨sizeL (by omega), fun q hq' => hq _ _ _ _ h1 (s1.tup l1 hq')⟩⟩
theorem s_lst {es : List Expr} {p : Pos} {ms : Es} (h : PA X es (tV X.K g G W ms)) (hl : esLen ms ≤ 1000) : PE X (.List es p) (tE X.K g G W (.lst ms)) := by
  refine (pe_lst h).im fun σ H Q ⟨B, en, rs, vs, Xp, Q0, hs, hx, he, hq⟩ => ?_
  unfold ev at he
  exact ⟨B, en, rs, vs, Xp, _, hs, hx, he, fun ds e1 us H1 h1 l1 l2 s1 => ⟨sizeL (by omega), fun q hq' => hq _ _ _ _ h1 (s1.lst l1 hq')⟩⟩
/-- one part is taken out of what is in flight -/
theorem ST.pick {B : Bs} {en : En} {rs : List R} {σ : Sg} {vs : List V} {H : Hp} {r : R} {x d : D} {v : V} {xs : List D} {j : Nat} (h : ST X.K g B en (r :: rs) σ (v :: vs) H) (hr : rv en r = some x) (hx : itms x = some xs) (hj : xs[j]? = some d) (hf : isS r = true → fz d = true) :
    ∃ a us u, v = .ref a ∧ Seq X.K H x a us ∧ xs.length = us.length ∧ us[j]? = some u ∧ ST X.K g B en (.v d :: rs) σ (u :: vs) H := by
  obtain ⟨⟨Z, O, O1, O2, e, t, s1, s2, q, p⟩, hl⟩ := h
  cases t with
  | @v _ A C _ _ _ _ a1 a2 rr t =>
    cases hr
    cases rr with
    | tup ee r' =>
      cases hx
      obtain ⟨u, hu, ru⟩ := r'.get hj
      exact ⟨_, _, u, rfl, .inr ⟨rfl, ee⟩, r'.length, hu, ⟨Z, O, O1, O2, e, .v a1 a2 ru t, s1, s2, q, p⟩, hl⟩
    | lstO ee oa s r' =>
      cases hx
      obtain ⟨u, hu, ru⟩ := r'.get hj
      exact ⟨_, _, u, rfl, .inl ⟨rfl, .inl ee⟩, r'.length, hu, ⟨Z, O, O1, O2, e, .v a1 a2 (ru.up fun b z => (s b z).1) t, s1, s2, q, p⟩, hl⟩
    | lstF z ee r' =>
      cases hx
      obtain ⟨u, hu, ru⟩ := r'.get hj
      exact ⟨_, _, u, rfl, .inl ⟨rfl, ee⟩, r'.length, hu, ⟨Z, O, O1, O2, e, .v a1 a2 (ru.up fun b z => z.elim) t, s1, s2, q, p⟩, hl⟩
    | _ => cases hx
  | s ev t =>
    obtain ⟨v', A, C, ev', rr, _⟩ := e.split (join_some (show (en[_]?).join = some x from hr))
    rw [ev] at ev'
    cases ev'
    obtain ⟨a, us, O'', e1, e2, e3, r'⟩ := rr.seq hx
    obtain ⟨u, hu, ru⟩ := r'.get hj
    exact ⟨a, us, u, e1, e3, e2, hu, ⟨Z, O, O1, O2, e, .v (O1 := AS.no) (fun _ z => z.elim) (fun _ z => ⟨z, id⟩) (ru.none (hf rfl)) t, s1, s2, q, p⟩, hl⟩
theorem atI_of {xs : List D} {i : Int} {d : D} (h : atI xs i = some d) : ∃ j, ixN xs.length i = some j ∧ xs[j]? = some d := by
  unfold atI at h
  cases e : ixN xs.length i with
  | none => rw [e] at h; cases h
  | some j =>
    rw [e] at h
    exact ⟨j, rfl, h⟩
theorem s_idx (c : Ct G g k sc N W X) {a b : Expr} {p : Pos} {ma mb : E} (hm : nsl b = true) (ha : PE X a (tR X.K g G W ma)) (hb : PE X b (tE X.K g G W mb)) : PE X (.Subscript a b p) (tE X.K g G W (.idx ma mb)) := by
  refine (pe_ix (ix_list.or ix_tup) ha hb (plainIx_of hm)).im fun σ H Q ⟨B, en, rs, vs, Xp, Q0, hs, hx, he, hq⟩ => ?_
  unfold ev at he
  refine ⟨B, en, rs, vs, Xp, _, hs, hx, he, fun r1 e1 v1 H1 h1 s1 => ⟨B, e1, r1 :: rs, v1 :: vs, Xp, _, s1, hx, h1, fun y e2 v2 H2 h2 s2 => ?_⟩⟩
  split at h2
  · rename_i x hx'
    unfold ixW at h2
    split at h2
    · rename_i xs i hxs
      obtain ⟨d, hd, hf, hk⟩ := h2
      obtain ⟨Z, O, q2, _⟩ := s2.rep rfl
      cases q2
      obtain ⟨j, ej, hj⟩ := atI_of hd
      obtain ⟨a, us', u, rfl, sq, l2, hu2, s3⟩ := s2.drop.pick hx' hxs hj hf
      have ej : atI us' i = some u := by
        unfold atI
        rw [← l2, ej]
        exact hu2
      rcases sq with ⟨_, sq⟩ | ⟨_, sq⟩
      · exact .inl ⟨a, us', i, u, rfl, rfl, .inl sq, ej, hq _ _ _ _ hk s3⟩
      · exact .inr ⟨a, us', i, u, rfl, rfl, sq, ej, hq _ _ _ _ hk s3⟩
    · exact h2.elim
  · exact h2.elim
end
end Pf

/-! Expressions keep what is asked: cuts, calls, chains of tests. -/
namespace Pf
open PySem PySem.Spec PyProof.Rows L2
section
variable {G : Gb} {g : Str → Addr} {k : Nat} {sc : Scope} {N : List Str} {W : WX} {X : Cx}
/-! ### cuts -/
theorem o_no : PO X none (tO X.K g G W .no) := by
  refine po_none.im fun σ H Q ⟨B, en, rs, vs, Xp, Q0, hs, hx, he, hq⟩ => ?_
  unfold evO at he
  exact hq _ _ _ he hs
theorem o_so {e : Expr} {m : E} (h : PE X e (tE X.K g G W m)) : PO X (some e) (tO X.K g G W (.so m)) := by
  refine (po_some h).im fun σ H Q ⟨B, en, rs, vs, Xp, Q0, hs, hx, he, hq⟩ => ?_
  unfold evO at he
  refine ⟨B, en, rs, vs, Xp, _, hs, hx, he, fun d e1 v H1 ⟨i, hd, h1⟩ s1 => ?_⟩
  subst hd
  obtain ⟨Z, O, r, _⟩ := s1.rep rfl
  cases r
  exact ⟨i, rfl, hq _ _ _ h1 s1.drop⟩
theorem RepL.dropN {Z : AS} {H : Hp} : ∀ {xs : List D} {us : List V} (n : Nat), RepL X.K g Z H xs us AS.no → RepL X.K g Z H (xs.drop n) (us.drop n) AS.no
  | _, _, 0, r => r
  | _, _, _ + 1, .nil => .nil
  | _, _, n + 1, .cons s1 s2 r t => RepL.dropN n (t.up fun b z => (s2 b z).1)
theorem RepL.takeN {Z : AS} {H : Hp} : ∀ {xs : List D} {us : List V} (n : Nat), RepL X.K g Z H xs us AS.no → RepL X.K g Z H (xs.take n) (us.take n) AS.no
  | _, _, 0, _ => .nil
  | _, _, _ + 1, .nil => .nil
  | _, _, n + 1, .cons s1 s2 r t => .cons (O1 := AS.no) (O2 := AS.no) (fun _ z => z) (fun _ z => z.elim) (r.up s1) (RepL.takeN n (t.up fun b z => (s2 b z).1))
theorem ST.cut {B : Bs} {en : En} {rs : List R} {σ : Sg} {vs : List V} {H : Hp} {r : R} {d : D} {v : V} {xs : List D} (h : ST X.K g B en (r :: rs) σ (v :: vs) H) (hr : rv en r = some d) (hx : itms d = some xs) (hf : fzs xs = true) (lo hi : Option Int) :
    ∃ a us, v = .ref a ∧ xs.length = us.length ∧ Seq X.K H d a us ∧ (cutD xs lo hi).length = (cutV us lo hi).length ∧ ST X.K g B en ((cutD xs lo hi).map R.v ++ rs) σ (cutV us lo hi ++ vs) H := by
  obtain ⟨⟨Z, O, O1, O2, e, t, s1, s2, q, p⟩, hl⟩ := h
  obtain ⟨O', r⟩ := t.hd e hr
  obtain ⟨a, us, O'', e1, e2, e3, r'⟩ := r.seq hx
  have r0 : RepL X.K g Z H (cutD xs lo hi) (cutV us lo hi) AS.no := by
    unfold cutD cutV
    rw [e2]
    exact RepL.takeN _ (RepL.dropN _ (r'.none hf))
  have hl' : rs.length = vs.length := by simpa using hl
  refine ⟨a, us, e1, e2, e3, r0.length, ⟨Z, O, O1, O2, e, ?_, s1, s2, q, p⟩, ?_⟩
  · rw [List.append_assoc, List.append_assoc]
    exact RepT.addF r0 t.tl
  · rw [List.length_append, List.length_append, List.length_map, r0.length, hl']
theorem cut_all {xs : List D} {lo hi : Option Int} (h1 : HT.sIx xs.length 0 lo = 0) (h2 : HT.sIx xs.length xs.length hi = xs.length) : cutD xs lo hi = xs := by
  unfold cutD
  rw [h1, h2, List.drop_zero, Nat.sub_zero, List.take_length]
theorem s_slc {a : Expr} {lo hi : Option Expr} {p p2 : Pos} {ma : E} {ml mh : Ox} (ha : PE X a (tR X.K g G W ma)) (hl : PO X lo (tO X.K g G W ml)) (hh : PO X hi (tO X.K g G W mh)) : PE X (.Subscript a (.Slice lo hi none p2) p) (tE X.K g G W (.slc ma ml mh)) := by
  refine (pe_slice (sl_list.or sl_tupA) ha hl hh).im fun σ H Q ⟨B, en, rs, vs, Xp, Q0, hs, hx, he, hq⟩ => ?_
  unfold ev at he
  refine ⟨B, en, rs, vs, Xp, _, hs, hx, he, fun r1 e1 v1 H1 h1 s1 => ⟨B, e1, r1 :: rs, v1 :: vs, Xp, _, s1, hx, h1, fun l e2 H2 h2 s2 => ⟨B, e2, r1 :: rs, v1 :: vs, Xp, _, s2, hx, h2, fun u e3 H3 h3 s3 => ?_⟩⟩⟩
  split at h3
  · rename_i x hx'
    unfold slW at h3
    split at h3
    · obtain ⟨a, us, rfl, l1, sq, l2, s4⟩ := s3.cut hx' rfl h3.1 l u
      exact .inl ⟨a, us, rfl, sq.elim (fun z => .inl z.2) (fun z => nomatch z.1), fun q hp => hq _ _ _ _ h3.2 (s4.lst l2 hp)⟩
    · obtain ⟨a, us, rfl, l1, sq, l2, s4⟩ := s3.cut hx' rfl h3.1 l u
      refine .inr ⟨a, us, rfl, sq.elim (fun z => nomatch z.1) fun z => z.2, fun z => ?_, fun _ q hp => hq _ _ _ _ h3.2 (s4.tup l2 hp)⟩
      rw [← l1] at z
      have hk := h3.2
      rw [cut_all z.1 z.2] at hk
      exact hq _ _ _ _ hk (s3.self hx' h3.1)
    · exact h3.elim
  · exact h3.elim

/-! ### calls -/
theorem RepT.mid {K : PySem.W.Frag} {Z : AS} {H : Hp} {σ : Sg} {ys zs : List R} {us ws : List V} : ∀ {xs : List R} {vs : List V} {O : AS}, RepT K g Z H σ (xs ++ (ys ++ zs)) (vs ++ (us ++ ws)) O → xs.length = vs.length → ys.length = us.length → RepT K g Z H σ (xs ++ zs) (vs ++ ws) O
  | [], [], O, t, _, h => by
    induction ys generalizing us with
    | nil =>
      cases us with
      | nil => exact t
      | cons _ _ => cases h
    | cons y ys ih =>
      cases us with
      | nil => cases h
      | cons u us => exact ih (RepT.tl t) (by simpa using h)
  | [], _ :: _, _, _, h, _ => by cases h
  | _ :: _, [], _, _, h, _ => by cases h
  | x :: xs, u0 :: vs, O, t, h, h' => by
    cases t with
    | v a1 a2 r t => exact .v a1 a2 r (RepT.mid t (by simpa using h) h')
    | s e t => exact .s e (RepT.mid t (by simpa using h) h')
theorem callW_ok {σ : L2.St} {H : Hp} {Q : VK} {B : Bs} {en : En} {rs xs : List R} {vs us : List V} {Xp : Xp} {Q0 : D → En → Prop} {F : FSp} (h : callW (some F) xs en Q0 Xp) (hl : xs.length = us.length) (hx : XL X.K g G B W Xp) (s : ST X.K g B en (xs ++ rs) σ (us ++ vs) H)
    (hq : ∀ d en' v H', Q0 d en' → ST X.K g B en' (.v d :: rs) σ (v :: vs) H' → Q v H') : spOf X.K g G F us H Q (WE W σ) := by
  unfold callW at h
  split at h
  · rename_i F' ds en2 hF ht
    cases hF
    have s1 := s.1
    rw [List.append_assoc, List.append_assoc] at s1
    obtain ⟨Z, O, hin, hout⟩ := call_ok s1 hl ht
    have len : rs.length = vs.length := by
      have := s.2
      simp only [List.length_append] at this
      omega
    refine ⟨Z, O, ds, _, _, hin, h, fun r up v H' h1 s2 => ?_, fun c fs up cls d H' h1 e => ?_⟩
    · exact hq _ _ _ _ h1 ⟨hout up [r] [v] H' rfl s2, by rw [List.length_cons, List.length_cons, len]⟩
    · obtain ⟨ws, ns, fV, a1, a2, a3, a4, a5, a6, a7, a8, a9⟩ := e
      have a1' : SR X.K g ⟨H, Z, O, [], [], []⟩ up (fs.map R.v) (us.map some) ws H' := by
        have z : SR X.K g ⟨H, Z, O, [], [], []⟩ up (fs.map R.v ++ []) (us.map some) (ws ++ []) H' := a1
        rw [List.append_nil, List.append_nil] at z
        exact z
      obtain ⟨Z2, P, P1, P2, b1, b2, b3⟩ := hout up fs ws H' a2 a1'
      exact hx c fs _ σ H' cls d h1 ⟨ws, ns, fV, ⟨Z2, P, P1, P2, b1, RepT.mid b2 (by rw [List.length_map]; exact a2) len, b3⟩, a2, a3, a4, a5, a6, a7, a8, a9⟩
  · exact h.elim
theorem s_call (c : Ct G g k sc N W X) {x : Str} {f : String} {p pos : Pos} {args : List Expr} {ms : Es} (hc : X.calm = true) (hf : (G.fns f).isSome = true) (hx : x = Str.ofString f) (hg : gl sc x = true) (hn : args.all nst = true) (hnil : args = [] → ms = .nil) (ha : PA X args (tA X.K g G W ms)) : PE X (.Call (.Name x p) args [] pos) (tE X.K g G W (.call f ms)) := by
  obtain ⟨F, hF⟩ := Option.isSome_iff_exists.mp hf
  obtain ⟨fa, fd, ps, h1, h2, h3, h4, h5⟩ := c.ok.fn f F hF
  subst hx
  cases args with
  | nil =>
    cases hnil rfl
    refine ⟨fun pins s σ H Q I ⟨B, en, rs, vs, Xp, Q0, hs, hxl, he, hq⟩ => ?_⟩
    refine wpAny_Call_Name_kw (ld_glob I (c.gl hg) h1 ?_ h5)
    refine PySem.W.callWith_K0 I.kIn h2 (run_fnS (us := []) (vs := []) (E := WE W) h4 (c.room hc) h3 (passAt c.tk σ) I .nil ?_)
    unfold ev evr at he
    rw [hF] at he
    exact callW_ok (xs := []) (us := []) he rfl hxl hs hq
  | cons e es =>
    rw [List.all_cons, Bool.and_eq_true] at hn
    refine (pe_callS h4 (c.room hc) (c.gl hg) h1 h2 h3 (E := WE W) (fun σ => passAt c.tk σ) ha h5 (star_of hn.1) (stars_of hn.2)).im fun σ H Q ⟨B, en, rs, vs, Xp, Q0, hs, hxl, he, hq⟩ => ?_
    unfold ev at he
    rw [hF] at he
    exact ⟨B, en, rs, vs, Xp, _, hs, hxl, he, fun xs e1 us H1 h1 hl s1 => callW_ok h1 hl hxl s1 hq⟩
/-! ### and, or -/
def tBo (K : PySem.W.Frag) (g : Str → Addr) (G : Gb) (W : WX) (c : Bool) (ms : Es) : TE := fun σ H Q => ∃ B en rs vs X Q0, ST K g B en rs σ vs H ∧ XL K g G B W X ∧ evB G c ms en Q0 X ∧ ∀ d en' v H', Q0 d en' → ST K g B en' (.v d :: rs) σ (v :: vs) H' → Q v H'
def tBt (K : PySem.W.Frag) (g : Str → Addr) (G : Gb) (W : WX) (c : Bool) (ms : Es) : TT := fun σ H Q => ∃ B en rs vs X, ∃ Q0 : Bool → En → Prop, ST K g B en rs σ vs H ∧ XL K g G B W X ∧ evB G c ms en (fun d e => ∃ b, d = .bl b ∧ Q0 b e) X ∧ ∀ b en' H', Q0 b en' → ST K g B en' rs σ vs H' → Q b H'
def opOf (c : Bool) : BoolOp := if c = true then .And else .Or
theorem evB_one (c : Bool) (m : E) (en : En) (Q : D → En → Prop) (Xp : Xp) : evB G c (.cons m .nil) en Q Xp = ev G m en Q Xp := by rw [evB]
theorem evB_cons (c : Bool) (m m2 : E) (ms : Es) (en : En) (Q : D → En → Prop) (Xp : Xp) : evB G c (.cons m (.cons m2 ms)) en Q Xp = ev G m en (fun x e1 => ∃ b, x = .bl b ∧ if b = c then evB G c (.cons m2 ms) e1 Q Xp else Q (.bl (!c)) e1) Xp := by
  rw [evB]
  intro h
  cases h
theorem b_one {c : Bool} {a : Expr} {p : Pos} {m : E} (ha : PE X a (tE X.K g G W m)) : PE X (.BoolOp (opOf c) [a] p) (tBo X.K g G W c (.cons m .nil)) := by
  refine (pe_one ha).im fun σ H Q ⟨B, en, rs, vs, Xp, Q0, hs, hx, he, hq⟩ => ?_
  rw [evB_one] at he
  exact ⟨B, en, rs, vs, Xp, Q0, hs, hx, he, hq⟩
theorem b_cons {c : Bool} {a b : Expr} {r : List Expr} {p : Pos} {m m2 : E} {ms : Es} (ha : PE X a (tE X.K g G W m)) (hb : PE X (.BoolOp (opOf c) (b :: r) p) (tBo X.K g G W c (.cons m2 ms))) : PE X (.BoolOp (opOf c) (a :: b :: r) p) (tBo X.K g G W c (.cons m (.cons m2 ms))) := by
  cases c with
  | true =>
    refine (pe_and ha hb).im fun σ H Q ⟨B, en, rs, vs, Xp, Q0, hs, hx, he, hq⟩ => ?_
    rw [evB_cons] at he
    refine ⟨B, en, rs, vs, Xp, _, hs, hx, he, fun d e1 v H1 ⟨b, hb, h1⟩ s1 => ?_⟩
    subst hb
    obtain ⟨Z, O, rr, _⟩ := s1.rep rfl
    cases rr
    refine ⟨b, rfl, ?_⟩
    cases b with
    | true => exact ⟨B, e1, rs, vs, Xp, Q0, s1.drop, hx, h1, hq⟩
    | false => exact hq _ _ _ _ h1 (s1.drop.flat fun Z => .bl _)
  | false =>
    refine (pe_or ha hb).im fun σ H Q ⟨B, en, rs, vs, Xp, Q0, hs, hx, he, hq⟩ => ?_
    rw [evB_cons] at he
    refine ⟨B, en, rs, vs, Xp, _, hs, hx, he, fun d e1 v H1 ⟨b, hb, h1⟩ s1 => ?_⟩
    subst hb
    obtain ⟨Z, O, rr, _⟩ := s1.rep rfl
    cases rr
    refine ⟨b, rfl, ?_⟩
    cases b with
    | false => exact ⟨B, e1, rs, vs, Xp, Q0, s1.drop, hx, h1, hq⟩
    | true => exact hq _ _ _ _ h1 (s1.drop.flat fun Z => .bl _)
theorem w_one {c : Bool} {a : Expr} {p : Pos} {m : E} (ha : PT X a (tT X.K g G W m)) : PW X (.BoolOp (opOf c) [a] p) (tBt X.K g G W c (.cons m .nil)) := by
  have h : PW X (.BoolOp (opOf c) [a] p) (tT X.K g G W m) := by
    cases c with
    | true => exact pw_and1 ha
    | false => exact pw_or1 ha
  refine h.im fun σ H Q ⟨B, en, rs, vs, Xp, Q0, hs, hx, he, hq⟩ => ?_
  rw [evB_one] at he
  exact ⟨B, en, rs, vs, Xp, Q0, hs, hx, he, hq⟩
theorem w_cons {c : Bool} {a b : Expr} {r : List Expr} {p : Pos} {m m2 : E} {ms : Es} (ha : PT X a (tT X.K g G W m)) (hb : PW X (.BoolOp (opOf c) (b :: r) p) (tBt X.K g G W c (.cons m2 ms))) : PW X (.BoolOp (opOf c) (a :: b :: r) p) (tBt X.K g G W c (.cons m (.cons m2 ms))) := by
  cases c with
  | true =>
    refine (pw_and ha hb).im fun σ H Q ⟨B, en, rs, vs, Xp, Q0, hs, hx, he, hq⟩ => ?_
    rw [evB_cons] at he
    refine ⟨B, en, rs, vs, Xp, _, hs, hx, he, fun b e1 H1 h1 s1 => ?_⟩
    cases b with
    | true => exact ⟨B, e1, rs, vs, Xp, Q0, s1, hx, h1, hq⟩
    | false =>
      obtain ⟨b', e2, h2⟩ := h1
      cases e2
      exact hq _ _ _ h2 s1
  | false =>
    refine (pw_or ha hb).im fun σ H Q ⟨B, en, rs, vs, Xp, Q0, hs, hx, he, hq⟩ => ?_
    rw [evB_cons] at he
    refine ⟨B, en, rs, vs, Xp, _, hs, hx, he, fun b e1 H1 h1 s1 => ?_⟩
    cases b with
    | false => exact ⟨B, e1, rs, vs, Xp, Q0, s1, hx, h1, hq⟩
    | true =>
      obtain ⟨b', e2, h2⟩ := h1
      cases e2
      exact hq _ _ _ h2 s1
end
end Pf

/-! What is walked over; comprehensions. -/
namespace Pf
open PySem PySem.Spec PyProof.Rows L2
def Bs.add (B : Bs) (ts : List D) (tv : List V) : Bs := { B with ts := ts ++ B.ts, tv := tv ++ B.tv }
def vD : List R → List D
  | [] => []
  | .v d :: rs => d :: vD rs
  | .s _ :: rs => vD rs
def vV : List R → List V → List V
  | .v _ :: rs, v :: vs => v :: vV rs vs
  | .s _ :: rs, _ :: vs => vV rs vs
  | _, _ => []
def Bs.blk (B : Bs) (rs : List R) (vs : List V) : Bs := ⟨B.H, B.Z, B.O, [], vD rs ++ B.ts, vV rs vs ++ B.tv⟩
section
variable {K : PySem.W.Frag} {g : Str → Addr} {B : Bs} {en : En} {rs : List R} {σ σ' : Sg} {vs : List V} {H : Hp} {Z : AS} {O : AS}
theorem Good.re {B B' : Bs} (q : Good B Z O H) (h1 : B'.H = B.H) (h2 : B'.Z = B.Z) (h3 : B'.O = B.O) : Good B' Z O H := by
  obtain ⟨a, b, c, d, e, f⟩ := B
  obtain ⟨a', b', c', d', e', f'⟩ := B'
  cases h1
  cases h2
  cases h3
  exact ⟨q.dj, q.trO, q.trZ, q.fr, q.dom, q.zz, q.zn, q.on⟩
theorem RepT.sink {r : R} {v : V} : ∀ {xs : List R} {us : List V} {O : AS}, xs.length = us.length → RepT K g Z H σ (r :: (xs ++ rs)) (v :: (us ++ vs)) O → RepT K g Z H σ (xs ++ r :: rs) (us ++ v :: vs) O
  | [], [], _, _, t => t
  | [], _ :: _, _, h, _ => by cases h
  | _ :: _, [], _, h, _ => by cases h
  | x :: xs, u :: us, O, h, t => by
    have hl : xs.length = us.length := by simpa using h
    have t2 := t.swap
    cases t2 with
    | v a1 a2 q t => exact .v a1 a2 q (RepT.sink hl t)
    | s e t => exact .s e (RepT.sink hl t)
theorem RepE.cong {en : En} {σ σ' : Sg} {O : AS} (r : RepE K g Z H en σ O) (hl : σ'.length = σ.length) (h : ∀ (i : Nat) (d : D), en[i]? = some (some d) → σ'[i]? = σ[i]?) : RepE K g Z H en σ' O := by
  induction r generalizing σ' with
  | nil =>
    cases σ' with
    | nil => exact .nil
    | cons _ _ => cases hl
  | un t ih =>
    cases σ' with
    | nil => cases hl
    | cons y ys => exact .un (ih (by simpa using hl) fun i d e => by simpa using h (i + 1) d e)
  | has s1 s2 r t ih =>
    cases σ' with
    | nil => cases hl
    | cons y ys =>
      have e := h 0 _ rfl
      simp only [List.getElem?_cons_zero] at e
      cases e
      exact .has s1 s2 r (ih (by simpa using hl) fun i d e => by simpa using h (i + 1) d e)
theorem RepT.ofL {xs : List D} {us : List V} {O O1 O2 : AS} (r : RepL K g Z H xs us O1) (t : RepT K g Z H σ rs vs O2) (s1 : ∀ b, O1 b → O b) (s2 : ∀ b, O2 b → O b ∧ ¬ O1 b) : RepT K g Z H σ (xs.map R.v ++ rs) (us ++ vs) O := by
  induction xs generalizing us O O1 with
  | nil =>
    cases r
    exact t.up fun b z => (s2 b z).1
  | cons x xs ih =>
    cases r with
    | @cons _ E1 E2 _ _ _ _ f1 f2 r r' =>
      refine .v (O1 := E1) (O2 := fun b => E2 b ∨ O2 b) (fun b z => s1 b (f1 b z)) (fun b z => ?_) r (ih r' (fun b z => .inl z) fun b z => ⟨.inr z, fun y => (s2 b z).2 (f2 b y).1⟩)
      rcases z with z | z
      · exact ⟨s1 b (f2 b z).1, (f2 b z).2⟩
      · exact ⟨(s2 b z).1, fun y => (s2 b z).2 (f1 b y)⟩
/-- what is in flight stays with the frame -/
theorem ST.push {d : D} {v : V} (h : ST K g B en (.v d :: rs) σ (v :: vs) H) : ST K g (B.add [d] [v]) en rs σ vs H := by
  obtain ⟨⟨Z, O, O1, O2, e, t, s1, s2, q, p⟩, hl⟩ := h
  have hl' : rs.length = vs.length := by simpa using hl
  exact ⟨⟨Z, O, O1, O2, e, RepT.sink (xs := rs) (us := vs) hl' t, s1, s2, q.re rfl rfl rfl, p⟩, hl'⟩
theorem ST.add0 (h : ST K g B en rs σ vs H) : ST K g (B.add [] []) en rs σ vs H := by
  obtain ⟨⟨Z, O, O1, O2, e, t, s1, s2, q, p⟩, hl⟩ := h
  exact ⟨⟨Z, O, O1, O2, e, t, s1, s2, q.re rfl rfl rfl, p⟩, hl⟩
theorem ST.pop {tc : List D} {vc : List V} (h : ST K g (B.add tc vc) en rs σ vs H) (hc : tc.length = vc.length) : ST K g B en rs σ vs H := by
  obtain ⟨⟨Z, O, O1, O2, e, t, s1, s2, q, p⟩, hl⟩ := h
  have t' : RepT K g Z H σ (rs ++ (tc.map R.v ++ B.ts.map R.v)) (vs ++ (vc ++ B.tv)) O2 := by
    have z := t
    unfold Bs.add at z
    rw [List.map_append] at z
    exact z
  exact ⟨⟨Z, O, O1, O2, e, t'.mid hl (by rw [List.length_map]; exact hc), s1, s2, q.re rfl rfl rfl, p⟩, hl⟩
theorem XL.add {G : Gb} {W : WX} {Xp : Xp} {tc : List D} {vc : List V} (h : XL K g G B W Xp) (hc : tc.length = vc.length) : XL K g G (B.add tc vc) W Xp := by
  intro c fs en σ H cls d x e
  obtain ⟨vs, ns, fV, ⟨Z, O, O1, O2, a1, a2, a3, a4, a5, a6⟩, b⟩ := e
  have hl := b.1
  have t' : RepT K g Z H σ (fs.map R.v ++ (tc.map R.v ++ B.ts.map R.v)) (vs ++ (vc ++ B.tv)) O2 := by
    have z := a2
    unfold Bs.add at z
    rw [List.map_append] at z
    exact z
  exact h c fs en σ H cls d x ⟨vs, ns, fV, ⟨Z, O, O1, O2, a1, t'.mid (by rw [List.length_map]; exact hl) (by rw [List.length_map]; exact hc), a3, a4, a5.re rfl rfl rfl, a6⟩, b⟩
/-! ### what is walked over -/
/-- J tells ds, as long as tc stands -/
def JOk (K : PySem.W.Frag) (g : Str → Addr) (tc : List D) (vc : List V) (J : It) (ds : List D) : Prop :=
  ∀ Z H, RepL K g Z H tc vc AS.no → ∀ i, (i < ds.length → J.go i H) ∧ (ds.length ≤ i → J.stop i H) ∧ ∀ x H' d, ds[i]? = some d → J.yld i H x H' → H' = H ∧ Rep K g Z H d x AS.no
def InB (B : Bs) (tc : List D) (vc : List V) : Prop := ∃ t1 t2 w1 w2, B.ts = t1 ++ (tc ++ t2) ∧ B.tv = w1 ++ (vc ++ w2) ∧ t1.length = w1.length ∧ tc.length = vc.length
theorem InB.add {tc : List D} {vc : List V} (h : tc.length = vc.length) : InB (B.add tc vc) tc vc := ⟨[], B.ts, [], B.tv, rfl, rfl, rfl, h⟩
theorem vDV : ∀ {rs : List R} {vs : List V}, rs.length = vs.length → (vD rs).length = (vV rs vs).length
  | [], [], _ => rfl
  | [], _ :: _, h => by cases h
  | _ :: _, [], h => by cases h
  | .v _ :: rs, _ :: vs, h => by
    rw [vD, vV, List.length_cons, List.length_cons, vDV (by simpa using h)]
  | .s _ :: rs, _ :: vs, h => by
    rw [vD, vV, vDV (by simpa using h)]
theorem InB.blk {tc : List D} {vc : List V} (h : InB B tc vc) (hl : rs.length = vs.length) : InB (B.blk rs vs) tc vc := by
  obtain ⟨t1, t2, w1, w2, e1, e2, e3, e4⟩ := h
  refine ⟨vD rs ++ t1, t2, vV rs vs ++ w1, w2, ?_, ?_, ?_, e4⟩
  · show vD rs ++ B.ts = _
    rw [e1, List.append_assoc]
  · show vV rs vs ++ B.tv = _
    rw [e2, List.append_assoc]
  · rw [List.length_append, List.length_append, vDV hl, e3]
theorem ST.turn {tc : List D} {vc : List V} {J : It} {ds : List D} (h : ST K g B en rs σ vs H) (hi : InB B tc vc) (hf : fzs tc = true) (hJ : JOk K g tc vc J ds) (i : Nat) :
    (i < ds.length → J.go i H) ∧ (ds.length ≤ i → J.stop i H) ∧ ∀ x H' d, ds[i]? = some d → J.yld i H x H' → H' = H ∧ ST K g B en (.v d :: rs) σ (x :: vs) H := by
  obtain ⟨t1, t2, w1, w2, e1, e2, e3, e4⟩ := hi
  obtain ⟨⟨Z, O, O1, O2, e, t, s1, s2, q, p⟩, hl⟩ := h
  have t' : RepT K g Z H σ ([] ++ ((rs ++ t1.map R.v) ++ (tc.map R.v ++ t2.map R.v))) ([] ++ ((vs ++ w1) ++ (vc ++ w2))) O2 := by
    have z := t
    rw [e1, e2, List.map_append, List.map_append] at z
    simpa only [List.nil_append, List.append_assoc] using z
  have t2' := RepT.mid (xs := []) (vs := []) t' rfl (by rw [List.length_append, List.length_append, List.length_map, hl, e3])
  obtain ⟨A, C, r, _⟩ := RepT.vals (by simpa only [List.nil_append] using t2') e4
  obtain ⟨j1, j2, j3⟩ := hJ Z H (r.none hf) i
  refine ⟨j1, j2, fun x H' d hd hy => ?_⟩
  obtain ⟨k1, k2⟩ := j3 x H' d hd hy
  exact ⟨k1, ⟨Z, O, O1, O2, e, .v (O1 := AS.no) (fun _ z => z.elim) (fun _ z => ⟨z, id⟩) k2 t, s1, s2, q, p⟩, by rw [List.length_cons, List.length_cons, hl]⟩
theorem jok_rg (lo : Int) (n : Nat) : JOk K g [] [] (Itr lo n) ((List.range n).map fun (i : Nat) => D.int (lo + i)) := by
  intro Z H _ i
  rw [List.length_map, List.length_range]
  refine ⟨id, id, fun x H' d hd hy => ⟨hy.1, ?_⟩⟩
  obtain ⟨j, hj, rfl⟩ := (by simpa using hd : ∃ j, (List.range n)[i]? = some j ∧ D.int (lo + j) = d)
  obtain ⟨_, e⟩ := List.getElem?_eq_some_iff.mp hj
  rw [List.getElem_range] at e
  subst e
  rw [hy.2]
  exact .int _
theorem RepL.one {c : D} {v : V} (r : RepL K g Z H [c] [v] AS.no) : Rep K g Z H c v AS.no := by
  cases r with
  | cons s1 s2 r t => exact r.up s1
theorem Rep.seq0 {c : D} {v : V} {xs : List D} (r : Rep K g Z H c v AS.no) (hx : itms c = some xs) (hf : fzs xs = true) : ∃ a us, v = .ref a ∧ xs.length = us.length ∧ Seq K H c a us ∧ RepL K g Z H xs us AS.no := by
  obtain ⟨a, us, O', e1, e2, e3, r'⟩ := r.seq hx
  exact ⟨a, us, e1, e2, e3, r'.none hf⟩
theorem Seq.L {c : D} {a : Addr} {us : List V} (s : Seq K H c a us) (h : isLst c = true) : SqL K H a us := s.elim (fun z => .inl z.2) fun z => by rw [h] at z; cases z.1
theorem Seq.T {c : D} {a : Addr} {us : List V} (s : Seq K H c a us) (h : isLst c = false) : SqT K H a us := s.elim (fun z => by rw [h] at z; cases z.1) fun z => z.2
theorem jok_seq {c : D} {xs : List D} {a : Addr} (hx : itms c = some xs) (hf : fzs xs = true) : JOk K g [c] [.ref a] (if isLst c = true then Itl K a else Itt K a) xs := by
  intro Z H r i
  obtain ⟨a', us, e, l, sq, r'⟩ := r.one.seq0 hx hf
  cases e
  have key : ∀ x d, xs[i]? = some d → us[i]? = some x → Rep K g Z H d x AS.no := fun x d h1 h2 => by
    obtain ⟨u, h3, h4⟩ := r'.get h1
    rw [h2] at h3
    cases h3
    exact h4
  have at' : ∀ {i}, i < xs.length → us[i]? = some (us[i]?.getD .non) := fun {i} h => by
    rw [List.getElem?_eq_getElem (by omega)]; rfl
  cases hL : isLst c with
  | true =>
    have q := sq.L hL
    rw [if_pos rfl]
    exact ⟨fun h => ⟨us, _, q, at' h⟩, fun h => ⟨us, q, by omega⟩, fun x H' d hd hy => ⟨hy.1, key x d hd (hy.2 us q)⟩⟩
  | false =>
    have q := sq.T hL
    rw [if_neg Bool.false_ne_true]
    exact ⟨fun h => ⟨us, _, q, at' h⟩, fun h => ⟨us, q, by omega⟩, fun x H' d hd hy => ⟨hy.1, key x d hd (hy.2 us q)⟩⟩
theorem jok_rev {c : D} {xs : List D} {a : Addr} (hx : itms c = some xs) (hf : fzs xs = true) : JOk K g [c] [.ref a] (if isLst c = true then Itv K a xs.length else RT.ItvT K a xs.length) xs.reverse := by
  intro Z H r i
  obtain ⟨a', us, e, l, sq, r'⟩ := r.one.seq0 hx hf
  cases e
  rw [List.length_reverse]
  have key : ∀ x d, xs.reverse[i]? = some d → us[xs.length - 1 - i]? = some x → Rep K g Z H d x AS.no := fun x d h1 h2 => by
    have hi : i < xs.length := by
      have := (List.getElem?_eq_some_iff.mp h1).1
      simpa using this
    rw [List.getElem?_reverse hi] at h1
    obtain ⟨u, h3, h4⟩ := r'.get h1
    rw [h2] at h3
    cases h3
    exact h4
  have at' : ∀ {j}, j < xs.length → us[j]? = some (us[j]?.getD .non) := fun {i} h => by
    rw [List.getElem?_eq_getElem (by omega)]; rfl
  cases hL : isLst c with
  | true =>
    have q := sq.L hL
    rw [if_pos rfl]
    exact ⟨fun h => ⟨h, us, _, q, at' (by omega)⟩, id, fun x H' d hd hy => ⟨hy.1, key x d hd (hy.2 us q)⟩⟩
  | false =>
    have q := sq.T hL
    rw [if_neg Bool.false_ne_true]
    exact ⟨fun h => ⟨h, us, _, q, at' (by omega)⟩, id, fun x H' d hd hy => ⟨hy.1, key x d hd (hy.2 us q)⟩⟩
end
theorem _root_.L2.PI.im {X : Cx} {tg e : Expr} {t t' : TI} (h : PI X tg e t) (i : ∀ σ H R, t' σ H R → t σ H R) : PI X tg e t' := ⟨fun pins s σ H R I q => h.run pins s σ H R I (i _ _ _ q)⟩
section
variable {X : Cx} {tg : Expr}
def iSeq (K : PySem.W.Frag) (te : TE) : TI := fun σ H R => te σ H fun x H1 => ∃ a, x = .ref a ∧ (((∃ xs, SqL K H1 a xs) ∧ R (Itl K a) H1) ∨ ((∃ xs, SqT K H1 a xs) ∧ R (Itt K a) H1))
theorem pi_seq {e : Expr} {te : TE} (he : PE X e te) : PI X tg e (iSeq X.K te) := by
  refine ⟨fun pins s σ H R I h => ?_⟩
  refine thn (he.run pins s σ H _ I h) fun v s1 ⟨x, H1, I1, r1, a, e1, q⟩ => ?_
  subst e1
  cases r1
  rcases q with ⟨⟨xs, hq⟩, q⟩ | ⟨⟨xs, hq⟩, q⟩
  · obtain ⟨its, rv, p, hz⟩ := I1.list hq
    refine wpAny_pyIter_list p.isList ⟨s1.heap.objs.size, [s1.heap.objs.size], _, _, H1, rfl, I1.kept (t' := s1.toks) fun b o e => Heap.get?_push_of_some _ e, turn_list a _, ⟨_, Heap.get?_push_size _ rfl, rfl, rfl⟩, fun b hb => ?_, q⟩
    cases List.mem_singleton.mp hb
    exact I1.fpOk (Nat.le_refl _) (I1.hok.fresh (Nat.le_refl _))
  · obtain ⟨its, rv, p, hz⟩ := I1.tuple hq
    refine wpAny_pyIter_tuple (show s1.heap.IsTuple a its.toArray from p) ⟨s1.heap.objs.size, [s1.heap.objs.size], _, _, H1, rfl, I1.kept (t' := s1.toks) fun b o e => Heap.get?_push_of_some _ e, turn_tuple a _, ⟨_, Heap.get?_push_size _ rfl, rfl, rfl⟩, fun b hb => ?_, q⟩
    cases List.mem_singleton.mp hb
    exact I1.fpOk (Nat.le_refl _) (I1.hok.fresh (Nat.le_refl _))
end
def tI (K : PySem.W.Frag) (g : Str → Addr) (G : Gb) (W : WX) (m : Src) : TI := fun σ H R => ∃ B en rs vs X Q0, ST K g B en rs σ vs H ∧ XL K g G B W X ∧ evSrc G m en Q0 X ∧
  ∀ ds en' J H' tc vc, Q0 ds en' → fzs tc = true → tc.length = vc.length → JOk K g tc vc J ds → ST K g (B.add tc vc) en' rs σ vs H' → R J H'
theorem itms_frz {d : D} {xs : List D} (h : itms d = some xs) : itms (frz d) = some (frzs xs) := by
  cases d <;> first | (cases h; done) | (cases h; rw [frz]; rfl)
section
variable {G : Gb} {g : Str → Addr} {k : Nat} {sc : Scope} {N : List Str} {W : WX} {X : Cx} {tg : Expr}
theorem i_it {e : Expr} {m : E} (h : PE X e (tE X.K g G W m)) : PI X tg e (tI X.K g G W (.it m)) := by
  refine (pi_seq h).im fun σ H R ⟨B, en, rs, vs, Xp, Q0, hs, hx, he, hq⟩ => ?_
  unfold evSrc at he
  refine ⟨B, en, rs, vs, Xp, _, hs, hx, he, fun d e1 v H1 ⟨xs, hxs, h1⟩ s1 => ?_⟩
  have s2 := s1.freezeT
  have hx' := itms_frz hxs
  obtain ⟨a, us, e2, l, sq, _⟩ := s2.seqF (r := .v (frz d)) rfl hx' (fzs_frzs xs)
  subst e2
  have s3 := s2.push
  have j := jok_seq (K := X.K) (g := g) (a := a) hx' (fzs_frzs xs)
  refine ⟨a, rfl, ?_⟩
  cases hL : isLst (frz d) with
  | true =>
    rw [hL, if_pos rfl] at j
    exact .inl ⟨⟨us, sq.L hL⟩, hq _ e1 _ H1 [frz d] [.ref a] h1 (by rw [fzs, fz_frz]; rfl) rfl j s3⟩
  | false =>
    rw [hL, if_neg Bool.false_ne_true] at j
    exact .inr ⟨⟨us, sq.T hL⟩, hq _ e1 _ H1 [frz d] [.ref a] h1 (by rw [fzs, fz_frz]; rfl) rfl j s3⟩
theorem i_rev (c : Ct G g k sc N W X) {e : Expr} {m : E} {p pos : Pos} (hg : gl sc "reversed" = true) (hn : nst e = true) (h : PE X e (tE X.K g G W m)) : PI X tg (.Call (.Name "reversed" p) [e] [] pos) (tI X.K g G W (.rev m)) := by
  refine (RT.pi_revA (c.gl hg) (c.ok.fre "reversed" (by decide)) h (star_of hn)).im fun σ H R ⟨B, en, rs, vs, Xp, Q0, hs, hx, he, hq⟩ => ?_
  unfold evSrc at he
  refine ⟨B, en, rs, vs, Xp, _, hs, hx, he, fun d e1 v H1 ⟨xs, hxs, h1⟩ s1 => ?_⟩
  have s2 := s1.freezeT
  have hx' := itms_frz hxs
  obtain ⟨a, us, e2, l, sq, _⟩ := s2.seqF (r := .v (frz d)) rfl hx' (fzs_frzs xs)
  subst e2
  have s3 := s2.push
  have j := jok_rev (K := X.K) (g := g) (a := a) hx' (fzs_frzs xs)
  rw [l] at j
  refine ⟨a, us, rfl, ?_⟩
  cases hL : isLst (frz d) with
  | true =>
    rw [hL, if_pos rfl] at j
    exact .inl ⟨sq.L hL, hq _ e1 _ H1 [frz d] [.ref a] h1 (by rw [fzs, fz_frz]; rfl) rfl j s3⟩
  | false =>
    rw [hL, if_neg Bool.false_ne_true] at j
    exact .inr ⟨sq.T hL, hq _ e1 _ H1 [frz d] [.ref a] h1 (by rw [fzs, fz_frz]; rfl) rfl j s3⟩
theorem RepL.int1 {Z O : AS} {K : PySem.W.Frag} {H : Hp} {b : Int} {us : List V} (r : RepL K g Z H [.int b] us O) : us = [.int b] := by
  cases r with
  | cons s1 s2 r t =>
    cases r
    cases t
    rfl
theorem RepL.int2 {Z O : AS} {K : PySem.W.Frag} {H : Hp} {a b : Int} {us : List V} (r : RepL K g Z H [.int a, .int b] us O) : us = [.int a, .int b] := by
  cases r with
  | cons s1 s2 r t =>
    cases r
    rw [RepL.int1 t]
theorem ST.valsL {K : PySem.W.Frag} {B : Bs} {en : En} {rs : List R} {σ : Sg} {vs us : List V} {H : Hp} {ds : List D} (h : ST K g B en (ds.map R.v ++ rs) σ (us ++ vs) H) (hl : ds.length = us.length) : ∃ Z O, RepL K g Z H ds us O := by
  obtain ⟨⟨Z, O, O1, O2, e, t, s1, s2, q, p⟩, _⟩ := h
  rw [List.append_assoc, List.append_assoc] at t
  obtain ⟨A, C, r, _⟩ := t.vals hl
  exact ⟨Z, A, r⟩
theorem i_rng (c : Ct G g k sc N W X) {args : List Expr} {ms : Es} {p pos : Pos} (hg : gl sc "range" = true) (hn : args.all nst = true) (hl : esLen ms = args.length) (h12 : (args.length == 1 || args.length == 2) = true) (h : PA X args (tV X.K g G W ms)) : PI X tg (.Call (.Name "range" p) args [] pos) (tI X.K g G W (.rng ms)) := by
  match args, hn, hl, h12, h with
  | [a], hn, hl, _, h =>
    rw [List.all_cons, Bool.and_eq_true] at hn
    refine (pi_range1 (c.gl hg) (c.ok.fre "range" (by decide)) h (by rw [star_of hn.1]; rfl)).im fun σ H R ⟨B, en, rs, vs, Xp, Q0, hs, hx, he, hq⟩ => ?_
    unfold evSrc at he
    refine ⟨B, en, rs, vs, Xp, _, hs, hx, he, fun ds e1 us H1 h1 l1 l2 s1 => ?_⟩
    split at h1
    · rename_i b
      obtain ⟨Z, O, r⟩ := s1.valsL l1
      cases r.int1
      refine ⟨b, rfl, h1.1.1, h1.1.2, hq _ e1 _ H1 [] [] h1.2 rfl rfl ?_ (s1.dropL l1).add0⟩
      have z := jok_rg (K := X.K) (g := g) 0 b.toNat
      unfold rgL
      rw [Int.sub_zero]
      exact z
    · rename_i a' b'
      rw [hl] at l2
      cases l2
    · exact h1.elim
  | [a, b], hn, hl, _, h =>
    rw [List.all_cons, List.all_cons, Bool.and_eq_true, Bool.and_eq_true] at hn
    refine (pi_range2 (c.gl hg) (c.ok.fre "range" (by decide)) h (by rw [star_of hn.1, star_of hn.2.1]; rfl) (by rw [star_of hn.2.1]; rfl)).im fun σ H R ⟨B, en, rs, vs, Xp, Q0, hs, hx, he, hq⟩ => ?_
    unfold evSrc at he
    refine ⟨B, en, rs, vs, Xp, _, hs, hx, he, fun ds e1 us H1 h1 l1 l2 s1 => ?_⟩
    split at h1
    · rename_i b'
      rw [hl] at l2
      cases l2
    · rename_i a' b'
      obtain ⟨Z, O, r⟩ := s1.valsL l1
      cases r.int2
      exact ⟨a', b', rfl, h1.1, hq _ e1 _ H1 [] [] h1.2 rfl rfl (jok_rg _ _) (s1.dropL l1).add0⟩
    · exact h1.elim
theorem RepL.int3 {Z O : AS} {K : PySem.W.Frag} {H : Hp} {a b c : Int} {us : List V} (r : RepL K g Z H [.int a, .int b, .int c] us O) : us = [.int a, .int b, .int c] := by
  cases r with
  | cons s1 s2 r t =>
    cases r
    rw [RepL.int2 t]
theorem jok_rgC {K : PySem.W.Frag} (lo : Int) (n : Nat) : JOk K g [] [] (Itc lo (-1) n) ((List.range n).map fun (i : Nat) => D.int (lo + i * (-1))) := by
  intro Z H _ i
  rw [List.length_map, List.length_range]
  refine ⟨id, id, fun x H' d hd hy => ⟨hy.1, ?_⟩⟩
  obtain ⟨j, hj, rfl⟩ := (by simpa using hd : ∃ j, (List.range n)[i]? = some j ∧ D.int (lo + j * (-1)) = d)
  obtain ⟨_, e⟩ := List.getElem?_eq_some_iff.mp hj
  rw [List.getElem_range] at e
  subst e
  rw [hy.2]
  exact .int _
theorem i_rdn (c : Ct G g k sc N W X) {args : List Expr} {ms : Es} {p pos : Pos} (hg : gl sc "range" = true) (hn : args.all nst = true) (hl : esLen ms = args.length) (h3 : (args.length == 3) = true) (h : PA X args (tV X.K g G W ms)) : PI X tg (.Call (.Name "range" p) args [] pos) (tI X.K g G W (.rdn ms)) := by
  match args, hn, hl, h3, h with
  | [a, b, c'], hn, hl, _, h =>
    rw [List.all_cons, Bool.and_eq_true] at hn
    refine (pi_range3 (c.gl hg) (c.ok.fre "range" (by decide)) h (star_of hn.1) (stars_of hn.2)).im fun σ H R ⟨B, en, rs, vs, Xp, Q0, hs, hx, he, hq⟩ => ?_
    unfold evSrc at he
    refine ⟨B, en, rs, vs, Xp, _, hs, hx, he, fun ds e1 us H1 h1 l1 l2 s1 => ?_⟩
    split at h1
    · rename_i a' b' c1
      obtain ⟨⟨rfl, k1, k2, k3, k4⟩, h2⟩ := h1
      obtain ⟨Z, O, r⟩ := s1.valsL l1
      cases r.int3
      exact ⟨a', b', -1, (a' - b').toNat, rfl, RgC.neg k1 k2 k3 k4, hq _ e1 _ H1 [] [] h2 rfl rfl (jok_rgC _ _) (s1.dropL l1).add0⟩
    · exact h1.elim
end
end Pf

/-! Comprehensions. -/
namespace Pf
open PySem PySem.Spec PyProof.Rows L2
section
variable {K : PySem.W.Frag} {g : Str → Addr} {B : Bs} {en : En} {rs : List R} {σ σ' : Sg} {vs : List V} {H : Hp} {Z : AS} {O : AS}
theorem wipe_at {σ : Sg} {i : Nat} : ∀ {tg : List Nat}, i ∉ tg → (wipe σ tg)[i]? = σ[i]?
  | [], _ => rfl
  | v :: tg, h => by
    have h1 : v ≠ i := fun e => h (by rw [e]; exact List.mem_cons_self)
    have h2 : i ∉ tg := fun m => h (List.mem_cons_of_mem _ m)
    unfold wipe
    rw [List.getElem?_set_ne h1]
    exact wipe_at h2
theorem wipe_in {σ : Sg} {i : Nat} : ∀ {tg : List Nat}, i ∈ tg → (wipe σ tg)[i]? = if i < σ.length then some none else none
  | v :: tg, h => by
    unfold wipe
    by_cases e : v = i
    · subst e
      rw [List.getElem?_set_self']
      by_cases hl : v < σ.length
      · rw [if_pos hl, List.getElem?_eq_getElem (by rw [wipe_length]; exact hl)]; rfl
      · rw [if_neg hl, List.getElem?_eq_none (by rw [wipe_length]; omega)]; rfl
    · rw [List.getElem?_set_ne e]
      exact wipe_in ((List.mem_cons.mp h).resolve_left fun q => e q.symm)
theorem wipe_eq {σ σ' : Sg} {tg : List Nat} (hl : σ'.length = σ.length) (h : ∀ i, i ∉ tg → σ'[i]? = σ[i]?) : wipe σ' tg = wipe σ tg := by
  refine List.ext_getElem? fun i => ?_
  by_cases hi : i ∈ tg
  · rw [wipe_in hi, wipe_in hi, hl]
  · rw [wipe_at hi, wipe_at hi, h i hi]
theorem offs_len : ∀ {tg : List Nat} {en : En}, (offs en tg).length = en.length
  | [], _ => rfl
  | i :: tg, en => by rw [offs, offs_len, List.length_set]
theorem offs_none : ∀ {tg : List Nat} {en : En} {i : Nat}, (∀ d, en[i]? ≠ some (some d)) → ∀ d, (offs en tg)[i]? ≠ some (some d)
  | [], _, _, h => h
  | j :: tg, en, i, h => by
    rw [offs]
    refine offs_none fun d => ?_
    by_cases e : j = i
    · subst e
      rw [List.getElem?_set_self']
      cases en[j]? <;> simp
    · rw [List.getElem?_set_ne e]; exact h d
theorem offs_off : ∀ {tg : List Nat} {en : En} {i : Nat}, i ∈ tg → ∀ d, (offs en tg)[i]? ≠ some (some d)
  | j :: tg, en, i, h => by
    rw [offs]
    by_cases e : j = i
    · subst e
      refine offs_none fun d => ?_
      rw [List.getElem?_set_self']
      cases en[j]? <;> simp
    · exact offs_off ((List.mem_cons.mp h).resolve_left fun q => e q.symm)
theorem RepE.offs0 : ∀ (tg : List Nat) {e0 : En} {O : AS}, RepE K g Z H e0 σ O → RepE K g Z H (offs e0 tg) σ O
  | [], _, _, r => r
  | i :: tg, _, _, r => by
    rw [offs]
    exact RepE.offs0 tg (r.off i)
theorem RepE.wipe0 {tg : List Nat} {e0 : En} {O : AS} (r : RepE K g Z H e0 σ O) : RepE K g Z H (offs e0 tg) (wipe σ tg) O :=
  (RepE.offs0 tg r).cong (wipe_length σ tg) fun i d e => wipe_at fun m => offs_off m d e
theorem RepT.only {σ σ' : Sg} {ts : List D} {tv : List V} : ∀ {rs : List R} {vs : List V} {O : AS}, rs.length = vs.length → RepT K g Z H σ (rs ++ ts.map R.v) (vs ++ tv) O → RepT K g Z H σ' ((vD rs ++ ts).map R.v) (vV rs vs ++ tv) O
  | [], [], _, _, t => RepT.any t
  | [], _ :: _, _, h, _ => by cases h
  | _ :: _, [], _, h, _ => by cases h
  | .v d :: rs, u0 :: vs, O, h, t => by
    cases t with
    | v a1 a2 r t => exact .v a1 a2 r (RepT.only (by simpa using h) t)
  | .s i :: rs, u0 :: vs, O, h, t => by
    cases t with
    | s e t => exact RepT.only (rs := rs) (vs := vs) (by simpa using h) t
theorem RepT.back {σ σ' : Sg} {ts : List D} {tv : List V} : ∀ {rs : List R} {vs : List V} {O : AS}, Sl σ rs vs → RepT K g Z H σ' ((vD rs ++ ts).map R.v) (vV rs vs ++ tv) O → RepT K g Z H σ (rs ++ ts.map R.v) (vs ++ tv) O
  | _, _, _, .nil, t => RepT.any t
  | _, _, _, .v q, t => by
    cases t with
    | v a1 a2 r t => exact .v a1 a2 r (RepT.back q t)
  | _, _, _, .s e q, t => .s e (RepT.back q t)
theorem ST.sl (h : ST K g B en rs σ vs H) : Sl σ rs vs := by
  obtain ⟨⟨Z, O, O1, O2, e, t, s1, s2, q, p⟩, hl⟩ := h
  exact t.sl hl
theorem ST.pins (h : ST K g B en rs σ vs H) : ∀ p ∈ B.pin, σ[p.1]? = some (some p.2) := by
  obtain ⟨⟨Z, O, O1, O2, e, t, s1, s2, q, p⟩, hl⟩ := h
  exact p
theorem ST.len (h : ST K g B en rs σ vs H) : en.length = σ.length := SR.len h.1
theorem ST.hl (h : ST K g B en rs σ vs H) : rs.length = vs.length := h.2
/-- into a block -/
theorem ST.blkIn (h : ST K g B en rs σ vs H) (tg : List Nat) : ST K g (B.blk rs vs) (offs en tg) [] (wipe σ tg) [] H := by
  obtain ⟨⟨Z, O, O1, O2, e, t, s1, s2, q, p⟩, hl⟩ := h
  exact ⟨⟨Z, O, O1, O2, RepE.wipe0 e, RepT.only hl t, s1, s2, q.re rfl rfl rfl, fun _ z => absurd z (by simp [Bs.blk])⟩, rfl⟩
/-- and out again -/
theorem ST.blkOut {tg : List Nat} {ts : List D} {us : List V} (s : Sl σ rs vs) (hl : rs.length = vs.length) (p : ∀ p ∈ B.pin, σ[p.1]? = some (some p.2)) (hn : ∀ i ∈ tg, ∀ d, en[i]? ≠ some (some d)) (h : ST K g (B.blk rs vs) en (ts.map R.v) (wipe σ tg) us H) : ST K g B en (ts.map R.v ++ rs) σ (us ++ vs) H := by
  obtain ⟨⟨Z, O, O1, O2, e, t, s1, s2, q, _⟩, hl'⟩ := h
  rw [List.length_map] at hl'
  have t' : RepT K g Z H (wipe σ tg) (ts.map R.v ++ ((vD rs ++ B.ts).map R.v)) (us ++ (vV rs vs ++ B.tv)) O2 := t
  obtain ⟨A, C, r, t2, b1, b2⟩ := t'.vals hl'
  refine ⟨⟨Z, O, O1, O2, e.cong (wipe_length σ tg).symm fun i d e => (wipe_at fun m => hn i m d e).symm, ?_, s1, s2, q.re rfl rfl rfl, p⟩, by rw [List.length_append, List.length_append, List.length_map, hl', hl]⟩
  rw [List.append_assoc, List.append_assoc]
  exact RepT.ofL r (RepT.back s t2) b1 b2
/-- the names may hold anything where nothing is known -/
theorem ST.wipe2 {tg : List Nat} {ts : List D} (hp : B.pin = []) (h : ST K g B en (ts.map R.v) σ vs H) : ST K g B (offs en tg) (ts.map R.v) (wipe σ tg) vs H := by
  obtain ⟨⟨Z, O, O1, O2, e, t, s1, s2, q, p⟩, hl⟩ := h
  refine ⟨⟨Z, O, O1, O2, RepE.wipe0 e, ?_, s1, s2, q, fun p z => by rw [hp] at z; cases z⟩, hl⟩
  rw [← List.map_append] at t ⊢
  exact RepT.any t
/-- onto the list that is being built -/
theorem ST.app1 {d : D} {v : V} {acc : List D} {a : Addr} (h : ST K g B en (.v d :: .v (.lst true acc) :: rs) σ (v :: .ref a :: vs) H) :
    ∃ ws, H a = some (.lst ws) ∧ acc.length = ws.length ∧ ST K g B en (.v (.lst true (acc ++ [d])) :: rs) σ (.ref a :: vs) (upd H a (.lst (ws ++ [v]))) := by
  obtain ⟨⟨Z, O, O1, O2, e, t, s1, s2, q, p⟩, hl⟩ := h
  cases t with
  | @v _ A C _ _ _ _ a1 a2 r t =>
    cases t with
    | @v _ A' C' _ _ _ _ b1 b2 r' t =>
      cases r' with
      | @lstO _ A'' _ _ ws ea oa sa ra =>
        have oA : O a := (s2 a (a2 a (b1 a oa)).1).1
        have n1 : ¬ O1 a := (s2 a (a2 a (b1 a oa)).1).2
        have nA : ¬ A a := (a2 a (b1 a oa)).2
        have nC : ¬ C' a := fun z => (b2 a z).2 oa
        have r2 : RepL K g Z H (acc ++ [d]) (ws ++ [v]) (fun b => A'' b ∨ A b) :=
          ra.app (RepL.cons (O1 := A) (O2 := AS.no) (O := A) (fun _ z => z) (fun _ z => z.elim) r .nil) (fun b z => .inl z) fun b z => ⟨.inr z, fun y => (a2 b (b1 b (sa b y).1)).2 z⟩
        have r3 := r2.keep (fun _ z => z) (q.keep (x := .lst (ws ++ [v])) oA fun z => z.elim (fun z => (sa a z).2 rfl) nA)
        refine ⟨ws, ea, ra.length, ⟨Z, O, O1, O2, e.keep (fun _ z => z) (q.keep (x := .lst (ws ++ [v])) oA n1), .v (O1 := fun b => A' b ∨ A b) (O2 := C') (fun b z => z.elim (fun z => (a2 b (b1 b z)).1) (a1 b)) (fun b z => ⟨(a2 b (b2 b z).1).1, fun y => y.elim (b2 b z).2 (a2 b (b2 b z).1).2⟩)
          (.lstO (O' := fun b => A'' b ∨ A b) upd_same (.inl oa) (fun b z => z.elim (fun z => ⟨.inl (sa b z).1, (sa b z).2⟩) fun z => ⟨.inr z, fun y => nA (y ▸ z)⟩) r3) (t.keep (fun _ z => z) (q.keep (x := .lst (ws ++ [v])) oA nC)), s1, s2, q.mut oA rfl, p⟩, by simpa using hl⟩
/-! ### targets -/
theorem ST.set1 {i : Nat} {d : D} {v : V} {ts : List D} (h : ST K g B en (.v d :: ts.map R.v) σ (v :: vs) H) (hi : i < σ.length) (hp : ∀ p ∈ B.pin, p.1 ≠ i) : ST K g B (en.set i (some d)) (ts.map R.v) (σ.set i (some v)) vs H := by
  obtain ⟨h, hl⟩ := h
  rw [List.cons_append, ← List.map_append] at h
  refine ⟨?_, by simpa using hl⟩
  rw [← List.map_append]
  exact SR.asg h hi hp
theorem ST.untup {ds : List D} {v : V} (h : ST K g B en (.v (.tup ds) :: rs) σ (v :: vs) H) : ∃ a us, v = .ref a ∧ SqT K H a us ∧ ds.length = us.length ∧ ST K g B en (ds.map R.v ++ rs) σ (us ++ vs) H := by
  obtain ⟨⟨Z, O, O1, O2, e, t, s1, s2, q, p⟩, hl⟩ := h
  cases t with
  | v a1 a2 r t =>
    cases r with
    | tup ee r =>
      refine ⟨_, _, rfl, ee, r.length, ⟨Z, O, O1, O2, e, ?_, s1, s2, q, p⟩, ?_⟩
      · rw [List.append_assoc, List.append_assoc]
        exact RepT.ofL r t a1 a2
      · have := r.length
        simp only [List.length_append, List.length_map, List.length_cons] at hl ⊢
        omega
end
def setV : Sg → List Nat → List V → Sg
  | σ, i :: is, v :: vs => setV (σ.set i (some v)) is vs
  | σ, _, _ => σ
section
variable {K : PySem.W.Frag} {g : Str → Addr} {B : Bs} {en : En} {rs : List R} {σ σ' : Sg} {vs : List V} {H : Hp} {Z : AS} {O : AS}
theorem setV_len : ∀ {is : List Nat} {us : List V} {σ : Sg}, (setV σ is us).length = σ.length
  | [], _, _ => rfl
  | _ :: _, [], _ => rfl
  | i :: is, u :: us, σ => by rw [setV, setV_len, List.length_set]
theorem setV_at {j : Nat} : ∀ {is : List Nat} {us : List V} {σ : Sg}, j ∉ is → (setV σ is us)[j]? = σ[j]?
  | [], _, _, _ => rfl
  | _ :: _, [], _, _ => rfl
  | i :: is, u :: us, σ, h => by
    rw [setV, setV_at fun m => h (List.mem_cons_of_mem _ m), List.getElem?_set_ne fun e => h (by rw [e]; exact List.mem_cons_self)]
theorem ST.sets {ts : List D} : ∀ {is : List Nat} {ds : List D} {us : List V} {en en' : En} {σ : Sg}, ST K g B en (ds.map R.v ++ ts.map R.v) σ (us ++ vs) H → ds.length = us.length → setN en is ds = some en' → (∀ i ∈ is, i < σ.length ∧ ∀ p ∈ B.pin, p.1 ≠ i) →
    is.length = us.length ∧ ST K g B en' (ts.map R.v) (setV σ is us) vs H
  | [], [], [], en, en', σ, h, _, hs, _ => by
    have hs' : some en = some en' := by rw [← hs]; unfold setN; rfl
    cases hs'
    exact ⟨rfl, h⟩
  | [], _ :: _, _, _, _, _, _, _, hs, _ => by simp [setN] at hs
  | _ :: _, [], _, _, _, _, _, _, hs, _ => by simp [setN] at hs
  | _, [], _ :: _, _, _, _, _, hl, _, _ => by cases hl
  | _, _ :: _, [], _, _, _, _, hl, _, _ => by cases hl
  | i :: is, d :: ds, u :: us, en, en', σ, h, hl, hs, hi => by
    have hs' : setN (en.set i (some d)) is ds = some en' := by rw [← hs]; rw [setN]
    have h1 := hi i List.mem_cons_self
    have h' : ST K g B en (.v d :: (ds ++ ts).map R.v) σ (u :: (us ++ vs)) H := by
      rw [List.map_append]
      exact h
    have h2 := h'.set1 h1.1 h1.2
    rw [List.map_append] at h2
    obtain ⟨l, q⟩ := ST.sets h2 (by simpa using hl) hs' fun j hj => by
      rw [List.length_set]
      exact hi j (List.mem_cons_of_mem _ hj)
    exact ⟨by rw [List.length_cons, List.length_cons, l], q⟩
end
/-- a target's reading -/
def tG (K : PySem.W.Frag) (g : Str → Addr) (tg : List Nat) : TG := fun v σ H Q => ∃ (B : Bs) (en : En) (ts : List D) (vs : List V) (d : D) (Q0 : En → Prop), ST K g B en (.v d :: ts.map R.v) σ (v :: vs) H ∧ (∀ i ∈ tg, i < σ.length ∧ ∀ p ∈ B.pin, p.1 ≠ i) ∧ bindW tg d en Q0 ∧
  ∀ en' σ', Q0 en' → σ'.length = σ.length → (∀ j, j ∉ tg → σ'[j]? = σ[j]?) → ST K g B en' (ts.map R.v) σ' vs H → Q σ' H
theorem _root_.L2.PG.im {X : Cx} {e : Expr} {t t' : TG} (h : PG X e t) (i : ∀ v σ H Q, t' v σ H Q → t v σ H Q) : PG X e t' := ⟨fun pins s σ H v u Q I r q => h.run pins s σ H v u Q I r (i _ _ _ _ q)⟩
def isNm : Expr → Bool
  | .Name _ _ => true
  | _ => false
theorem aeach_of {env : Env} : ∀ {es : List Expr}, es.all isNm = true → (assignEach es env).length = es.length ∧ (assignEach es env).findIdx? (·.1) = none
  | [], _ => ⟨rfl, rfl⟩
  | e :: es, h => by
    rw [List.all_cons, Bool.and_eq_true] at h
    obtain ⟨h1, h2⟩ := aeach_of (env := env) h.2
    cases e with
    | Name x p =>
      refine ⟨?_, ?_⟩
      · show (assignEach es env).length + 1 = _
        rw [h1]; rfl
      · show List.findIdx? (·.1) ((false, _) :: assignEach es env) = none
        rw [List.findIdx?_cons]
        simp [h2]
    | _ => cases h.1
theorem chkTg_nm {N : List Str} {names : List (Str × NameKind)} : ∀ {tg : List Nat} {es : List Expr}, chkTg N names tg es = true → es.all isNm = true ∧ tg.length = es.length
  | [], [], _ => ⟨rfl, rfl⟩
  | [], _ :: _, h => by cases h
  | _ :: _, [], h => by cases h
  | i :: is, e :: es, h => by
    cases e with
    | Name x p =>
      obtain ⟨_, h2⟩ := and2 h
      obtain ⟨h3, h4⟩ := chkTg_nm h2
      exact ⟨h3, by rw [List.length_cons, List.length_cons, h4]⟩
    | _ => cases h
section
variable {X : Cx} {N : List Str} {names : List (Str × NameKind)}
def gSets : List Nat → TGs
  | [] => gNil
  | i :: is => gCons (gName i) (gSets is)
theorem gSets_ok : ∀ {is : List Nat} {us : List V} {σ : Sg} {H : Hp} {Q : Sg → Hp → Prop}, is.length = us.length → Q (setV σ is us) H → gSets is us σ H Q
  | [], [], _, _, _, _, q => ⟨rfl, q⟩
  | [], _ :: _, _, _, _, h, _ => by cases h
  | _ :: _, [], _, _, _, h, _ => by cases h
  | i :: is, u :: us, σ, H, Q, h, q => ⟨u, us, rfl, gSets_ok (by simpa using h) q⟩
theorem pgs_of (hN : X.N = N) (nd : N.Nodup) (hk : ∀ x, (names.lookup x = some .local ∨ names.lookup x = some .cell) → Loc X.env.scope x ∧ (X.fn x = true ∨ X.env.scope.names.lookup x = some .local)) :
    ∀ {tg : List Nat} {es : List Expr}, chkTg N names tg es = true → PGs X es (gSets tg)
  | [], [], _ => pgs_nil
  | [], _ :: _, h => by cases h
  | _ :: _, [], h => by cases h
  | i :: is, e :: es, h => by
    cases e with
    | Name x p =>
      obtain ⟨h1, h2⟩ := and2 h
      obtain ⟨h3, h4⟩ := and2 h1
      rw [Bool.or_eq_true] at h4
      obtain ⟨h5, h6⟩ := hk x (h4.imp of_decide_eq_true of_decide_eq_true)
      exact pgs_cons (pg_name (by rw [hN]; exact nd) (by rw [hN]; exact of_decide_eq_true h3) h5 h6) (pgs_of hN nd hk h2) rfl
    | _ => cases h
theorem g_tg (hc : X.calm = true) (hN : X.N = N) (nd : N.Nodup) (hk : ∀ x, (names.lookup x = some .local ∨ names.lookup x = some .cell) → Loc X.env.scope x ∧ (X.fn x = true ∨ X.env.scope.names.lookup x = some .local))
    {tg : List Nat} {t : Expr} (h : chkTgt N names tg t = true) : PG X t (tG X.K g tg) := by
  match tg, t, h with
  | [i], .Name x p, h =>
    obtain ⟨h3, h4⟩ := and2 h
    rw [Bool.or_eq_true] at h4
    obtain ⟨h5, h6⟩ := hk x (h4.imp of_decide_eq_true of_decide_eq_true)
    refine (pg_name (by rw [hN]; exact nd) (by rw [hN]; exact of_decide_eq_true h3) h5 h6).im fun v σ H Q ⟨B, en, ts, vs, d, Q0, hs, hi, hb, hq⟩ => ?_
    obtain ⟨k1, k2⟩ := hi i List.mem_cons_self
    exact hq _ _ hb (List.length_set ..) (fun j hj => List.getElem?_set_ne fun e => hj (by rw [e]; exact List.mem_cons_self)) (hs.set1 k1 k2)
  | i :: j :: is, .Tuple es kk p, h =>
    obtain ⟨n1, n2⟩ := chkTg_nm h
    obtain ⟨a1, a2⟩ := aeach_of (env := X.env) n1
    refine (pg_tup (n := es.length) hc (pgs_of hN nd hk h) a1 a2).im fun v σ H Q ⟨B, en, ts, vs, d, Q0, hs, hi, hb, hq⟩ => ?_
    obtain ⟨ds, en', rfl, e2, hb⟩ := hb
    obtain ⟨a, us, rfl, sq, l, s2⟩ := hs.untup
    obtain ⟨l2, s3⟩ := s2.sets l e2 hi
    exact ⟨a, us, rfl, sq, by rw [← l2, n2], gSets_ok l2 (hq _ _ hb setV_len (fun j hj => setV_at hj) s3)⟩
end
end Pf

/-! Comprehensions, kept. -/
namespace Pf
open PySem PySem.Spec PyProof.Rows L2
abbrev WF : WX := fun _ _ _ _ => False
theorem _root_.L2.PE.imL {X : Cx} {e : Expr} {t t' : TE} (h : PE X e t) (i : ∀ σ H Q, σ.length = X.N.length → t' σ H Q → t σ H Q) : PE X e t' := ⟨fun pins s σ H Q I q => h.run pins s σ H Q I (i _ _ _ I.len q)⟩
theorem _root_.L2.PTs.im {X : Cx} {e : List Expr} {t t' : TT} (h : PTs X e t) (i : ∀ σ H Q, t' σ H Q → t σ H Q) : PTs X e t' := ⟨fun pins s σ H Q I q => h.run pins s σ H Q I (i _ _ _ q)⟩
def tTs (K : PySem.W.Frag) (g : Str → Addr) (G : Gb) (cs : Es) : TT := fun σ H Q => ∃ B en rs vs X, ∃ Q0 : Bool → En → Prop, ST K g B en rs σ vs H ∧ evTs G cs en Q0 X ∧ ∀ b en' H', Q0 b en' → ST K g B en' rs σ vs H' → Q b H'
section
variable {G : Gb} {g : Str → Addr} {k : Nat} {sc : Scope} {N : List Str} {W : WX} {X : Cx}
theorem XL.f {K : PySem.W.Frag} {B : Bs} {W : WX} : XL K g G B W (fun _ _ _ => False) := fun _ _ _ _ _ _ _ h _ => h.elim
theorem Ct.blk (c : Ct G g k sc N W X) {scope : Scope} (s : Shared) (H : Hp) (C : Addr) (cl : List (Str × Addr)) (fp : List Addr) : Ct G g k (relS scope sc) N WF (X.blk s H scope (compEnvC scope cl C X.env) fp) where
  hN := c.hN
  nd := c.nd
  sc := by
    show relS scope X.env.scope = _
    rw [c.sc]
  room := c.room
  hu := c.hu
  tk := fun u s' ⟨_, _, _, _, _, _, _, _, _, _, _, _, _, _, _, _, w⟩ => w.elim
  ok := c.ok
theorem blk_k {scope : Scope} {X : Cx} (s : Shared) (H : Hp) (C : Addr) (cl : List (Str × Addr)) (fp : List Addr) (x : Str) (h : scope.names.lookup x = some .local ∨ scope.names.lookup x = some .cell) :
    Loc (X.blk s H scope (compEnvC scope cl C X.env) fp).env.scope x ∧ ((X.blk s H scope (compEnvC scope cl C X.env) fp).fn x = true ∨ (X.blk s H scope (compEnvC scope cl C X.env) fp).env.scope.names.lookup x = some .local) := by
  rcases h with h | h
  · have q : (relS scope X.env.scope).names.lookup x = some .local := lookup_relS_keep (by intro z; cases z) h
    exact ⟨.inl q, .inr q⟩
  · have q : (relS scope X.env.scope).names.lookup x = some .cell := lookup_relS_keep (by intro z; cases z) h
    refine ⟨.inr q, .inl ?_⟩
    show (scope.names.lookup x == some .cell) = true
    rw [h]
    rfl
theorem ts_nil : PTs X [] (tTs X.K g G .nil) := by
  refine pts_nil.im fun σ H Q ⟨B, en, rs, vs, Xp, Q0, hs, he, hq⟩ => ?_
  unfold evTs at he
  exact hq _ _ _ he hs
theorem ts_one {e : Expr} {m : E} (h : PT X e (tT X.K g G WF m)) : PTs X [e] (tTs X.K g G (.cons m .nil)) := by
  refine (pts_one h).im fun σ H Q ⟨B, en, rs, vs, Xp, Q0, hs, he, hq⟩ => ?_
  unfold evTs at he
  exact ⟨B, en, rs, vs, _, Q0, hs, XL.f, he, hq⟩
theorem ownOf_ix (tg : List Nat) : (ownOf N tg).map (·.2) = tg := by
  unfold ownOf
  rw [List.map_map]
  exact List.map_id tg
theorem own_lt {tg : List Nat} {sc scope : Scope} (ok : BlkOk N sc scope (ownOf N tg)) : ∀ i ∈ tg, i < N.length := fun i hi => by
  have := ok.ix ((N[i]?).getD Str.empty, i) (List.mem_map.mpr ⟨i, hi, rfl⟩)
  exact (List.getElem?_eq_some_iff.mp this).1
theorem lc_im (c : Ct G g k sc N W X) {scope : Scope} {tg : List Nat} {src : Src} {cs : Es} {elt : E} (hb : blkC N sc scope (ownOf N tg) = true) (σ : L2.St) (H : Hp) (Q : VK) (hlen : σ.length = X.N.length) (h : tE X.K g G W (.lc tg src cs elt) σ H Q) :
    tLc (tI X.K g G W src) (tG X.K g tg) (tTs X.K g G cs) (tE X.K g G WF elt) ((ownOf N tg).map (·.2)) σ H Q := by
  have ok0 : BlkOk N sc scope (ownOf N tg) := blkOk_by hb
  obtain ⟨B, en, rs, vs, Xp, Q0, hs, hx, hev, hq⟩ := h
  unfold ev at hev
  refine ⟨B, en, rs, vs, Xp, _, hs, hx, hev, fun ds e1 J H1 tc vc h1 hf hl hJ s1 D hD => ?_⟩
  rw [ownOf_ix]
  have hin : InB ((B.add tc vc).blk rs vs) tc vc := (InB.add hl).blk s1.hl
  have s3 : ST X.K g ((B.add tc vc).blk rs vs) (offs e1 tg) [.v (.lst true [])] (wipe σ tg) [.ref D] (upd H1 D (.lst [])) := (s1.blkIn tg).lst (ds := []) (us := []) rfl hD
  refine ⟨fun i m H => m = ds.length - i ∧ i ≤ ds.length ∧ ∃ en acc, (∀ j ∈ tg, ∀ d, en[j]? ≠ some (some d)) ∧ ST X.K g ((B.add tc vc).blk rs vs) en [.v (.lst true acc)] (wipe σ tg) [.ref D] H ∧ lcW tg tg (fun e2 K => evTs G cs e2 K Xp) (fun e2 K => ev G elt e2 K (fun _ _ _ => False)) (ds.drop i) en acc Q0,
    ⟨ds.length, by simp, Nat.zero_le _, offs e1 tg, [], fun j hj => offs_off hj, s3, h1⟩, ?_⟩
  rintro i m H2 ⟨rfl, hi, en2, acc, hn, s4, hw⟩
  obtain ⟨j1, j2, j3⟩ := s4.turn hin hf hJ i
  by_cases hlt : i < ds.length
  · rw [List.drop_eq_getElem_cons hlt, lcW] at hw
    refine .inr ⟨j1 hlt, fun H => ∃ en acc, (∀ j ∈ tg, ∀ d, en[j]? ≠ some (some d)) ∧ ST X.K g ((B.add tc vc).blk rs vs) en [.v (.lst true acc)] (wipe σ tg) [.ref D] H ∧ lcW tg tg (fun e2 K => evTs G cs e2 K Xp) (fun e2 K => ev G elt e2 K (fun _ _ _ => False)) (ds.drop (i + 1)) en acc Q0,
      fun H' ⟨en, acc, p⟩ => ⟨ds.length - (i + 1), by omega, rfl, hlt, en, acc, p⟩, fun x H' hy => ?_⟩
    obtain ⟨e0, s5⟩ := j3 x H' ds[i] (List.getElem?_eq_getElem hlt) hy
    subst e0
    refine ⟨_, en2, [.lst true acc], [.ref D], ds[i], _, s5, fun j hj => ⟨?_, fun p hp => absurd hp (by simp [Bs.blk])⟩, hw, fun e3 σ3 h3 hl3 hk3 s6 => ⟨?_, ?_⟩⟩
    · rw [wipe_length, hlen, c.hN]
      exact own_lt ok0 j hj
    · exact wipe_eq (by rw [hl3, wipe_length]) fun j hj => by rw [hk3 j hj, wipe_at hj]
    · have hw3 : wipe σ3 tg = wipe σ tg := wipe_eq (by rw [hl3, wipe_length]) fun j hj => by rw [hk3 j hj, wipe_at hj]
      refine ⟨_, e3, _, _, Xp, _, s6, h3, fun b e4 H4 h4 s7 => ?_⟩
      cases b with
      | true =>
        refine ⟨_, e4, _, _, _, _, s7, XL.f, h4, fun d e5 y H5 h5 s8 => ?_⟩
        obtain ⟨h6, h7⟩ := h5
        obtain ⟨ws, a1, a2, s9⟩ := s8.app1
        have s10 := ST.wipe2 (tg := tg) (ts := [.lst true (acc ++ [d])]) rfl s9
        rw [hw3] at s10
        exact ⟨ws, a1, by rw [sizeLine_eq]; omega, offs e5 tg, acc ++ [d], fun j hj => offs_off hj, s10, h7⟩
      | false =>
        have s10 := ST.wipe2 (tg := tg) (ts := [.lst true acc]) rfl s7
        rw [hw3] at s10
        exact ⟨offs e4 tg, acc, fun j hj => offs_off hj, s10, h4⟩
  · have e0 : i = ds.length := by omega
    subst e0
    rw [List.drop_length, lcW] at hw
    have s5 := ST.blkOut (ts := [.lst true acc]) s1.sl s1.hl s1.pins hn s4
    exact .inl ⟨j2 (Nat.le_refl _), hq _ _ _ _ hw (s5.pop hl)⟩
theorem s_lc (c : Ct G g k sc N W X) {el t it : Expr} {ifs : List Expr} {scope : Scope} {pos : Pos} {tg : List Nat} {src : Src} {cs : Es} {elt : E} (hc : X.calm = true) (hb : blkC N sc scope (ownOf N tg) = true) (hst : nset it = true)
    (hi : PI X t it (tI X.K g G W src))
    (hg : ∀ (s : Shared) (H : Hp) (C : Addr) (cl : List (Str × Addr)) (fp : List Addr), PG (X.blk s H scope (compEnvC scope cl C X.env) fp) t (tG X.K g tg))
    (ht : ∀ (s : Shared) (H : Hp) (C : Addr) (cl : List (Str × Addr)) (fp : List Addr), PTs (X.blk s H scope (compEnvC scope cl C X.env) fp) ifs (tTs X.K g G cs))
    (he : ∀ (s : Shared) (H : Hp) (C : Addr) (cl : List (Str × Addr)) (fp : List Addr), PE (X.blk s H scope (compEnvC scope cl C X.env) fp) el (tE X.K g G WF elt)) :
    PE X (.ListComp el [⟨t, it, ifs, 0⟩] scope pos) (tE X.K g G W (.lc tg src cs elt)) := by
  have ok : BlkOk X.N X.env.scope scope (ownOf N tg) := by rw [c.hN, c.sc]; exact blkOk_by hb
  exact (pe_lc hc (by rw [c.hN]; exact c.nd) hi ok hg ht he (fun x => folded_of hst x)).imL fun σ H Q hlen h => lc_im c hb σ H Q hlen h
end
end Pf

/-! Built-ins, isinstance, list(range()), methods that change a list. -/
namespace Pf
open PySem PySem.Spec PyProof.Rows L2
section
variable {G : Gb} {g : Str → Addr} {k : Nat} {sc : Scope} {N : List Str} {W : WX} {X : Cx}
/-! ### built-ins -/
theorem bf_boot (f : Bf) : bootBuiltins (Str.ofString (bfN f)) = some (bfV f) := by cases f <;> decide +kernel
theorem bf_ne (f : Bf) : Str.ofString (bfN f) ≠ "__name__" ∧ (Str.ofString (bfN f) == ("__debug__" : Str)) = false := by cases f <;> decide
theorem bf_in (f : Bf) : bfN f ∈ bnames := by cases f <;> decide
theorem s_blt (c : Ct G g k sc N W X) {f : Bf} {x : Str} {a : Expr} {args : List Expr} {p pos : Pos} {ms : Es} (hc : X.calm = true ∨ f = .len) (hx : x = Str.ofString (bfN f)) (hg : gl sc x = true) (hn : (a :: args).all nst = true) (ha : PA X (a :: args) (tA X.K g G W ms)) :
    PE X (.Call (.Name x p) (a :: args) [] pos) (tE X.K g G W (.blt f ms)) := by
  subst hx
  rw [List.all_cons, Bool.and_eq_true] at hn
  have hm := c.ok.fre _ (bf_in f)
  obtain ⟨n1, n2⟩ := bf_ne f
  have cr : CallR X (bfV f) (rBlt X.K f) := by
    rcases hc with hc | rfl
    · exact cr_blt hc c.hu f
    · exact call_len
  have key : PE X (.Call (.Name (Str.ofString (bfN f)) p) (a :: args) [] pos) (tCB (rBlt X.K f) (tA X.K g G W ms)) := by
    cases hv : bfV f with
    | builtin id => exact pe_callB (by rw [← hv]; exact cr) (c.gl hg) hm (by rw [bf_boot, hv]) ha n1 n2 (star_of hn.1) (stars_of hn.2)
    | type T => exact pe_callTy (by rw [← hv]; exact cr) (c.gl hg) hm (by rw [bf_boot, hv]) ha n1 n2 (star_of hn.1) (stars_of hn.2)
    | _ => cases f <;> cases hv
  refine key.im fun σ H Q ⟨B, en, rs, vs, Xp, Q0, hs, hx, he, hq⟩ => ?_
  unfold ev at he
  refine ⟨B, en, rs, vs, Xp, _, hs, hx, he, fun xs e1 us H1 h1 hl s1 => ?_⟩
  split at h1
  · rename_i ds hds
    exact blt_sat s1 hl hds h1 fun d v H' h2 s2 => hq _ _ _ _ h2 s2
  · exact h1.elim
/-! ### isinstance -/
def tyN : D → String
  | .non => "NoneType"
  | .bl _ => "bool"
  | .int _ => "int"
  | .str _ => "str"
  | .tup _ => "tuple"
  | _ => "list"
def isN : List String := ["int", "bool", "str", "list", "tuple"]
def isiS (s t : String) : Bool := if s = "NoneType" then false else if s = "bool" then t == "bool" || t == "int" else t == s
theorem isi_tab : ∀ s ∈ ["NoneType", "bool", "int", "str", "tuple", "list"], ∀ t ∈ isN, kitB s t = some (isiS s t) := by decide +kernel
theorem isiB_k (d : D) (h : isiT d = true) (t : String) (ht : t ∈ isN) : kitB (tyN d) t = some (isiB d t) := by
  have e : isiB d t = isiS (tyN d) t := by cases d <;> first | (cases h; done) | simp [isiB, isiS, tyN]
  rw [e]
  exact isi_tab _ (by cases d <;> simp [tyN]) t ht
theorem ty_boot : ∀ t ∈ isN, bootBuiltins (Str.ofString t) = some (.type t) ∧ Str.ofString t ≠ "__name__" ∧ (Str.ofString t == ("__debug__" : Str)) = false ∧ t ∈ bnames := by decide +kernel
theorem Rep.tyx {K : PySem.W.Frag} {Z : AS} {H : Hp} {d : D} {v : V} {O : AS} (r : Rep K g Z H d v O) (h : isiT d = true) : TyX K H v (.type (tyN d)) := by
  cases r with
  | non => exact .base .non
  | bl b => exact .base (.bl b)
  | int i => exact .base (.int i)
  | str x => exact .base (.str x)
  | tup e r =>
    rcases e with (e | ⟨o, e⟩) | ⟨o, n, its, e, q, _⟩
    · exact .base (.tup e)
    · exact .fTuple e
    · exact .kTuple e q
  | lstO e oa s r => exact .base (.lst e)
  | lstF z e r =>
    rcases e with e | ⟨o, e⟩
    · exact .base (.lst e)
    · exact .base (.frz e)
  | _ => cases h
theorem pe_tyn (c : Ct G g k sc N W X) {x : Str} {t : String} {p : Pos} (hx : x = Str.ofString t) (hg : gl sc x = true) (ht : isN.contains t = true) : PE X (.Name x p) (tC (.ty t)) := by
  subst hx
  obtain ⟨h1, h2, h3, h4⟩ := ty_boot t (by simpa using ht)
  exact pe_bltn (c.gl hg) (c.ok.fre t h4) h1 rfl h2 h3
theorem pa_tys (c : Ct G g k sc N W X) : ∀ {ts : List String} {es : List Expr}, chkTl sc ts es = true → PA X es (fun σ H Q => Q (ts.map V.ty) H) ∧ (∀ t ∈ ts, t ∈ isN) ∧ ts.length = es.length
  | [], [], _ => ⟨pa_nil, fun _ h => (by cases h), rfl⟩
  | [], _ :: _, h => by cases h
  | _ :: _, [], h => by cases h
  | t :: ts, e :: es, h => by
    cases e with
    | Name x p =>
      obtain ⟨h1, h2⟩ := and2 h
      obtain ⟨h3, h4⟩ := and2 h1
      obtain ⟨h5, h6⟩ := and2 h4
      obtain ⟨k1, k2, k3⟩ := pa_tys c h2
      refine ⟨pa_cons (pe_tyn c (of_decide_eq_true h3) h5 h6) k1 rfl, fun t' ht => ?_, by rw [List.length_cons, List.length_cons, k3]⟩
      rcases List.mem_cons.mp ht with rfl | ht
      · simpa [isN] using h6
      · exact k2 t' ht
    | _ => cases h
theorem kit_all {K : PySem.W.Frag} {d : D} (h : isiT d = true) : ∀ {ts : List String}, (∀ t ∈ ts, t ∈ isN) → PySem.W.kitAny K (.type (tyN d)) (ts.map Value.type) = some (ts.any (isiB d))
  | [], _ => rfl
  | t :: ts, hm => by
    rw [List.map_cons, List.any_cons]
    refine kitAny_cons (kit_ty (isiB_k d h t (hm t List.mem_cons_self))) (fun e => ?_) fun e => by rw [e]; rfl
    rw [e, Bool.false_or]
    exact kit_all h fun t' ht => hm t' (List.mem_cons_of_mem _ ht)
theorem pair_tys : ∀ ts : List String, Paired ClsV (ts.map V.ty) (ts.map Value.type)
  | [] => .nil
  | t :: ts => .cons (.ty t) (pair_tys ts)
theorem ST.laid {K : PySem.W.Frag} {B : Bs} {en : En} {rs : List R} {σ : Sg} {vs us : List V} {H : Hp} {p : Addr} (h : ST K g B en rs σ vs H) (hp : H p = none) : ST K g B en rs σ vs (upd H p (.tup us)) := by
  obtain ⟨⟨Z, O, O1, O2, e, t, s1, s2, q, pi⟩, hl⟩ := h
  exact ⟨⟨Z, O, O1, O2, e.keep (fun _ z => z) (keep_new hp), t.keep (fun _ z => z) (keep_new hp), s1, s2, q.new hp, pi⟩, hl⟩
theorem s_isi1 (c : Ct G g k sc N W X) {x : Str} {e t : Expr} {p pos : Pos} {m : E} {ts : List String} (hx : x = Str.ofString "isinstance") (hg : gl sc x = true) (hn : nst e = true) (ht : chkTs sc ts t = true) (h : PE X e (tR X.K g G W m)) : PE X (.Call (.Name x p) [e, t] [] pos) (tE X.K g G W (.isi m ts)) := by
  subst hx
  match ts, t, ht with
  | [tn], .Name y p2, ht =>
    obtain ⟨h3, h4⟩ := and2 ht
    obtain ⟨h5, h6⟩ := and2 h4
    have hin : tn ∈ isN := by simpa [isN] using h6
    refine (pe_callB call_isi (c.gl hg) (c.ok.fre "isinstance" (by decide)) (by decide +kernel) (pa_cons h (pa_cons (pe_tyn c (of_decide_eq_true h3) h5 h6) pa_nil rfl) (star_of hn)) (by decide) (by decide) (star_of hn) rfl).im fun σ H Q ⟨B, en, rs, vs, Xp, Q0, hs, hx, he, hq⟩ => ?_
    unfold ev at he
    refine ⟨B, en, rs, vs, Xp, _, hs, hx, he, fun r e1 v H1 h1 s1 => ?_⟩
    split at h1
    · rename_i d hd
      obtain ⟨Z, O, rp, _⟩ := s1.rep hd
      refine ⟨v, .ty tn, _, _, isiB d tn, rfl, .ty tn, rp.tyx h1.1, kit_ty (isiB_k d h1.1 tn hin), ?_⟩
      have h2 := h1.2
      rw [List.any_cons, List.any_nil, Bool.or_false] at h2
      exact hq _ _ _ _ h2 (s1.drop.flat fun Z => .bl _)
    · exact h1.elim
theorem s_isiT (c : Ct G g k sc N W X) {x : Str} {e : Expr} {es : List Expr} {kk : Nat} {p pos p2 : Pos} {m : E} {ts : List String} (hx : x = Str.ofString "isinstance") (hg : gl sc x = true) (hn : nst e = true) (hz : es.length ≤ 1000) (ht : chkTl sc ts es = true) (h : PE X e (tR X.K g G W m)) : PE X (.Call (.Name x p) [e, .Tuple es kk p2] [] pos) (tE X.K g G W (.isi m ts)) := by
  subst hx
  obtain ⟨k1, k2, k3⟩ := pa_tys c ht
  refine (pe_callB call_isiT (c.gl hg) (c.ok.fre "isinstance" (by decide)) (by decide +kernel) (pa_cons h (pa_cons (pe_tup k1) pa_nil rfl) (star_of hn)) (by decide) (by decide) (star_of hn) rfl).im fun σ H Q ⟨B, en, rs, vs, Xp, Q0, hs, hx, he, hq⟩ => ?_
  unfold ev at he
  refine ⟨B, en, rs, vs, Xp, _, hs, hx, he, fun r e1 v H1 h1 s1 => ⟨sizeL (by rw [List.length_map, k3]; omega), fun q hq' => ?_⟩⟩
  split at h1
  · rename_i d hd
    have s2 := s1.laid (us := ts.map V.ty) hq'
    obtain ⟨Z, O, rp, _⟩ := s2.rep hd
    exact ⟨v, q, ts.map V.ty, _, _, ts.any (isiB d), rfl, upd_same, pair_tys ts, rp.tyx h1.1, kit_all h1.1 k2, hq _ _ _ _ h1.2 (s2.drop.flat fun Z => .bl _)⟩
  · exact h1.elim
/-! ### len(set(..)) -/
theorem keys_card {ks ns : List Int} (hk : ks.Nodup) (hm : ∀ k, k ∈ ks ↔ k ∈ ns) : ks.length ≤ ns.length ∧ (ks.length = ns.length ↔ ns.Nodup) := by
  have le : ∀ {as bs : List Int}, as.Nodup → (∀ x ∈ as, x ∈ bs) → as.length ≤ bs.length := by
    intro as
    induction as with
    | nil => intro bs _ _; exact Nat.zero_le _
    | cons x as ih =>
      intro bs hn hs
      rw [List.nodup_cons] at hn
      have hx := hs x List.mem_cons_self
      have := ih (bs := bs.erase x) hn.2 fun y hy => (List.mem_erase_of_ne (a := y) (b := x) (fun e => hn.1 (e ▸ hy))).mpr (hs y (List.mem_cons_of_mem _ hy))
      rw [List.length_erase_of_mem hx] at this
      have hp := List.length_pos_of_mem hx
      rw [List.length_cons]
      omega
  have h1 := le hk fun x hx => (hm x).mp hx
  refine ⟨h1, fun e => ?_, fun hn => Nat.le_antisymm h1 (le hn fun x hx => (hm x).mpr hx)⟩
  have nd : ∀ {ns ks : List Int}, ks.Nodup → (∀ k, k ∈ ks ↔ k ∈ ns) → ns.length ≤ ks.length → ns.Nodup := by
    intro ns
    induction ns with
    | nil => intro _ _ _ _; exact List.nodup_nil
    | cons a ns ih =>
      intro ks hk hm hl
      have ha : a ∈ ks := (hm a).mpr List.mem_cons_self
      have hno : a ∉ ns := fun hin => by
        have := le hk (bs := ns) fun x hx => by
          rcases List.mem_cons.mp ((hm x).mp hx) with e | h
          · rw [e]; exact hin
          · exact h
        rw [List.length_cons] at hl
        omega
      refine List.nodup_cons.mpr ⟨hno, ih (ks := ks.erase a) (hk.erase a) (fun k => ?_) (by rw [List.length_erase_of_mem ha]; rw [List.length_cons] at hl; omega)⟩
      by_cases e : k = a
      · subst e
        exact ⟨fun h => absurd h (fun h => ((List.Nodup.mem_erase_iff hk).mp h).1 rfl), fun h => absurd h hno⟩
      · rw [List.mem_erase_of_ne e, hm, List.mem_cons]
        exact ⟨fun h => h.resolve_left e, .inr⟩
  exact nd hk hm (Nat.le_of_eq e.symm)
def tLenSetN (K : PySem.W.Frag) (ta : TE) : TE := fun σ H Q => ta σ H fun x H1 => ∃ (l : Addr) (ns : List Int), x = .ref l ∧ (SqL K H1 l (ns.map V.int) ∨ SqT K H1 l (ns.map V.int)) ∧ ns.length ≤ 4000 ∧ ∀ c : Nat, c ≤ ns.length → (c = ns.length ↔ ns.Nodup) → Q (.int c) H1
theorem fm_nodup (val : Nat → Int) : ∀ i, (PyProof.Rows.firstMet val i).Nodup
  | 0 => List.nodup_nil
  | i + 1 => by
    rw [PyProof.Rows.firstMet_succ]
    unfold PyProof.Rows.step_dedup
    have ih := fm_nodup val i
    split
    · exact ih
    · rename_i h
      refine List.nodup_append.mpr ⟨ih, by simp, fun a ha b hb e => h ?_⟩
      rw [List.mem_singleton] at hb
      subst e
      exact List.any_eq_true.mpr ⟨a, ha, by simp [hb]⟩
theorem fm_mem {ns : List Int} (k : Int) : k ∈ PyProof.Rows.firstMet (fun i => ns.getD i 0) ns.length ↔ k ∈ ns := by
  have h := PyProof.Rows.firstMet_any (fun i => ns.getD i 0) ns.length k
  have e : (List.range ns.length).map (fun i => ns.getD i 0) = ns := by
    refine List.ext_getElem (by simp) fun i h1 h2 => ?_
    simp [List.getD_eq_getElem?_getD, List.getElem?_eq_getElem h2]
  rw [e, Bool.eq_iff_iff, List.any_eq_true, List.any_eq_true] at h
  simpa using h
theorem pe_lenSetN {a : Expr} {ta : TE} {p p2 q pos : Pos} (hg : Gl X "len") (hm : X.mg "len" = none) (hg2 : Gl X "set") (hm2 : X.mg "set" = none) (ha : PE X a ta) (hc : X.calm = true)
    (na : starEach [a] X.env = (false, eval a X.env) :: starEach [] X.env) : PE X (.Call (.Name "len" p) [.Call (.Name "set" p2) [a] [] q] [] pos) (tLenSetN X.K ta) := by
  refine ⟨fun pins s σ H Q I h => ?_⟩
  refine Call_ (ld_blt I hg hm boot_len ?_)
  refine PyProof.Rows.callWith_builtin1 (PyProof.Rows.args_cons ?_ rfl) rfl rfl
  refine Call_ (ld_blt I hg2 hm2 boot_set ?_)
  refine PyProof.Rows.callWith_type1 (PyProof.Rows.args_cons (thn (ha.run pins s σ H _ I h) fun v s1 ⟨x, H1, I1, r1, q1⟩ => PyProof.Rows.args_nil ?_) na) na rfl
  obtain ⟨l, ns, rfl, hq, hl, q1⟩ := q1
  cases r1
  rcases hq with hq | hq
  · obtain ⟨its, r, pl, hz⟩ := I1.list hq
    have hlen : its.toArray.size = ns.length := by rw [List.size_toArray, ← r.length, List.length_map]
    refine call_set_list (I1.ok.hd hc) pl.isList (by simpa using RZ.intsAre_vals r) (by rw [hlen]; unfold scanBound; omega) fun h' tk hS hk => ?_
    refine PyProof.Rows.args_nil ?_
    rw [hlen] at hS
    obtain ⟨o, es, ep, t, ho, hex, hd, _, _, _, hf, hn⟩ := hS
    have I2 : Inv X pins σ H1 { s1 with heap := h', toks := tk } := I1.kept fun b o e => hk b o (Heap.lt_size e) e
    obtain ⟨c1, c2⟩ := keys_card (ns := ns) (fm_nodup _ _) fm_mem
    rw [← hn] at c1 c2
    exact call_len_set ho hex hd hf (by omega) ⟨.int es.size, H1, I2.tok _, ⟨_, rfl⟩, q1 es.size c1 c2⟩
  · obtain ⟨its, r, pl, hz⟩ := I1.tuple hq
    refine call_set_tupI ns (I1.ok.hd hc) pl (by simpa using RZ.intsAre_vals r) (by unfold scanBound; omega) fun h' tk c hS hc' hk => ?_
    refine PyProof.Rows.args_nil ?_
    obtain ⟨o, es, ep, t, ho, hex, hd, _, hnd, hmem, _, hf, hn, _, _⟩ := hS
    have I2 : Inv X pins σ H1 { s1 with heap := h', toks := tk } := I1.kept hk
    obtain ⟨c1, c2⟩ := keys_card (ns := ns) hnd fun k => by
      have := hmem k
      rw [decide_eq_true_eq] at this
      exact this.symm
    rw [List.length_map, Array.length_toList] at c1 c2
    exact call_len_set ho hex hd hf (by omega) ⟨.int es.size, H1, I2.tok _, ⟨_, rfl⟩, q1 es.size c1 c2⟩
theorem s_lset (c : Ct G g k sc N W X) {x y : Str} {e : Expr} {m : E} {p p2 q pos : Pos} (hc : X.calm = true) (hx : x = Str.ofString "len") (hy : y = Str.ofString "set") (hg : gl sc x = true) (hg2 : gl sc y = true) (hn : nst e = true) (h : PE X e (tR X.K g G W m)) :
    PE X (.Call (.Name x p) [.Call (.Name y p2) [e] [] q] [] pos) (tE X.K g G W (.lset m)) := by
  subst hx hy
  refine (pe_lenSetN (c.gl hg) (c.ok.fre "len" (by decide)) (c.gl hg2) (c.ok.fre "set" (by decide)) h hc (star_of hn)).im fun σ H Q ⟨B, en, rs, vs, Xp, Q0, hs, hx, he, hq⟩ => ?_
  unfold ev at he
  refine ⟨B, en, rs, vs, Xp, _, hs, hx, he, fun r e1 v H1 h1 s1 => ?_⟩
  split at h1
  · rename_i d hd
    obtain ⟨ns, hi, hl, h2⟩ := h1
    obtain ⟨Z, O, rp, _⟩ := s1.rep hd
    have fin : ∀ c : Nat, c ≤ ns.length → (c = ns.length ↔ ns.Nodup) → Q (.int c) H1 := fun c c1 c2 => hq _ _ _ _ (h2 c c1 c2) (s1.drop.flat fun Z => .int _)
    obtain ⟨a, us, O', rfl, _, hq2, rl⟩ := rp.seq hi
    rw [rl.intsV] at hq2
    exact ⟨a, ns, rfl, hq2.elim (fun z => .inl (.inl z.2)) fun z => .inr z.2, hl, fin⟩
  · exact h1.elim
/-! ### list(range(..)) -/
theorem s_lrg (c : Ct G g k sc N W X) {x y : Str} {args : List Expr} {ms : Es} {p p2 pos pos2 : Pos} (hc : X.calm = true) (hx : x = Str.ofString "list") (hy : y = Str.ofString "range") (hg : gl sc x = true) (hg2 : gl sc y = true) (hn : args.all nst = true)
    (h : (∃ a m, args = [a] ∧ ms = .cons m .nil ∧ PE X a (tE X.K g G W m)) ∨ ∃ a b m m2, args = [a, b] ∧ ms = .cons m (.cons m2 .nil) ∧ PE X a (tE X.K g G W m) ∧ PE X b (tE X.K g G W m2)) :
    PE X (.Call (.Name x p) [.Call (.Name y p2) args [] pos2] [] pos) (tE X.K g G W (.lrg ms)) := by
  subst hx hy
  have hrg : ∀ lo hi : Int, rgV lo hi = (List.range (hi - lo).toNat).map fun (i : Nat) => V.int (lo + i) := fun _ _ => rfl
  have rl : ∀ {B : Bs} {en : En} {rs : List R} {σ : Sg} {vs : List V} {H : Hp} (lo hi : Int) (q : Addr), ST X.K g B en rs σ vs H → H q = none → ST X.K g B en (.v (.lst true (rgL lo hi)) :: rs) σ (.ref q :: vs) (upd H q (.lst (rgV lo hi))) := fun {B en rs σ vs H} lo hi q s hq => by
    refine s.newF hq rfl fun Z _ _ => .lstO upd_same rfl (O' := AS.no) (fun _ z => z.elim) ?_
    unfold rgL rgV
    have e1 : (List.range (hi - lo).toNat).map (fun (i : Nat) => D.int (lo + i)) = ((List.range (hi - lo).toNat).map fun (i : Nat) => lo + (i : Int)).map D.int := by rw [List.map_map]; rfl
    have e2 : (List.range (hi - lo).toNat).map (fun (i : Nat) => V.int (lo + i)) = ((List.range (hi - lo).toNat).map fun (i : Nat) => lo + (i : Int)).map V.int := by rw [List.map_map]; rfl
    rw [e1, e2]
    exact RepL.ints
  rcases h with ⟨a, m, rfl, rfl, ha⟩ | ⟨a, b, m, m2, rfl, rfl, ha, hb⟩
  · rw [List.all_cons, Bool.and_eq_true] at hn
    refine (pe_listRg hc (c.gl hg) (c.ok.fre "list" (by decide)) (prg_1 (c.gl hg2) (c.ok.fre "range" (by decide)) ha (star_of hn.1)) rfl).im fun σ H Q ⟨B, en, rs, vs, Xp, Q0, hs, hx, he, hq⟩ => ?_
    unfold ev evs evs at he
    refine ⟨B, en, rs, vs, Xp, _, hs, hx, he, fun d e1 v H1 h1 s1 => ?_⟩
    cases d with
    | int b =>
      obtain ⟨⟨b1, b2⟩, h2⟩ := h1
      obtain ⟨Z, O, rp, _⟩ := s1.rep rfl
      cases rp
      exact ⟨b, rfl, ⟨by omega, by omega, by omega, by omega, by omega⟩, fun q hq' => hq _ _ _ _ h2 (rl 0 b q s1.drop hq')⟩
    | _ => exact h1.elim
  · rw [List.all_cons, List.all_cons, Bool.and_eq_true, Bool.and_eq_true] at hn
    refine (pe_listRg hc (c.gl hg) (c.ok.fre "list" (by decide)) (prg_2 (c.gl hg2) (c.ok.fre "range" (by decide)) ha hb (star_of hn.1) (star_of hn.2.1) (stars_of (by rw [List.all_cons, List.all_nil, hn.2.1]; rfl))) rfl).im fun σ H Q ⟨B, en, rs, vs, Xp, Q0, hs, hx, he, hq⟩ => ?_
    unfold ev evs evs evs at he
    refine ⟨B, en, rs, vs, Xp, _, hs, hx, he, fun d e1 v H1 h1 s1 => ⟨B, e1, _, _, Xp, _, s1, hx, h1, fun d2 e2 v2 H2 h2 s2 => ?_⟩⟩
    cases d with
    | int a' =>
      cases d2 with
      | int b' =>
        obtain ⟨⟨b1, b2, b3, b4, b5⟩, h2⟩ := h2
        obtain ⟨Z, O, Z', O', r1, r2⟩ := s2.rep2 rfl rfl
        cases r1
        cases r2
        exact ⟨a', b', rfl, rfl, ⟨by omega, by omega, by omega, by omega, by omega⟩, fun q hq' => hq _ _ _ _ h2 (rl a' b' q s2.drop.drop hq')⟩
      | _ => exact h2.elim
    | _ => exact h2.elim
end
end Pf

/-! Methods that change a list. -/
namespace Pf
open PySem PySem.Spec PyProof.Rows L2
def mmId : Mm → String
  | .append => "list.append"
  | .pop0 => "list.pop"
  | .pop1 => "list.pop"
  | .reverse => "list.reverse"
  | .extend => "list.extend"
  | .insert => "list.insert"
  | .remove => "list.remove"
def rMut : Mm → V → List V → Hp → VK → Prop
  | .append => rAppend
  | .pop0 => rPop
  | .pop1 => rPopAt
  | .reverse => rReverse
  | .extend => fun x vs H Q => ∃ l b xs zs, x = .ref l ∧ vs = [.ref b] ∧ H l = some (.lst xs) ∧ Rd H b (.lst zs) ∧ xs.length + zs.length ≤ sizeLine ∧ Q .non (upd H l (.lst (xs ++ zs)))
  | .insert => fun x vs H Q => ∃ (l : Addr) (xs : List V) (i : Int) (y : V), x = .ref l ∧ vs = [.int i, y] ∧ H l = some (.lst xs) ∧ xs.length < sizeLine ∧ 0 ≤ i ∧ i < 2 ^ 63 ∧ Q .non (upd H l (.lst (xs.take i.toNat ++ [y] ++ xs.drop i.toNat)))
  | .remove => fun _ _ _ _ => False
section
variable {X : Cx}
theorem lst_at {pins : List (Addr × Obj)} {σ : L2.St} {H : Hp} {s : Shared} {l : Addr} {xs : List V} (I : Inv X pins σ H s) (h : Rd H l (.lst xs)) : xs.length ≤ sizeLine ∧ ∃ (its : List Value) (n : Nat), Vals xs its ∧ xs.length = its.length ∧ s.heap.get? l = some { cls := .type "list", data := .seq its.toArray n } := by
  rcases h with h | ⟨o, h⟩
  · exact I.lstM h
  · obtain ⟨_, z, its, n, r, e⟩ := (show ObjOk X.prog X.w H s.heap l (.frz o (.lst xs)) from I.hok l _ h)
    exact ⟨z, its, n, r, r.length, e⟩
theorem mt_ext : MtR X "list.extend" (rMut .extend) := by
  intro pins s σ H x vs v us Q I rx rv h
  obtain ⟨l, b, xs, zs, rfl, rfl, hH, hB, hz, q⟩ := h
  cases rx
  obtain ⟨u, rfl, ru⟩ := rv.one
  cases ru
  obtain ⟨z, its, n, r, hl, e⟩ := I.lstM hH
  obtain ⟨z2, its2, n2, r2, hl2, e2⟩ := lst_at I hB
  have hsz : its.toArray.size + its2.toArray.size ≤ sizeLine := by rw [List.size_toArray, List.size_toArray, ← hl, ← hl2]; exact hz
  have hlong : ¬ (!its.toArray.isEmpty && Builtin.List.listTooLong (its.toArray.size + its2.toArray.size)) = true := by
    rw [notLongL hsz, Bool.and_false]
    exact Bool.false_ne_true
  refine call_meets F.slot_list_extend ⟨_, e, rfl⟩ F.entry_list_extend (F.args_list_extend_2 _ _) (AutoSeq1.list_extend_list_list_0 l its.toArray n b its2.toArray n2 hlong (by rw [List.size_toArray]; omega) (by omega)) ⟨e, e2, .non, _, I.lset (its' := its ++ its2) hH e (by simp) (r.append r2) (by rw [List.length_append]; exact hz), rfl, q⟩
theorem mm_mt : ∀ m : Mm, MtR X (mmId m) (rMut m)
  | .append => mt_append
  | .pop0 => mt_pop
  | .pop1 => mt_popAt
  | .reverse => mt_reverse
  | .extend => mt_ext
  | .insert => mt_insert
  | .remove => fun _ _ _ _ _ _ _ _ _ _ _ _ h => h.elim
theorem mm_slot : ∀ m : Mm, Slot "list" (Str.ofString (mmN m)) (mmId m)
  | .append => PySem.F.slot_list_append
  | .pop0 => PySem.F.slot_list_pop
  | .pop1 => PySem.F.slot_list_pop
  | .reverse => PySem.F.slot_list_reverse
  | .extend => PySem.F.slot_list_extend
  | .insert => PySem.F.slot_list_insert
  | .remove => PySem.F.slot_list_remove
theorem mm_ty : ∀ m : Mm, typeOf (.builtin (mmId m)) = pure (.type "method_descriptor")
  | .append => PySem.F.type_list_append
  | .pop0 => PySem.F.type_list_pop
  | .pop1 => PySem.F.type_list_pop
  | .reverse => PySem.F.type_list_reverse
  | .extend => PySem.F.type_list_extend
  | .insert => PySem.F.type_list_insert
  | .remove => PySem.F.type_list_remove
end
section
variable {K : PySem.W.Frag} {g : Str → Addr} {B : Bs} {en : En} {rs : List R} {σ : Sg} {vs : List V} {H : Hp} {Z O : AS} {Q : VK}
theorem RepL.er : ∀ {xs : List D} {us : List V} {O : AS} (j : Nat), RepL K g Z H xs us O → RepL K g Z H (xs.eraseIdx j) (us.eraseIdx j) O
  | _, _, _, _, .nil => .nil
  | _, _, _, 0, .cons s1 s2 r t => t.up fun b z => (s2 b z).1
  | _, _, _, j + 1, .cons s1 s2 r t => .cons s1 s2 r (RepL.er j t)
theorem RepL.rev {xs : List D} {us : List V} (r : RepL K g Z H xs us AS.no) {O : AS} : RepL K g Z H xs.reverse us.reverse O := by
  have hl := r.length
  refine RepL.ofNo (by rw [List.length_reverse, List.length_reverse, hl]) fun i d v h1 h2 => ?_
  have hi : i < xs.length := by simpa using (List.getElem?_eq_some_iff.mp h1).1
  rw [List.getElem?_reverse hi] at h1
  rw [List.getElem?_reverse (by omega), ← hl] at h2
  obtain ⟨u, h3, h4⟩ := r.get h1
  rw [h2] at h3
  cases h3
  exact h4
theorem RepL.dl {xs : List D} {us : List V} (r : RepL K g Z H xs us AS.no) : RepL K g Z H xs.dropLast us.dropLast AS.no := by
  have hl := r.length
  rw [List.dropLast_eq_take, List.dropLast_eq_take, hl]
  have gen : ∀ {xs : List D} {us : List V} (n : Nat), RepL K g Z H xs us AS.no → RepL K g Z H (xs.take n) (us.take n) AS.no := by
    intro xs
    induction xs with
    | nil => intro us n r; cases r; rw [List.take_nil, List.take_nil]; exact .nil
    | cons x xs ih =>
      intro us n r
      cases r with
      | cons s1 s2 r t =>
        cases n with
        | zero => exact .nil
        | succ n => exact .cons (O1 := AS.no) (O2 := AS.no) (fun _ z => z) (fun _ z => z.elim) (r.up s1) (ih n (t.up fun b z => (s2 b z).1))
  exact gen _ r
theorem RepL.dr {xs : List D} {us : List V} (n : Nat) (r : RepL K g Z H xs us AS.no) : RepL K g Z H (xs.drop n) (us.drop n) AS.no := by
  induction n generalizing xs us with
  | zero => exact r
  | succ n ih =>
    cases r with
    | nil => exact .nil
    | cons s1 s2 r t => exact ih (t.up fun b z => (s2 b z).1)
theorem RepL.tk {xs : List D} {us : List V} (n : Nat) (r : RepL K g Z H xs us AS.no) : RepL K g Z H (xs.take n) (us.take n) AS.no := by
  induction n generalizing xs us with
  | zero => exact .nil
  | succ n ih =>
    cases r with
    | nil => exact .nil
    | cons s1 s2 r t => exact .cons (O1 := AS.no) (O2 := AS.no) (fun _ z => z) (fun _ z => z.elim) (r.up s1) (ih (t.up fun b z => (s2 b z).1))
theorem ST.mutL {i : Nat} {xs ds ys : List D} {us : List V} (h : ST K g B en (ds.map R.v ++ rs) σ (us ++ vs) H) (hl : ds.length = us.length) (hi : (en[i]?).join = some (.lst true xs)) :
    ∃ a ws, σ[i]? = some (some (.ref a)) ∧ H a = some (.lst ws) ∧ xs.length = ws.length ∧ (∃ Z O, RepL K g Z H xs ws O) ∧
      ∀ (zs : List V), (∀ Z O1 O2, RepL K g Z H xs ws O1 → RepL K g Z H ds us O2 → ∀ O, (∀ b, O1 b → O b) → (∀ b, O2 b → O b ∧ ¬ O1 b) → RepL K g Z H ys zs O) → ST K g B (en.set i (some (.lst true ys))) rs σ vs (upd H a (.lst zs)) := by
  obtain ⟨h1, h2⟩ := h
  rw [List.append_assoc, List.append_assoc] at h1
  obtain ⟨a, ws, e1, e2, e3, e4, e5⟩ := SR.mutL (ys := ys) h1 hl hi
  refine ⟨a, ws, e1, e2, e3, e4, fun zs hz => ⟨e5 zs hz, ?_⟩⟩
  simp only [List.length_append, List.length_map] at h2
  omega
/-- an item of a name's own list goes in flight -/
theorem ST.take1 {i j : Nat} {d : D} {xs : List D} (h : ST K g B en rs σ vs H) (hi : (en[i]?).join = some (.lst true xs)) (hf : fzs xs = true) (hj : xs[j]? = some d) :
    ∃ a ws u, σ[i]? = some (some (.ref a)) ∧ H a = some (.lst ws) ∧ xs.length = ws.length ∧ ws[j]? = some u ∧ ST K g B en (.v d :: rs) σ (u :: vs) H := by
  obtain ⟨⟨Z, O, O1, O2, e, t, s1, s2, q, p⟩, hl⟩ := h
  obtain ⟨v, A, C, ev, r, _⟩ := e.split (join_some hi)
  cases r with
  | @lstO _ A' a _ ws ea oa sa ra =>
    obtain ⟨u, hu, ru⟩ := (ra.none hf).get hj
    exact ⟨a, ws, u, ev, ea, ra.length, hu, ⟨Z, O, O1, O2, e, .v (O1 := AS.no) (fun _ z => z.elim) (fun _ z => ⟨z, id⟩) ru t, s1, s2, q, p⟩, by simpa using hl⟩
theorem mut_sat {m : Mm} {i : Nat} {xs ds : List D} {us : List V} {v : V} {k : List D → D → Prop} (h : ST K g B en (ds.map R.v ++ rs) σ (us ++ vs) H) (hl : ds.length = us.length) (hi : (en[i]?).join = some (.lst true xs)) (hv : σ[i]? = some (some v)) (hw : mutW m xs ds k)
    (hq : ∀ ys d v H', k ys d → ST K g B (en.set i (some (.lst true ys))) (.v d :: rs) σ (v :: vs) H' → Q v H') : rMut m v us H Q := by
  unfold mutW at hw
  split at hw
  · rename_i d
    obtain ⟨a, ws, e1, e2, e3, _, e5⟩ := h.mutL (ys := xs ++ [d]) hl hi
    rw [hv] at e1
    cases e1
    match us, hl with
    | [u], _ =>
      refine ⟨a, ws, u, rfl, rfl, e2, by rw [sizeLine_eq]; omega, hq _ _ _ _ hw.2 ((e5 _ fun Z O1 O2 r1 r2 O b1 b2 => r1.app r2 b1 b2).flat fun Z => .non)⟩
  · obtain ⟨hf, d, hd, hk⟩ := hw
    match us, hl with
    | [], _ =>
      obtain ⟨a, ws, u, e1, e2, e3, e4, s⟩ := ST.take1 (rs := rs) (vs := vs) h hi hf hd
      obtain ⟨a', ws', f1, f2, _, _, f5⟩ := ST.mutL (ds := []) (us := []) (ys := xs.dropLast) s rfl hi
      rw [e1] at f1
      cases f1
      rw [hv] at e1
      cases e1
      rw [e2] at f2
      cases f2
      exact ⟨a, ws, u, rfl, rfl, e2, by rw [← e3]; exact e4, hq _ _ _ _ hk (f5 _ fun Z O1 O2 r1 r2 O b1 b2 => (r1.none hf).dl.up fun _ z => z.elim)⟩
  · rename_i z
    obtain ⟨⟨hf, hz⟩, j, d, hj, hd, hk⟩ := hw
    have h' := h
    obtain ⟨Z, O, rz⟩ := h.valsL hl
    cases rz.int1
    obtain ⟨a, ws, u, e1, e2, e3, e4, s⟩ := ST.take1 (h.dropL (xs := [.v (.int z)]) (us := [.int z]) rfl) hi hf hd
    obtain ⟨a', ws', f1, f2, _, _, f5⟩ := ST.mutL (ds := []) (us := []) (ys := xs.eraseIdx j) s rfl hi
    rw [e1] at f1
    cases f1
    rw [hv] at e1
    cases e1
    rw [e2] at f2
    cases f2
    obtain ⟨n1, n2, n3, n4⟩ := ixN_seq hj
    exact ⟨a, ws, z, j, u, rfl, rfl, e2, by omega, by omega, by rw [← e3]; exact n1, e4, hq _ _ _ _ hk (f5 _ fun Z O1 O2 r1 r2 O b1 b2 => ((r1.none hf).er j).up fun _ z => z.elim)⟩
  · match us, hl with
    | [], _ =>
      obtain ⟨a, ws, e1, e2, e3, _, e5⟩ := ST.mutL (ds := []) (us := []) (rs := rs) (vs := vs) (ys := xs.reverse) h rfl hi
      rw [hv] at e1
      cases e1
      exact ⟨a, ws, rfl, rfl, e2, hq _ _ _ _ hw.2 ((e5 _ fun Z O1 O2 r1 r2 O b1 b2 => (r1.none hw.1).rev).flat fun Z => .non)⟩
  · rename_i o ys
    obtain ⟨⟨hf, hf2, hz⟩, hk⟩ := hw
    match us, hl with
    | [u], _ =>
      obtain ⟨b, wb, rfl, l2, sq, _⟩ := ST.seqF (r := .v (.lst o ys)) (rs := rs) (v := u) (vs := vs) h rfl rfl hf2
      have rb : Rd H b (.lst wb) := sq.elim (fun z => z.2) fun z => nomatch z.1
      obtain ⟨a, ws, e1, e2, e3, _, e5⟩ := h.mutL (ys := xs ++ ys) rfl hi
      rw [hv] at e1
      cases e1
      refine ⟨a, b, ws, wb, rfl, rfl, e2, rb, sizeL (by omega), hq _ _ _ _ hk ((e5 _ fun Z O1 O2 r1 r2 O b1 b2 => ?_).flat fun Z => .non)⟩
      cases r2 with
      | cons c1 c2 r t =>
        have r0 : RepL K g Z H ys wb AS.no := by
          cases r with
          | lstO ea oa sa ra =>
            rcases rb with rb | ⟨_, rb⟩
            · rw [ea] at rb; cases rb; exact ra.none hf2
            · rw [ea] at rb; cases rb
          | lstF z ea ra =>
            rcases rb with rb | ⟨_, rb⟩ <;> rcases ea with ea | ⟨_, ea⟩ <;> (rw [ea] at rb; cases rb) <;> exact ra
        exact (r1.none hf).app r0 (fun _ z => z.elim) fun _ z => z.elim
  · rename_i z d
    obtain ⟨⟨hf, hfd, hz, z1, z2⟩, hk⟩ := hw
    match us, hl with
    | [u0, u], _ =>
      obtain ⟨a, ws, e1, e2, e3, _, e5⟩ := h.mutL (ys := xs.take z.toNat ++ [d] ++ xs.drop z.toNat) rfl hi
      rw [hv] at e1
      cases e1
      obtain ⟨Z, O, rz⟩ := h.valsL rfl
      cases rz with
      | cons c1 c2 rc tc =>
        cases rc
        refine ⟨a, ws, z, u, rfl, rfl, e2, by rw [sizeLine_eq]; omega, z1, z2, hq _ _ _ _ hk ((e5 _ fun Z O1 O2 r1 r2 O b1 b2 => ?_).flat fun Z => .non)⟩
        have r0 := r1.none hf
        cases r2 with
        | cons c1 c2 r t =>
          have t0 := t.none (by rw [fzs, hfd]; rfl)
          exact ((r0.tk _).app t0 (O := AS.no) (fun _ z => z) fun _ z => z.elim).app (r0.dr _) (fun _ z => z.elim) fun _ z => z.elim
  · exact hw.elim
end
theorem few_of {env : Env} {pos : Pos} : ∀ {es : List Expr}, es.all nst = true → (backTo pos (starEach es env)).all (fun x => !x.1) = true
  | [], _ => rfl
  | e :: es, h => by
    rw [List.all_cons, Bool.and_eq_true] at h
    rw [star_of h.1]
    show (!false && (backTo pos (starEach es env)).all fun x => !x.1) = true
    rw [few_of h.2]
    rfl
section
variable {G : Gb} {g : Str → Addr} {k : Nat} {sc : Scope} {N : List Str} {W : WX} {X : Cx}
theorem s_mut (c : Ct G g k sc N W X) {m : Mm} {i : Nat} {x f : Str} {p ap cp : Pos} {args : List Expr} {ms : Es} (hx : (slotIs N i x && (vis sc x && (!(x == ("__debug__" : Str)) && !(x == ("__classdict__" : Str))))) = true) (hf : f = Str.ofString (mmN m)) (hline : (ap.endLine == cp.line) = true) (hn : args.all nst = true) (h9 : args.length < 9)
    (ha : PA X args (tV X.K g G W ms)) (hnil : args = [] → ms = .nil) : PE X (.Call (.Attribute (.Name x p) f ap) args [] cp) (tE X.K g G W (.mut m i ms)) := by
  subst hf
  cases args with
  | nil =>
    cases hnil rfl
    refine (pe_bm0 PySem.F.plainAttrs_list (mm_slot m) (mm_ty m) (mm_mt m) (pe_name c hx) rfl hline).im fun σ H Q ⟨B, en, rs, vs, Xp, Q0, hs, hxl, he, hq⟩ => ?_
    unfold ev evs at he
    obtain ⟨_, he⟩ := he
    split at he
    · rename_i xs hi
      obtain ⟨a, ws, e1, e2, e3, _⟩ := ST.mutL (ds := []) (us := []) (ys := []) hs rfl hi
      exact ⟨.ref a, e1, .inl ⟨rfl, ws, .inl (.inl e2)⟩, mut_sat (ds := []) (us := []) hs rfl hi e1 he fun ys d v H' h1 s1 => hq _ _ _ _ h1 s1⟩
    · exact he.elim
  | cons e es =>
    have hn' := hn
    rw [List.all_cons, Bool.and_eq_true] at hn
    refine (pe_bm PySem.F.plainAttrs_list (mm_slot m) (mm_ty m) (mm_mt m) (pe_name c hx) ha rfl (by rw [few_of hn', Bool.true_and]; exact decide_eq_true (by show es.length + 1 + 0 + 0 < 30; rw [List.length_cons] at h9; omega)) hline (star_of hn.1) (stars_of hn.2)).im fun σ H Q ⟨B, en, rs, vs, Xp, Q0, hs, hxl, he, hq⟩ => ?_
    unfold ev at he
    obtain ⟨⟨ws0, hi0⟩, he⟩ := he
    obtain ⟨a0, ws, e1, e2, e3, _⟩ := ST.mutL (ds := []) (us := []) (ys := []) hs rfl hi0
    refine ⟨.ref a0, e1, .inl ⟨rfl, ws, .inl (.inl e2)⟩, B, en, rs, vs, Xp, _, hs, hxl, he, fun ds e1' us H1 h1 l1 l2 s1 => ?_⟩
    split at h1
    · rename_i xs hi
      exact mut_sat s1 l1 hi e1 h1 fun ys d v H' h1 s1 => hq _ _ _ _ h1 s1
    · exact h1.elim
end
end Pf

/-! Instances: their attributes, methods; new ones. -/
namespace Pf
open PySem PySem.Spec PyProof.Rows L2
section
variable {K : PySem.W.Frag} {g : Str → Addr} {Z : AS} {H : Hp}
theorem RepL.look : ∀ {ns : List Str} {fs : List D} {ws : List V} {O : AS} {f : Str} {d : D}, RepL K g Z H fs ws O → (ns.zip fs).lookup f = some d → ∃ u, (ns.zip ws).lookup f = some u ∧ Rep K g Z H d u O
  | [], _, _, _, _, _, _, h => by cases h
  | _ :: _, [], _, _, _, _, _, h => by cases h
  | n :: ns, x :: fs, _, O, f, d, .cons s1 s2 r t, h => by
    rw [List.zip_cons_cons, List.lookup_cons] at h ⊢
    cases e : (f == n) with
    | true =>
      rw [e] at h
      cases h
      exact ⟨_, rfl, r.up s1⟩
    | false =>
      rw [e] at h
      obtain ⟨u, h1, h2⟩ := RepL.look t h
      exact ⟨u, h1, h2.up fun b z => (s2 b z).1⟩
theorem look_none : ∀ {ns : List Str} {ws : List V} {f : Str}, ns.contains f = false → (ns.zip ws).lookup f = none
  | [], _, _, _ => rfl
  | _ :: _, [], _, _ => rfl
  | n :: ns, w :: ws, f, h => by
    rw [List.contains_cons, Bool.or_eq_false_iff] at h
    rw [List.zip_cons_cons, List.lookup_cons, h.1]
    exact look_none h.2
theorem Rep.insAt {o : Bool} {c : Str} {ns : List Str} {fs : List D} {v : V} {O : AS} (r : Rep K g Z H (.ins o c ns fs) v O) : ∃ a dx ws, v = .ref a ∧ H a = some (.ins (g c) dx (ns.zip ws)) ∧ ns.length = ws.length ∧ ∃ O', RepL K g Z H fs ws O' ∧ ∀ b, O' b → O b := by
  cases r with
  | insO e hl oa s r => exact ⟨_, _, _, rfl, e, hl, _, r, fun b z => (s b z).1⟩
  | insF z e hl r => exact ⟨_, _, _, rfl, e, hl, _, r, fun b z => z.elim⟩
theorem ST.pickf {B : Bs} {en : En} {rs : List R} {σ : Sg} {vs : List V} {r : R} {o : Bool} {c : Str} {ns : List Str} {fs : List D} {f : Str} {d : D} {v : V} (h : ST K g B en (r :: rs) σ (v :: vs) H) (hr : rv en r = some (.ins o c ns fs)) (hl : (ns.zip fs).lookup f = some d) (hf : isS r = true → fz d = true) :
    ∃ a dx ws u, v = .ref a ∧ H a = some (.ins (g c) dx (ns.zip ws)) ∧ (ns.zip ws).lookup f = some u ∧ ST K g B en (.v d :: rs) σ (u :: vs) H := by
  obtain ⟨⟨Z, O, O1, O2, e, t, s1, s2, q, p⟩, hlen⟩ := h
  cases t with
  | @v _ A C _ _ _ _ a1 a2 rr t =>
    cases hr
    obtain ⟨a, dx, ws, rfl, ea, l, O', rl, so⟩ := rr.insAt
    obtain ⟨u, hu, ru⟩ := rl.look hl
    exact ⟨a, dx, ws, u, rfl, ea, hu, ⟨Z, O, O1, O2, e, .v a1 a2 (ru.up so) t, s1, s2, q, p⟩, hlen⟩
  | s ev t =>
    obtain ⟨v', A, C, ev', rr, _⟩ := e.split (join_some (show (en[_]?).join = some _ from hr))
    rw [ev] at ev'
    cases ev'
    obtain ⟨a, dx, ws, e1, ea, l, O', rl, so⟩ := rr.insAt
    obtain ⟨u, hu, ru⟩ := rl.look hl
    exact ⟨a, dx, ws, u, e1, ea, hu, ⟨Z, O, O1, O2, e, .v (O1 := AS.no) (fun _ z => z.elim) (fun _ z => ⟨z, id⟩) (ru.none (hf rfl)) t, s1, s2, q, p⟩, hlen⟩
theorem ST.laidx {B : Bs} {en : En} {rs : List R} {σ : Sg} {vs : List V} {p : Addr} {o : HO} (h : ST K g B en rs σ vs H) (hp : H p = none) : ST K g B en rs σ vs (upd H p o) := by
  obtain ⟨⟨Z, O, O1, O2, e, t, s1, s2, q, pi⟩, hl⟩ := h
  exact ⟨⟨Z, O, O1, O2, e.keep (fun _ z => z) (keep_new hp), t.keep (fun _ z => z) (keep_new hp), s1, s2, q.new hp, pi⟩, hl⟩
theorem SR.take0 {B : Bs} {en : En} {d : D} {x : Option V} {σ : Sg} (h : SR K g B (some d :: en) [] (x :: σ) [] H) : ∃ v, x = some v ∧ SR K g B (none :: en) [.v d] (x :: σ) [v] H := by
  obtain ⟨Z, O, O1, O2, e, t, s1, s2, q, p⟩ := h
  cases e with
  | @has _ A C _ v _ _ a1 a2 r t1 =>
    exact ⟨v, rfl, Z, O, C, fun b => A b ∨ O2 b, .un t1, .v (O1 := A) (O2 := O2) (fun b z => .inl z) (fun b z => ⟨.inr z, fun y => (s2 b z).2 (a1 b y)⟩) r t, fun b z => s1 b (a2 b z).1, fun b z => by
      rcases z with z | z
      · exact ⟨s1 b (a1 b z), fun y => (a2 b y).2 z⟩
      · exact ⟨(s2 b z).1, fun y => (s2 b z).2 (a2 b y).1⟩, q, p⟩
end
section
variable {G : Gb} {g : Str → Addr} {k : Nat} {sc : Scope} {N : List Str} {W : WX} {X : Cx}
theorem base_of {e : Expr} {f : Str} (h : nab e = true) : attributeBase e f X.env (eval e X.env) = eval e X.env := by
  cases e <;> first | rfl | cases h
/-- e.f -/
theorem s_fld (c : Ct G g k sc N W X) {e : Expr} {m : E} {f : String} {fn : Str} {p : Pos} (hf : fn = Str.ofString f) (hb : nab e = true) (h : PE X e (tR X.K g G W m)) : PE X (.Attribute e fn p) (tE X.K g G W (.fld m f)) := by
  subst hf
  refine (pe_fld h (base_of hb)).im fun σ H Q ⟨B, en, rs, vs, Xp, Q0, hs, hx, he, hq⟩ => ?_
  unfold ev at he
  refine ⟨B, en, rs, vs, Xp, _, hs, hx, he, fun r e1 v H1 h1 s1 => ?_⟩
  split at h1
  · rename_i o cn ns fs hd
    obtain ⟨hk, d, hl, hfz, h2⟩ := h1
    obtain ⟨cl, na⟩ := c.ok.fok _ _ hk
    obtain ⟨a, dx, ws, u, rfl, ea, hu, s2⟩ := s1.pickf hd hl hfz
    exact ⟨a, g cn, dx, _, u, rfl, ea, cl, na, hu, hq _ _ _ _ h2 s2⟩
  · exact h1.elim
/-- o.m(..), any error let through -/
theorem pe_methX {C : Addr} {m : Str} {fa : Addr} {fd : FuncData} {ps : List Str} {sp : Sp} {E : Sg → XK} {o e : Expr} {es : List Expr} {ta : TE} {t : TA} {p apos : Pos} {j : Nat} {CX : CXT} (he : PE X o ta) (cc : Cls X.K C) (hm : Meth X.K C m fa) (F : FnOk X.prog X.w X.K X.mg X.base CX j fa fd ps sp) (hr : Room j X.A) (hb : Binds X.K fd ps []) (hx : ∀ σ, PassesAt CX X σ (E σ)) (ha : PA X (e :: es) t)
    (hbase : attributeBase o m X.env (eval o X.env) = eval o X.env) (hn : (e :: es).all nst = true) (h9 : (e :: es).length < 9) (hline : (apos.endLine == p.line) = true) :
    PE X (.Call (.Attribute o m apos) (e :: es) [] p) (fun σ H Q => ta σ H fun x H1 => ∃ a dx fs, x = .ref a ∧ H1 a = some (.ins C dx fs) ∧ fs.lookup m = none ∧ t σ H1 fun vs H2 => sp (x :: vs) H2 Q (E σ)) := by
  refine ⟨fun pins s σ H Q I h => ?_⟩
  have hform : methodCallForm ((e :: es).length + ([] : List Keyword).length) (backTo p (starEach (e :: es) X.env)) (backToKw p (keywordEach [] X.env)) = true := by
    show ((backTo p (starEach (e :: es) X.env)).all (fun x => !x.1) && (backToKw p (keywordEach [] X.env)).all (fun x => x.1.isSome) && decide ((e :: es).length + ([] : List Keyword).length + (if ([] : List Keyword).isEmpty then 0 else 1) < 30)) = true
    rw [few_of hn, Bool.true_and]
    exact decide_eq_true (by show es.length + 1 + 0 + 0 < 30; rw [List.length_cons] at h9; omega)
  have hpos : methodCallPos true o X.env apos p = pure p := by unfold methodCallPos; simp [hline]
  rw [List.all_cons, Bool.and_eq_true] at hn
  rw [arm_eval_Call, hbase]
  refine wpAny_bind (thn (he.run pins s σ H _ I h) fun u s1 ⟨x, H1, I1, rx, a, dx, fs, ex, ea, l, q⟩ => ?_)
  subst ex
  obtain rfl : u = Value.ref a := rx
  refine wpAny_bind (wpAny_standAt ?_)
  unfold methodCall
  rw [hform]
  refine wpAny_bind (wpAny_holding (getmeth_ok I1 ea cc hm l ?_))
  refine wpAny_bind (wpAny_of_eq hpos ?_)
  refine PySem.W.callWith_K (first := [.ref a]) (h₀ := X.base) I.ok.mod.kin hm.kp (thn (ha.run p pins s1 σ H1 _ I1 q) fun us s2 ⟨vs, H2, I2, r, q2⟩ => ⟨I2.kIn, ?_⟩) (star_of hn.1) (stars_of hn.2)
  exact run_fnS (us := .ref a :: us) (vs := .ref a :: vs) F hr hb (hx σ) I2 (.cons rfl r) q2
theorem pe_methX0 {C : Addr} {m : Str} {fa : Addr} {fd : FuncData} {ps : List Str} {sp : Sp} {E : Sg → XK} {o : Expr} {ta : TE} {p apos : Pos} {j : Nat} {CX : CXT} (he : PE X o ta) (cc : Cls X.K C) (hm : Meth X.K C m fa) (F : FnOk X.prog X.w X.K X.mg X.base CX j fa fd ps sp) (hr : Room j X.A) (hb : Binds X.K fd ps []) (hx : ∀ σ, PassesAt CX X σ (E σ))
    (hbase : attributeBase o m X.env (eval o X.env) = eval o X.env) (hline : (apos.endLine == p.line) = true) :
    PE X (.Call (.Attribute o m apos) [] [] p) (fun σ H Q => ta σ H fun x H1 => ∃ a dx fs, x = .ref a ∧ H1 a = some (.ins C dx fs) ∧ fs.lookup m = none ∧ sp [x] H1 Q (E σ)) := by
  refine ⟨fun pins s σ H Q I h => ?_⟩
  have hform : methodCallForm (([] : List Expr).length + ([] : List Keyword).length) (backTo p (starEach [] X.env)) (backToKw p (keywordEach [] X.env)) = true := rfl
  have hpos : methodCallPos true o X.env apos p = pure p := by unfold methodCallPos; simp [hline]
  rw [arm_eval_Call, hbase]
  refine wpAny_bind (thn (he.run pins s σ H _ I h) fun u s1 ⟨x, H1, I1, rx, a, dx, fs, ex, ea, l, q⟩ => ?_)
  subst ex
  obtain rfl : u = Value.ref a := rx
  refine wpAny_bind (wpAny_standAt ?_)
  unfold methodCall
  rw [hform]
  refine wpAny_bind (wpAny_holding (getmeth_ok I1 ea cc hm l ?_))
  refine wpAny_bind (wpAny_of_eq hpos ?_)
  refine PySem.W.callWith_K0 (first := [.ref a]) I1.kIn hm.kp (run_fnS (us := [.ref a]) (vs := [.ref a]) F hr hb (hx σ) I1 (.cons rfl .nil) q)
theorem s_meth (c : Ct G g k sc N W X) {cn m : String} {mn : Str} {e : Expr} {me : E} {args : List Expr} {ms : Es} {p ap : Pos} (hc : X.calm = true) (hm : mn = Str.ofString m) (hb : nab e = true) (hline : (ap.endLine == p.line) = true) (hn : args.all nst = true) (h9 : args.length < 9) (hnil : args = [] → ms = .nil)
    (he : PE X e (tR X.K g G W me)) (ha : PA X args (tA X.K g G W ms)) : PE X (.Call (.Attribute e mn ap) args [] p) (tE X.K g G W (.meth cn m me ms)) := by
  subst hm
  refine ⟨fun pins s σ H Q I ⟨B, en, rs, vs, Xp, Q0, hs, hxl, hev, hq⟩ => ?_⟩
  unfold ev at hev
  obtain ⟨hsome, hev⟩ := hev
  obtain ⟨F, hF⟩ := Option.isSome_iff_exists.mp hsome
  obtain ⟨cc, fa, fd, ps, h1, h2, h3⟩ := c.ok.mth cn m F hF
  cases args with
  | nil =>
    cases hnil rfl
    refine (pe_methX0 he cc h1 h3 (c.room hc) h2 (E := WE W) (fun σ => passAt c.tk σ) (base_of hb) hline).run pins s σ H Q I ⟨B, en, rs, vs, Xp, _, hs, hxl, hev, fun r e1 v H1 ⟨⟨o, ns, fs, hr, hno⟩, h5⟩ s1 => ?_⟩
    obtain ⟨Z, O, rp, _⟩ := s1.rep hr
    obtain ⟨a, dx, ws, rfl, ea, l, _⟩ := rp.insAt
    refine ⟨a, dx, _, rfl, ea, look_none hno, ?_⟩
    unfold evr at h5
    rw [hF] at h5
    exact callW_ok (xs := [r]) (us := [.ref a]) h5 rfl hxl s1 hq
  | cons x xs =>
    refine (pe_methX he cc h1 h3 (c.room hc) h2 (E := WE W) (fun σ => passAt c.tk σ) ha (base_of hb) hn h9 hline).run pins s σ H Q I ⟨B, en, rs, vs, Xp, _, hs, hxl, hev, fun r e1 v H1 ⟨⟨o, ns, fs, hr, hno⟩, h5⟩ s1 => ?_⟩
    obtain ⟨Z, O, rp, _⟩ := s1.rep hr
    obtain ⟨a, dx, ws, rfl, ea, l, _⟩ := rp.insAt
    refine ⟨a, dx, _, rfl, ea, look_none hno, B, e1, r :: rs, .ref a :: vs, Xp, _, s1, hxl, h5, fun ys e2 us H2 h6 hl s2 => ?_⟩
    rw [hF] at h6
    exact callW_ok (xs := r :: ys) (us := .ref a :: us) h6 (by simp [hl]) hxl (s2.move hl) hq
/-- C(..), any error let through -/
theorem pe_makeX {C : Addr} {x : Str} {fa : Addr} {fd : FuncData} {ps : List Str} {sp : Sp} {E : Sg → XK} {e : Expr} {es : List Expr} {t : TA} {p pos : Pos} {j : Nat} {CX : CXT} (M : Mk X.K C fa) (F : FnOk X.prog X.w X.K X.mg X.base CX j fa fd ps sp) (hr : Room (j + 1) X.A) (hb : Binds X.K fd ps []) (hx : ∀ σ, PassesAt CX X σ (E σ))
    (hg : Gl X x) (hm : X.mg x = some (.ref C)) (ha : PA X (e :: es) t) (hdb : (x == ("__debug__" : Str)) = false) (hn : (e :: es).all nst = true) :
    PE X (.Call (.Name x p) (e :: es) [] pos) (fun σ H Q => t σ H fun vs H1 => ∀ y dx, H1 y = none → H1 dx = none → dx ≠ y → sp (.ref y :: vs) (upd (upd H1 dx (.own y)) y (.ins C dx [])) (fun v H2 => v = .non ∧ Q (.ref y) H2) (E σ)) := by
  rw [List.all_cons, Bool.and_eq_true] at hn
  refine ⟨fun pins s σ H Q I h => ?_⟩
  refine wpAny_Call_Name_kw (ld_glob I hg hm ?_ hdb)
  refine PySem.W.callWith_K (h₀ := X.base) I.ok.mod.kin M.kp (thn (ha.run pos pins s σ H _ I h) fun us s1 ⟨vs, H1, I1, r, q⟩ => ⟨I1.kIn, ?_⟩) (star_of hn.1) (stars_of hn.2)
  have hq := q (s1.heap.objs.size + 1) s1.heap.objs.size (I1.hok.fresh (Nat.le_succ _)) (I1.hok.fresh (Nat.le_refl _)) (Nat.ne_of_lt (Nat.lt_succ_self _))
  have I2 := Inv.made (C := C) I1
  have r2 : Vals (V.ref (s1.heap.objs.size + 1) :: vs) (Value.ref (s1.heap.objs.size + 1) :: us) := .cons rfl r
  have hl : (Value.ref (s1.heap.objs.size + 1) :: us).length = ps.length := by
    have e := r2.length
    rw [F.len _ _ _ _ hq] at e
    exact e.symm
  have b := hb _ (Value.ref (s1.heap.objs.size + 1) :: us) I2.kIn (by rw [List.append_nil]; exact hl)
  rw [List.append_nil] at b
  refine wpAny_call (make_map (f := fa) I1.kIn M.makes M.init (beq_iff_eq.mp M.fn) (codeAny_mono (F.run _ X.stack _ _ ⟨Value.ref (s1.heap.objs.size + 1) :: us, []⟩ (Value.ref (s1.heap.objs.size + 1) :: us) _ _ (E σ) (hr.make C us []) (I2.env0.make C us []) b r2 hq) fun r s' hq' => ?_))
  cases r with
  | error e => exact hx σ pins _ _ e s' I2 hq'
  | ok fl =>
    cases fl with
    | ret u =>
      obtain ⟨v, H', I3, rv, ev, q3⟩ := I2.after hq'
      subst ev
      exact ⟨rv, ⟨V.ref (s1.heap.objs.size + 1), H', I3, rfl, q3⟩⟩
    | next => exact False.elim hq'
    | brk => exact False.elim hq'
    | cont => exact False.elim hq'
theorem putA_tl {en2 : En} {d : D} {xs : List R} {up : List (Option D)} : putA en2 (.v d :: xs) up = putA en2 xs up.tail := by
  cases up with
  | nil =>
    cases xs with
    | nil => rfl
    | cons r xs => cases r <;> rfl
  | cons u up => rfl
theorem new_ok {σ : Sg} {H : Hp} {Q : VK} {B : Bs} {en en2 : En} {rs xs : List R} {vs us : List V} {Xp : Xp} {Q0 : D → En → Prop} {F : FSp} {cn : Str} {ds : List D} {y dx : Addr}
    (h : F (.ins true cn [] [] :: ds) (fun r up => r = .non ∧ ∃ d, up.head?.join = some d ∧ Q0 d (putA en2 xs up.tail)) (fun c fs up => Xp c fs (putA en2 xs up.tail))) (ht : takeA en xs = some (ds, en2)) (hl : xs.length = us.length) (hx : XL X.K g G B W Xp)
    (s0 : ST X.K g B en (xs ++ rs) σ (us ++ vs) H) (hy : H y = none) (hdx : H dx = none) (hne : dx ≠ y)
    (hq : ∀ d en' v H', Q0 d en' → ST X.K g B en' (.v d :: rs) σ (v :: vs) H' → Q v H') : spOf X.K g G F (.ref y :: us) (upd (upd H dx (.own y)) y (.ins (g cn) dx [])) (fun v H2 => v = .non ∧ Q (.ref y) H2) (WE W σ) := by
  have s1 : ST X.K g B en (xs ++ rs) σ (us ++ vs) (upd H dx (.own y)) := s0.laidx hdx
  have hy2 : upd H dx (.own y) y = none := by rw [upd_ne (Ne.symm hne)]; exact hy
  have s2 : ST X.K g B en (.v (.ins true cn [] []) :: (xs ++ rs)) σ (.ref y :: (us ++ vs)) (upd (upd H dx (.own y)) y (.ins (g cn) dx [])) :=
    s1.newF hy2 rfl fun Z _ _ => .insO (ns := []) (vs := []) (dx := dx) upd_same rfl rfl (O' := AS.no) (fun _ z => z.elim) .nil
  have ht2 : takeA en (.v (.ins true cn [] []) :: xs) = some (.ins true cn [] [] :: ds, en2) := by
    rw [takeA, ht]
    rfl
  have s3 := s2.1
  have len : rs.length = vs.length := by
    have := s0.2
    simp only [List.length_append] at this
    omega
  have s4 : SR X.K g B en ((R.v (.ins true cn [] []) :: xs) ++ (rs ++ B.ts.map R.v)) σ ((V.ref y :: us) ++ (vs ++ B.tv)) (upd (upd H dx (.own y)) y (.ins (g cn) dx [])) := by
    simpa only [List.cons_append, List.append_assoc] using s3
  obtain ⟨Z, O, hin, hout⟩ := call_ok s4 (by simp [hl]) ht2
  refine ⟨Z, O, _, _, _, hin, h, fun r up v H' h1 s5 => ?_, fun c fs up cls d H' h1 e => ?_⟩
  · obtain ⟨rfl, d, hd, h2⟩ := h1
    have vn : v = .non := by
      obtain ⟨Z5, O5, rp, _⟩ := SR.rep s5 rfl
      cases rp
      rfl
    refine ⟨vn, ?_⟩
    cases up with
    | nil => cases hd
    | cons u0 up =>
      have hu0 : u0 = some d := hd
      subst hu0
      have s6 : SR X.K g ⟨_, Z, O, [], [], []⟩ (some d :: up) [] (some (V.ref y) :: us.map some) [] H' := SR.drop s5
      obtain ⟨v0, e0, s7⟩ := SR.take0 s6
      cases e0
      have s8 := hout (none :: up) [d] [.ref y] H' rfl s7
      exact hq d _ _ _ h2 ⟨s8, by rw [List.length_cons, List.length_cons, len]⟩
  · obtain ⟨ws, ns, fV, a1, a2, a3, a4, a5, a6, a7, a8, a9⟩ := e
    have a1' : SR X.K g ⟨upd (upd H dx (.own y)) y (.ins (g cn) dx []), Z, O, [], [], []⟩ up (fs.map R.v) ((V.ref y :: us).map some) ws H' := by
      have z : SR X.K g ⟨upd (upd H dx (.own y)) y (.ins (g cn) dx []), Z, O, [], [], []⟩ up (fs.map R.v ++ []) ((V.ref y :: us).map some) (ws ++ []) H' := a1
      rw [List.append_nil, List.append_nil] at z
      exact z
    obtain ⟨Z2, P, P1, P2, b1, b2, b3⟩ := hout up fs ws H' a2 a1'
    rw [putA_tl] at b1
    exact hx c fs _ σ H' cls d h1 ⟨ws, ns, fV, ⟨Z2, P, P1, P2, b1, RepT.mid b2 (by rw [List.length_map]; exact a2) len, b3⟩, a2, a3, a4, a5, a6, a7, a8, a9⟩
theorem s_new (c : Ct G g k sc N W X) {x : Str} {cn : String} {p pos : Pos} {a : Expr} {args : List Expr} {ms : Es} (hc : X.calm = true) (hx : x = Str.ofString cn) (hg : gl sc x = true) (hn : (a :: args).all nst = true) (ha : PA X (a :: args) (tA X.K g G W ms)) :
    PE X (.Call (.Name x p) (a :: args) [] pos) (tE X.K g G W (.new cn ms)) := by
  subst hx
  refine ⟨fun pins s σ H Q I ⟨B, en, rs, vs, Xp, Q0, hs, hxl, hev, hq⟩ => ?_⟩
  unfold ev at hev
  obtain ⟨hsome, hev⟩ := hev
  obtain ⟨F, hF⟩ := Option.isSome_iff_exists.mp hsome
  obtain ⟨k1, k2, k3, k4, k5⟩ := c.ok.mkc cn hsome
  obtain ⟨fa, fd, ps, j, hj, h1, h2, h3⟩ := k5 F hF
  refine (pe_makeX ⟨k2, h1.at_, h1.fn, k3⟩ h3 ((c.room hc).mono hj) h2 (E := WE W) (fun σ => passAt c.tk σ) (c.gl hg) k1 ha k4 hn).run pins s σ H Q I ⟨B, en, rs, vs, Xp, _, hs, hxl, hev, fun xs e1 us H1 h5 hl s1 y dx hy hdx hne => ?_⟩
  rw [hF] at h5
  split at h5
  · rename_i F' ds en2 hF' ht
    cases hF'
    exact new_ok h5 ht hl hxl s1 hy hdx hne hq
  · exact h5.elim
end
section
variable {K : PySem.W.Frag} {g : Str → Addr} {B : Bs} {en : En} {rs : List R} {σ : Sg} {vs : List V} {H : Hp}
theorem putF_new : ∀ {ns : List Str} {ws : List V} {f : Str} {u : V}, ns.length = ws.length → ns.contains f = false → putF f u (ns.zip ws) = (ns ++ [f]).zip (ws ++ [u])
  | [], [], f, u, _, _ => rfl
  | [], _ :: _, _, _, h, _ => by cases h
  | _ :: _, [], _, _, h, _ => by cases h
  | n :: ns, w :: ws, f, u, h, hc => by
    rw [List.contains_cons, Bool.or_eq_false_iff] at hc
    have hne : ¬ n = f := fun e => by
      have := hc.1
      rw [e] at this
      simp at this
    rw [List.zip_cons_cons, putF, if_neg hne, putF_new (by simpa using h) hc.2]
    rfl
/-- a name's own instance gets a field -/
theorem ST.mutI {i : Nat} {c : Str} {ns : List Str} {fs : List D} {d : D} {u : V} (h : ST K g B en (.v d :: rs) σ (u :: vs) H) (hi : (en[i]?).join = some (.ins true c ns fs)) :
    ∃ a dx ws, σ[i]? = some (some (.ref a)) ∧ H a = some (.ins (g c) dx (ns.zip ws)) ∧ ns.length = ws.length ∧
      ∀ f, ST K g B (en.set i (some (.ins true c (ns ++ [f]) (fs ++ [d])))) rs σ vs (upd H a (.ins (g c) dx ((ns ++ [f]).zip (ws ++ [u])))) := by
  obtain ⟨⟨Z, O, O1, O2, e, t, s1, s2, q, p⟩, hlen⟩ := h
  obtain ⟨v, A, C, ev, r, e', a1, a2⟩ := e.split (join_some hi)
  cases t with
  | @v _ T1 T2 _ _ _ _ b1 b2 rd t2 =>
    cases r with
    | @insO _ A' a dx _ _ _ ws ea hl oa sa ra =>
      refine ⟨a, dx, ws, ev, ea, hl, fun f => ?_⟩
      have oA : O a := s1 a (a1 a oa)
      have nT1 : ¬ T1 a := fun z => (s2 a (b1 a z)).2 (a1 a oa)
      have nT2 : ¬ T2 a := fun z => (s2 a (b2 a z).1).2 (a1 a oa)
      have nC : ¬ C a := fun z => (a2 a z).2 oa
      have rd1 : RepL K g Z H [d] [u] T1 := .cons (O1 := T1) (O2 := AS.no) (fun _ z => z) (fun _ z => z.elim) rd .nil
      have r2 : RepL K g Z H (fs ++ [d]) (ws ++ [u]) (fun b => A' b ∨ T1 b) := ra.app rd1 (fun b z => .inl z) fun b z => ⟨.inr z, fun y => (s2 b (b1 b z)).2 (a1 b (sa b y).1)⟩
      have r3 := r2.keep (fun _ z => z) (q.keep (x := .ins (g c) dx ((ns ++ [f]).zip (ws ++ [u]))) oA fun z => z.elim (fun z => (sa a z).2 rfl) nT1)
      have rn : Rep K g Z (upd H a (.ins (g c) dx ((ns ++ [f]).zip (ws ++ [u])))) (.ins true c (ns ++ [f]) (fs ++ [d])) (.ref a) (fun b => A b ∨ T1 b) :=
        .insO (O' := fun b => A' b ∨ T1 b) upd_same (by rw [List.length_append, List.length_append, hl]; rfl) (.inl oa) (fun b z => z.elim (fun z => ⟨.inl (sa b z).1, (sa b z).2⟩) fun z => ⟨.inr z, fun y => nT1 (y ▸ z)⟩) r3
      have e2 := RepE.put (O := fun b => O1 b ∨ T1 b) (O1 := fun b => A b ∨ T1 b) (O2 := C) (e'.keep (fun _ z => z) (q.keep (x := .ins (g c) dx ((ns ++ [f]).zip (ws ++ [u]))) oA nC)) ev rn (fun b z => z.imp (a1 b) id) fun b z => ⟨.inl (a2 b z).1, fun y => y.elim (a2 b z).2 fun y => (s2 b (b1 b y)).2 (a2 b z).1⟩
      rw [List.set_set] at e2
      refine ⟨⟨Z, O, fun b => O1 b ∨ T1 b, T2, e2, t2.keep (fun _ z => z) (q.keep (x := .ins (g c) dx ((ns ++ [f]).zip (ws ++ [u]))) oA nT2), fun b z => z.elim (s1 b) fun z => (s2 b (b1 b z)).1, fun b z => ⟨(s2 b (b2 b z).1).1, fun y => y.elim (s2 b (b2 b z).1).2 (b2 b z).2⟩, q.mut oA rfl, p⟩, by simpa using hlen⟩
end
end Pf

/-! The checks, read backwards. -/
namespace Pf
open PySem PySem.Spec PyProof.Rows L2
section
variable {N : List Str} {calm : Bool} {fl : List String} {sc : Scope} {e : Expr}
theorem i_var {i : Nat} (h : chkE N calm fl (.var i) sc e = true) : ∃ x p, e = .Name x p ∧ (slotIs N i x && (vis sc x && (!(x == ("__debug__" : Str)) && !(x == ("__classdict__" : Str))))) = true := by
  unfold chkE at h
  split at h
  all_goals first | contradiction | (cases h; done) | skip
  rename_i hh
  cases hh
  exact ⟨_, _, rfl, h⟩
theorem i_fv {i : Nat} (h : chkE N calm fl (.fv i) sc e = true) : ∃ x p, e = .Name x p ∧ (slotIs N i x && (vis sc x && (!(x == ("__debug__" : Str)) && !(x == ("__classdict__" : Str))))) = true := by
  unfold chkE at h
  split at h
  all_goals first | contradiction | (cases h; done) | skip
  rename_i hh
  cases hh
  exact ⟨_, _, rfl, h⟩
theorem i_int {n : Int} (h : chkE N calm fl (.int n) sc e = true) : ∃ z a p, e = .Constant (.int z) a p ∧ decide (n = z) = true := by
  unfold chkE at h
  split at h
  all_goals first | contradiction | (cases h; done) | skip
  rename_i hh
  cases hh
  exact ⟨_, _, _, rfl, h⟩
theorem i_bl {b : Bool} (h : chkE N calm fl (.bl b) sc e = true) : ∃ z a p, e = .Constant (.bool z) a p ∧ (b == z) = true := by
  unfold chkE at h
  split at h
  all_goals first | contradiction | (cases h; done) | skip
  rename_i hh
  cases hh
  exact ⟨_, _, _, rfl, h⟩
theorem i_non  (h : chkE N calm fl (.non) sc e = true) : ∃ a p, e = .Constant .none a p ∧ true = true := by
  unfold chkE at h
  split at h
  all_goals first | contradiction | (cases h; done) | skip
  exact ⟨_, _, rfl, h⟩
theorem i_str {x : String} (h : chkE N calm fl (.str x) sc e = true) : ∃ z a p, e = .Constant (.str z) a p ∧ decide (z = Str.ofString x) = true := by
  unfold chkE at h
  split at h
  all_goals first | contradiction | (cases h; done) | skip
  rename_i hh
  cases hh
  exact ⟨_, _, _, rfl, h⟩
theorem i_gint {x : String} {n : Int} (h : chkE N calm fl (.gint x n) sc e = true) : ∃ y p, e = .Name y p ∧ (decide (y = Str.ofString x) && gl sc y) = true := by
  unfold chkE at h
  split at h
  all_goals first | contradiction | (cases h; done) | skip
  rename_i hh
  cases hh
  exact ⟨_, _, rfl, h⟩
theorem i_bin {op : Operator} {a b : E} (h : chkE N calm fl (.bin op a b) sc e = true) : ∃ l o r p, e = .BinOp l o r p ∧ (decide (op = o) && (chkE N calm fl a sc l && chkE N calm fl b sc r)) = true := by
  unfold chkE at h
  split at h
  all_goals first | contradiction | (cases h; done) | skip
  rename_i hh
  cases hh
  exact ⟨_, _, _, _, rfl, h⟩
theorem i_neg {a : E} (h : chkE N calm fl (.neg a) sc e = true) : ∃ x p, e = .UnaryOp .USub x p ∧ chkE N calm fl a sc x = true := by
  unfold chkE at h
  split at h
  all_goals first | contradiction | (cases h; done) | skip
  rename_i hh
  cases hh
  exact ⟨_, _, rfl, h⟩
theorem i_cmp {op : CmpOp} {a b : E} (h : chkE N calm fl (.cmp op a b) sc e = true) : ∃ l o r p, e = .Compare l [o] [r] p ∧ (decide (op = o) && (nset r && (chkE N calm fl a sc l && chkE N calm fl b sc r))) = true := by
  unfold chkE at h
  split at h
  all_goals first | contradiction | (cases h; done) | skip
  rename_i hh
  cases hh
  exact ⟨_, _, _, _, rfl, h⟩
theorem i_bop {c : Bool} {es : Es} (h : chkE N calm fl (.bop c es) sc e = true) : ∃ op vs p, e = .BoolOp op vs p ∧ ((match op with | .And => c | .Or => !c) && chkEs N calm fl es sc vs) = true := by
  unfold chkE at h
  split at h
  all_goals first | contradiction | (cases h; done) | skip
  rename_i hh
  cases hh
  exact ⟨_, _, _, rfl, h⟩
theorem i_nt {a : E} (h : chkE N calm fl (.nt a) sc e = true) : ∃ x p, e = .UnaryOp .Not x p ∧ chkE N calm fl a sc x = true := by
  unfold chkE at h
  split at h
  all_goals first | contradiction | (cases h; done) | skip
  rename_i hh
  cases hh
  exact ⟨_, _, rfl, h⟩
theorem i_ite {c a b : E} (h : chkE N calm fl (.ite c a b) sc e = true) : ∃ t x y p, e = .IfExp t x y p ∧ (chkE N calm fl c sc t && (chkE N calm fl a sc x && chkE N calm fl b sc y)) = true := by
  unfold chkE at h
  split at h
  all_goals first | contradiction | (cases h; done) | skip
  rename_i hh
  cases hh
  exact ⟨_, _, _, _, rfl, h⟩
theorem i_tup {es : Es} (h : chkE N calm fl (.tup es) sc e = true) : ∃ xs k p, e = .Tuple xs k p ∧ (decide (esLen es ≤ 1000) && chkEs N calm fl es sc xs) = true := by
  unfold chkE at h
  split at h
  all_goals first | contradiction | (cases h; done) | skip
  rename_i hh
  cases hh
  exact ⟨_, _, _, rfl, h⟩
theorem i_lst {es : Es} (h : chkE N calm fl (.lst es) sc e = true) : ∃ xs p, e = .List xs p ∧ (decide (esLen es ≤ 1000) && chkEs N calm fl es sc xs) = true := by
  unfold chkE at h
  split at h
  all_goals first | contradiction | (cases h; done) | skip
  rename_i hh
  cases hh
  exact ⟨_, _, rfl, h⟩
theorem i_idx {a b : E} (h : chkE N calm fl (.idx a b) sc e = true) : ∃ x y p, e = .Subscript x y p ∧ (nsl y && (chkE N calm fl a sc x && chkE N calm fl b sc y)) = true := by
  unfold chkE at h
  split at h
  all_goals first | contradiction | (cases h; done) | skip
  rename_i hh
  cases hh
  exact ⟨_, _, _, rfl, h⟩
theorem i_slc {a : E} {lo hi : Ox} (h : chkE N calm fl (.slc a lo hi) sc e = true) : ∃ x l h p q, e = .Subscript x (.Slice l h none p) q ∧ (chkE N calm fl a sc x && (chkO N calm fl lo sc l && chkO N calm fl hi sc h)) = true := by
  unfold chkE at h
  split at h
  all_goals first | contradiction | (cases h; done) | skip
  rename_i hh
  cases hh
  exact ⟨_, _, _, _, _, rfl, h⟩
theorem i_call {f : String} {es : Es} (h : chkE N calm fl (.call f es) sc e = true) : ∃ x p args q, e = .Call (.Name x p) args [] q ∧ (calm && (fl.contains f && (decide (x = Str.ofString f) && (gl sc x && chkEs N calm fl es sc args)))) = true := by
  unfold chkE at h
  split at h
  all_goals first | contradiction | (cases h; done) | skip
  rename_i hh
  cases hh
  exact ⟨_, _, _, _, rfl, h⟩
theorem i_blt {f : Bf} {es : Es} (h : chkE N calm fl (.blt f es) sc e = true) : ∃ x p a args q, e = .Call (.Name x p) (a :: args) [] q ∧ ((calm || decide (f = .len)) && (decide (x = Str.ofString (bfN f)) && (gl sc x && chkEs N calm fl es sc (a :: args)))) = true := by
  unfold chkE at h
  split at h
  all_goals first | contradiction | (cases h; done) | skip
  rename_i hh
  cases hh
  exact ⟨_, _, _, _, _, rfl, h⟩
theorem i_lset {a : E} (h : chkE N calm fl (.lset a) sc e = true) : ∃ x p y p2 e1 q q2, e = .Call (.Name x p) [.Call (.Name y p2) [e1] [] q] [] q2 ∧ (calm && (decide (x = Str.ofString "len") && (decide (y = Str.ofString "set") && (gl sc x && (gl sc y && (nst e1 && chkE N calm fl a sc e1)))))) = true := by
  unfold chkE at h
  split at h
  all_goals first | contradiction | (cases h; done) | skip
  rename_i hh
  cases hh
  exact ⟨_, _, _, _, _, _, _, rfl, h⟩
theorem i_fld {a : E} {f : String} (h : chkE N calm fl (.fld a f) sc e = true) : ∃ e1 fn p, e = .Attribute e1 fn p ∧ (nab e1 && (decide (fn = Str.ofString f) && chkE N calm fl a sc e1)) = true := by
  unfold chkE at h
  split at h
  all_goals first | contradiction | (cases h; done) | skip
  rename_i hh
  cases hh
  exact ⟨_, _, _, rfl, h⟩
theorem i_meth {c m : String} {a : E} {es : Es} (h : chkE N calm fl (.meth c m a es) sc e = true) : ∃ e1 mn ap args cp, e = .Call (.Attribute e1 mn ap) args [] cp ∧ (calm && (nab e1 && (decide (mn = Str.ofString m) && ((ap.endLine == cp.line) && (chkE N calm fl a sc e1 && (decide (args.length < 9) && chkEs N calm fl es sc args)))))) = true := by
  unfold chkE at h
  split at h
  all_goals first | contradiction | (cases h; done) | skip
  rename_i hh
  cases hh
  exact ⟨_, _, _, _, _, rfl, h⟩
theorem i_new {c : String} {es : Es} (h : chkE N calm fl (.new c es) sc e = true) : ∃ x p a args q, e = .Call (.Name x p) (a :: args) [] q ∧ (calm && (decide (x = Str.ofString c) && (gl sc x && chkEs N calm fl es sc (a :: args)))) = true := by
  unfold chkE at h
  split at h
  all_goals first | contradiction | (cases h; done) | skip
  rename_i hh
  cases hh
  exact ⟨_, _, _, _, _, rfl, h⟩
theorem i_isi {a : E} {ts : List String} (h : chkE N calm fl (.isi a ts) sc e = true) : ∃ x p e1 t q, e = .Call (.Name x p) [e1, t] [] q ∧ (decide (x = Str.ofString "isinstance") && (gl sc x && (nst e1 && (nst t && (chkE N calm fl a sc e1 && (match t with | .Tuple es _ _ => decide (es.length ≤ 1000) && chkTl sc ts es | t => chkTs sc ts t)))))) = true := by
  unfold chkE at h
  split at h
  all_goals first | contradiction | (cases h; done) | skip
  rename_i hh
  cases hh
  exact ⟨_, _, _, _, _, rfl, h⟩
theorem i_lrg {es : Es} (h : chkE N calm fl (.lrg es) sc e = true) : ∃ x p y p2 args q q2, e = .Call (.Name x p) [.Call (.Name y p2) args [] q] [] q2 ∧ (calm && (decide (x = Str.ofString "list") && (decide (y = Str.ofString "range") && (gl sc x && (gl sc y && ((args.length == 1 || args.length == 2) && chkEs N calm fl es sc args)))))) = true := by
  unfold chkE at h
  split at h
  all_goals first | contradiction | (cases h; done) | skip
  rename_i hh
  cases hh
  exact ⟨_, _, _, _, _, _, _, rfl, h⟩
theorem i_mut {m : Mm} {i : Nat} {es : Es} (h : chkE N calm fl (.mut m i es) sc e = true) : ∃ x p f ap args cp, e = .Call (.Attribute (.Name x p) f ap) args [] cp ∧ (slotIs N i x && (vis sc x && (!(x == ("__debug__" : Str)) && (!(x == ("__classdict__" : Str)) && (decide (f = Str.ofString (mmN m)) && ((ap.endLine == cp.line) && (chkEs N calm fl es sc args && decide (args.length < 9)))))))) = true := by
  unfold chkE at h
  split at h
  all_goals first | contradiction | (cases h; done) | skip
  rename_i hh
  cases hh
  exact ⟨_, _, _, _, _, _, rfl, h⟩
theorem i_lc {tg : List Nat} {src : Src} {cs : Es} {elt : E} (h : chkE N calm fl (.lc tg src cs elt) sc e = true) : ∃ el t it ifs a scope p, e = .ListComp el [⟨t, it, ifs, a⟩] scope p ∧ (calm && (decide (a = 0) && (blkC N sc scope (ownOf N tg) && (chkTgt N scope.names tg t && (nset it && (chkS N calm fl src sc it && (chkEs N calm fl cs (relS scope sc) ifs && (decide (ifs.length ≤ 1) && chkE N calm fl elt (relS scope sc) el)))))))) = true := by
  unfold chkE at h
  split at h
  all_goals first | contradiction | (cases h; done) | skip
  rename_i hh
  cases hh
  exact ⟨_, _, _, _, _, _, _, rfl, h⟩
theorem i_es0 {xs : List Expr} (h : chkEs N calm fl .nil sc xs = true) : xs = [] := by
  cases xs with
  | nil => rfl
  | cons _ _ => unfold chkEs at h; cases h
theorem i_es1 {m : E} {ms : Es} {xs : List Expr} (h : chkEs N calm fl (.cons m ms) sc xs = true) : ∃ x ys, xs = x :: ys ∧ nst x = true ∧ chkE N calm fl m sc x = true ∧ chkEs N calm fl ms sc ys = true := by
  cases xs with
  | nil => unfold chkEs at h; cases h
  | cons x ys =>
    unfold chkEs at h
    obtain ⟨h1, h2⟩ := and2 h
    obtain ⟨h3, h4⟩ := and2 h1
    exact ⟨x, ys, rfl, h3, h4, h2⟩
theorem i_ess : ∀ {ms : Es} {xs : List Expr}, chkEs N calm fl ms sc xs = true → xs.all nst = true ∧ esLen ms = xs.length
  | .nil, xs, h => by rw [i_es0 h]; exact ⟨rfl, rfl⟩
  | .cons m ms, xs, h => by
    obtain ⟨x, ys, rfl, h1, h2, h3⟩ := i_es1 h
    obtain ⟨k1, k2⟩ := i_ess h3
    exact ⟨by rw [List.all_cons, h1, k1]; rfl, by rw [esLen, List.length_cons, k2]⟩
theorem i_ono {o : Option Expr} (h : chkO N calm fl .no sc o = true) : o = none := by
  cases o with
  | none => rfl
  | some _ => unfold chkO at h; cases h
theorem i_oso {m : E} {o : Option Expr} (h : chkO N calm fl (.so m) sc o = true) : ∃ x, o = some x ∧ chkE N calm fl m sc x = true := by
  cases o with
  | none => unfold chkO at h; cases h
  | some x => unfold chkO at h; exact ⟨x, rfl, h⟩
theorem i_sit {m : E} (h : chkS N calm fl (.it m) sc e = true) : chkE N calm fl m sc e = true := by unfold chkS at h; exact h
theorem i_srng {ms : Es} (h : chkS N calm fl (.rng ms) sc e = true) : ∃ x p args q, e = .Call (.Name x p) args [] q ∧ (decide (x = Str.ofString "range") && (gl sc x && ((args.length == 1 || args.length == 2) && chkEs N calm fl ms sc args))) = true := by
  unfold chkS at h
  split at h
  all_goals first | contradiction | (cases h; done) | skip
  rename_i hh
  cases hh
  exact ⟨_, _, _, _, rfl, h⟩
theorem i_srdn {ms : Es} (h : chkS N calm fl (.rdn ms) sc e = true) : ∃ x p args q, e = .Call (.Name x p) args [] q ∧ (decide (x = Str.ofString "range") && (gl sc x && (args.length == 3 && chkEs N calm fl ms sc args))) = true := by
  unfold chkS at h
  split at h
  all_goals first | contradiction | (cases h; done) | skip
  rename_i hh
  cases hh
  exact ⟨_, _, _, _, rfl, h⟩
theorem i_srev {m : E} (h : chkS N calm fl (.rev m) sc e = true) : ∃ x p a q, e = .Call (.Name x p) [a] [] q ∧ (decide (x = Str.ofString "reversed") && (gl sc x && (nst a && chkE N calm fl m sc a))) = true := by
  unfold chkS at h
  split at h
  all_goals first | contradiction | (cases h; done) | skip
  rename_i hh
  cases hh
  exact ⟨_, _, _, _, rfl, h⟩
end
end Pf

/-! What the checks let pass keeps its word. -/
namespace Pf
open PySem PySem.Spec PyProof.Rows L2
/-- an expression in all its uses -/
structure OkE (g : Str → Addr) (G : Gb) (W : WX) (X : Cx) (e : Expr) (m : E) : Prop where
  pe : PE X e (tE X.K g G W m)
  pr : PE X e (tR X.K g G W m)
  pt : PT X e (tT X.K g G W m)
section
variable {G : Gb} {g : Str → Addr} {k : Nat} {N : List Str} {calm : Bool} {fl : List String}
theorem OkE.mk' {W : WX} {X : Cx} {e : Expr} {m : E} (h : ∀ i, m ≠ .var i) (pe : PE X e (tE X.K g G W m)) (he : ∀ whole, isTrue e X.env whole = (do let v ← whole; standAt e.pos; holding [v] (truthy v))) : OkE g G W X e m := ⟨pe, s_R h pe, t_val pe he⟩
theorem t_ite {W : WX} {X : Cx} {c a b : Expr} {p : Pos} {mc ma mb : E} (hc : PT X c (tT X.K g G W mc)) (ha : PT X a (tT X.K g G W ma)) (hb : PT X b (tT X.K g G W mb)) : PT X (.IfExp c a b p) (tT X.K g G W (.ite mc ma mb)) := by
  refine ⟨fun pins s σ H Q I ⟨B, en, rs, vs, Xp, Q0, hs, hx, he, hq⟩ => ?_⟩
  unfold ev at he
  show wpAny _ _ (do if ← isTrue c X.env (eval c X.env) then isTrue a X.env (eval a X.env) else isTrue b X.env (eval b X.env)) _ _ s
  let Q1 : Bool → En → Prop := fun t e1 => if t = true then ev G ma e1 (fun d e => ∃ b, d = .bl b ∧ Q0 b e) Xp else ev G mb e1 (fun d e => ∃ b, d = .bl b ∧ Q0 b e) Xp
  refine wpAny_bind (thn (hc.run pins s σ H (fun t H' => ∃ e1, Q1 t e1 ∧ ST X.K g B e1 rs σ vs H') I ⟨B, en, rs, vs, Xp, Q1, hs, hx, he, fun t e H' h1 s1 => ⟨e, h1, s1⟩⟩) fun t s1 ⟨H1, I1, e1, q1, s1'⟩ => ?_)
  cases t with
  | true => exact ha.run pins s1 σ H1 Q I1 ⟨B, e1, rs, vs, Xp, Q0, s1', hx, q1, hq⟩
  | false => exact hb.run pins s1 σ H1 Q I1 ⟨B, e1, rs, vs, Xp, Q0, s1', hx, q1, hq⟩
mutual
theorem okE (hcal : calm = true → ∀ f ∈ fl, (G.fns f).isSome = true) : ∀ (m : E) {sc : Scope} {W : WX} {X : Cx} {e : Expr}, Ct G g k sc N W X → (calm = true → X.calm = true) → chkE N calm fl m sc e = true → OkE g G W X e m
  | .var i, sc, W, X, e, c, hc, h => by
    obtain ⟨x, p, rfl, h1⟩ := i_var h
    exact ⟨s_var c h1, s_varR c h1, t_val (s_var c h1) fun _ => rfl⟩
  | .fv i, sc, W, X, e, c, hc, h => by
    obtain ⟨x, p, rfl, h1⟩ := i_fv h
    have pe : PE X (.Name x p) (tE X.K g G W (.fv i)) := (s_var c h1).im fun σ H Q ⟨B, en, rs, vs, Xp, Q0, hs, hx, he, hq⟩ => by
      unfold ev at he
      exact ⟨B, en, rs, vs, Xp, Q0, hs, hx, by unfold ev; exact he, hq⟩
    exact .mk' (fun _ h => nomatch h) pe fun _ => rfl
  | .int n, sc, W, X, e, c, hc, h => by
    obtain ⟨z, a, p, rfl, h1⟩ := i_int h
    cases of_decide_eq_true h1
    exact .mk' (fun _ h => nomatch h) (s_flat (d := .int n) (v := .int n) pe_int (fun en Q Xp he => by unfold ev at he; exact he) fun Z H => .int n) fun _ => rfl
  | .bl b, sc, W, X, e, c, hc, h => by
    obtain ⟨z, a, p, rfl, h1⟩ := i_bl h
    have e1 : b = z := by simpa using h1
    subst e1
    exact .mk' (fun _ h => nomatch h) (s_flat (d := .bl b) (v := .bl b) pe_bl (fun en Q Xp he => by unfold ev at he; exact he) fun Z H => .bl b) fun _ => rfl
  | .non, sc, W, X, e, c, hc, h => by
    obtain ⟨a, p, rfl, h1⟩ := i_non h
    exact .mk' (fun _ h => nomatch h) (s_flat (d := .non) (v := .non) pe_non (fun en Q Xp he => by unfold ev at he; exact he) fun Z H => .non) fun _ => rfl
  | .str x, sc, W, X, e, c, hc, h => by
    obtain ⟨z, a, p, rfl, h1⟩ := i_str h
    cases of_decide_eq_true h1
    exact .mk' (fun _ h => nomatch h) (s_flat (d := .str (Str.ofString x)) (v := .str (Str.ofString x)) pe_str (fun en Q Xp he => by unfold ev at he; exact he) fun Z H => .str _) fun _ => rfl
  | .gint x n, sc, W, X, e, c, hc, h => by
    obtain ⟨y, p, rfl, h1⟩ := i_gint h
    obtain ⟨h2, h3⟩ := and2 h1
    cases of_decide_eq_true h2
    by_cases hn : G.cints x = some n
    · obtain ⟨⟨t, k1⟩, k2⟩ := c.ok.cint x n hn
      exact .mk' (fun _ h => nomatch h) (s_flat (d := .int n) (v := .int n) (pe_glob (c.gl h3) k1 ⟨t, rfl⟩ k2) (fun en Q Xp he => by unfold ev at he; exact he.2) fun Z H => .int n) fun _ => rfl
    · have pe : PE X (.Name (Str.ofString x) p) (tE X.K g G W (.gint x n)) := ⟨fun pins s σ H Q I ⟨B, en, rs, vs, Xp, Q0, hs, hx, he, hq⟩ => by unfold ev at he; exact absurd he.1 hn⟩
      exact .mk' (fun _ h => nomatch h) pe fun _ => rfl
  | .bin op a b, sc, W, X, e, c, hc, h => by
    obtain ⟨l, o, r, p, rfl, h1⟩ := i_bin h
    obtain ⟨h2, h3⟩ := and2 h1
    obtain ⟨h4, h5⟩ := and2 h3
    cases of_decide_eq_true h2
    exact .mk' (fun _ h => nomatch h) (s_bin (okE hcal a c hc h4).pr (okE hcal b c hc h5).pr) fun _ => rfl
  | .neg a, sc, W, X, e, c, hc, h => by
    obtain ⟨x, p, rfl, h1⟩ := i_neg h
    exact .mk' (fun _ h => nomatch h) (s_neg (okE hcal a c hc h1).pe) fun _ => rfl
  | .cmp op a b, sc, W, X, e, c, hc, h => by
    obtain ⟨l, o, r, p, rfl, h1⟩ := i_cmp h
    obtain ⟨h2, h3⟩ := and2 h1
    obtain ⟨h4, h5⟩ := and2 h3
    obtain ⟨h6, h7⟩ := and2 h5
    cases of_decide_eq_true h2
    have pe := s_cmp c (p := p) (op := op) h4 (okE hcal a c hc h6).pr (okE hcal b c hc h7).pr
    exact ⟨pe, s_R (fun _ h => nomatch h) pe, t_cmp c h4 (okE hcal a c hc h6).pr (okE hcal b c hc h7).pr⟩
  | .bop cc es, sc, W, X, e, c, hc, h => by
    obtain ⟨op, vs, p, rfl, h1⟩ := i_bop h
    obtain ⟨h2, h3⟩ := and2 h1
    have e1 : op = opOf cc := by cases op <;> cases cc <;> first | rfl | cases h2
    subst e1
    obtain ⟨k1, k2⟩ := okB hcal es cc (p := p) c hc h3
    have pe : PE X (.BoolOp (opOf cc) vs p) (tE X.K g G W (.bop cc es)) := k1.im fun σ H Q ⟨B, en, rs, vs, Xp, Q0, hs, hx, he, hq⟩ => by
      unfold ev at he
      exact ⟨B, en, rs, vs, Xp, Q0, hs, hx, he, hq⟩
    refine ⟨pe, s_R (fun _ h => nomatch h) pe, k2.pt.im fun σ H Q ⟨B, en, rs, vs, Xp, Q0, hs, hx, he, hq⟩ => ?_⟩
    unfold ev at he
    exact ⟨B, en, rs, vs, Xp, Q0, hs, hx, he, hq⟩
  | .nt a, sc, W, X, e, c, hc, h => by
    obtain ⟨x, p, rfl, h1⟩ := i_nt h
    have pe := s_nt (p := p) (okE hcal a c hc h1).pe
    exact ⟨pe, s_R (fun _ h => nomatch h) pe, t_nt (okE hcal a c hc h1).pt⟩
  | .ite t a b, sc, W, X, e, c, hc, h => by
    obtain ⟨t', x, y, p, rfl, h1⟩ := i_ite h
    obtain ⟨h2, h3⟩ := and2 h1
    obtain ⟨h4, h5⟩ := and2 h3
    have pe := s_ite (p := p) (okE hcal t c hc h2).pt (okE hcal a c hc h4).pe (okE hcal b c hc h5).pe
    exact ⟨pe, s_R (fun _ h => nomatch h) pe, t_ite (okE hcal t c hc h2).pt (okE hcal a c hc h4).pt (okE hcal b c hc h5).pt⟩
  | .tup es, sc, W, X, e, c, hc, h => by
    obtain ⟨xs, kk, p, rfl, h1⟩ := i_tup h
    obtain ⟨h2, h3⟩ := and2 h1
    exact .mk' (fun _ h => nomatch h) (s_tup (okV hcal es c hc h3) (of_decide_eq_true h2)) fun _ => rfl
  | .lst es, sc, W, X, e, c, hc, h => by
    obtain ⟨xs, p, rfl, h1⟩ := i_lst h
    obtain ⟨h2, h3⟩ := and2 h1
    exact .mk' (fun _ h => nomatch h) (s_lst (okV hcal es c hc h3) (of_decide_eq_true h2)) fun _ => rfl
  | .idx a b, sc, W, X, e, c, hc, h => by
    obtain ⟨x, y, p, rfl, h1⟩ := i_idx h
    obtain ⟨h2, h3⟩ := and2 h1
    obtain ⟨h4, h5⟩ := and2 h3
    exact .mk' (fun _ h => nomatch h) (s_idx c h2 (okE hcal a c hc h4).pr (okE hcal b c hc h5).pe) fun _ => rfl
  | .slc a lo hi, sc, W, X, e, c, hc, h => by
    obtain ⟨x, l, u, p, q, rfl, h1⟩ := i_slc h
    obtain ⟨h2, h3⟩ := and2 h1
    obtain ⟨h4, h5⟩ := and2 h3
    exact .mk' (fun _ h => nomatch h) (s_slc (okE hcal a c hc h2).pr (okO hcal lo c hc h4) (okO hcal hi c hc h5)) fun _ => rfl
  | .call f es, sc, W, X, e, c, hc, h => by
    obtain ⟨x, p, args, q, rfl, h1⟩ := i_call h
    obtain ⟨h2, h3⟩ := and2 h1
    obtain ⟨h4, h5⟩ := and2 h3
    obtain ⟨h6, h7⟩ := and2 h5
    obtain ⟨h8, h9⟩ := and2 h7
    have hn := i_ess h9
    refine .mk' (fun _ h => nomatch h) (s_call c (hc h2) (hcal h2 f (by simpa using h4)) (of_decide_eq_true h6) h8 hn.1 (fun e => ?_) (okA hcal es c hc h9)) fun _ => rfl
    subst e
    cases es with
    | nil => rfl
    | cons _ _ => have := hn.2; simp [esLen] at this
  | .blt f es, sc, W, X, e, c, hc, h => by
    obtain ⟨x, p, a, args, q, rfl, h1⟩ := i_blt h
    obtain ⟨h2, h3⟩ := and2 h1
    obtain ⟨h4, h5⟩ := and2 h3
    obtain ⟨h6, h7⟩ := and2 h5
    have hn := i_ess h7
    refine .mk' (fun _ h => nomatch h) (s_blt c ?_ (of_decide_eq_true h4) h6 hn.1 (okA hcal es c hc h7)) fun _ => rfl
    rw [Bool.or_eq_true] at h2
    exact h2.imp hc of_decide_eq_true
  | .isi a ts, sc, W, X, e, c, hc, h => by
    obtain ⟨x, p, e1, t, q, rfl, h1⟩ := i_isi h
    obtain ⟨h2, h3⟩ := and2 h1
    obtain ⟨h4, h5⟩ := and2 h3
    obtain ⟨h6, h7⟩ := and2 h5
    obtain ⟨h8, h9⟩ := and2 h7
    obtain ⟨h10, h11⟩ := and2 h9
    have ha := (okE hcal a c hc h10).pr
    split at h11
    · obtain ⟨h12, h13⟩ := and2 h11
      exact .mk' (fun _ h => nomatch h) (s_isiT c (of_decide_eq_true h2) h4 h6 (of_decide_eq_true h12) h13 ha) fun _ => rfl
    · exact .mk' (fun _ h => nomatch h) (s_isi1 c (of_decide_eq_true h2) h4 h6 h11 ha) fun _ => rfl
  | .fld a f, sc, W, X, e, c, hc, h => by
    obtain ⟨e1, fn, p, rfl, h1⟩ := i_fld h
    obtain ⟨h2, h3⟩ := and2 h1
    obtain ⟨h4, h5⟩ := and2 h3
    exact .mk' (fun _ h => nomatch h) (s_fld c (of_decide_eq_true h4) h2 (okE hcal a c hc h5).pr) fun _ => rfl
  | .meth cn m a es, sc, W, X, e, c, hc, h => by
    obtain ⟨e1, mn, ap, args, cp, rfl, h1⟩ := i_meth h
    obtain ⟨h2, h3⟩ := and2 h1
    obtain ⟨h4, h5⟩ := and2 h3
    obtain ⟨h6, h7⟩ := and2 h5
    obtain ⟨h8, h9⟩ := and2 h7
    obtain ⟨h10, h11⟩ := and2 h9
    obtain ⟨h12, h13⟩ := and2 h11
    have hn := i_ess h13
    refine .mk' (fun _ h => nomatch h) (s_meth c (hc h2) (of_decide_eq_true h6) h4 h8 hn.1 (of_decide_eq_true h12) (fun e => ?_) (okE hcal a c hc h10).pr (okA hcal es c hc h13)) fun _ => rfl
    subst e
    cases es with
    | nil => rfl
    | cons _ _ => have := hn.2; simp [esLen] at this
  | .new cn es, sc, W, X, e, c, hc, h => by
    obtain ⟨x, p, a, args, q, rfl, h1⟩ := i_new h
    obtain ⟨h2, h3⟩ := and2 h1
    obtain ⟨h4, h5⟩ := and2 h3
    obtain ⟨h6, h7⟩ := and2 h5
    have hn := i_ess h7
    exact .mk' (fun _ h => nomatch h) (s_new c (hc h2) (of_decide_eq_true h4) h6 hn.1 (okA hcal es c hc h7)) fun _ => rfl
  | .lset a, sc, W, X, e, c, hc, h => by
    obtain ⟨x, p, y, p2, e1, q, q2, rfl, h1⟩ := i_lset h
    obtain ⟨h2, h3⟩ := and2 h1
    obtain ⟨h4, h5⟩ := and2 h3
    obtain ⟨h6, h7⟩ := and2 h5
    obtain ⟨h8, h9⟩ := and2 h7
    obtain ⟨h10, h11⟩ := and2 h9
    obtain ⟨h12, h13⟩ := and2 h11
    exact .mk' (fun _ h => nomatch h) (s_lset c (hc h2) (of_decide_eq_true h4) (of_decide_eq_true h6) h8 h10 h12 (okE hcal a c hc h13).pr) fun _ => rfl
  | .lrg es, sc, W, X, e, c, hc, h => by
    obtain ⟨x, p, y, p2, args, q, q2, rfl, h1⟩ := i_lrg h
    obtain ⟨h2, h3⟩ := and2 h1
    obtain ⟨h4, h5⟩ := and2 h3
    obtain ⟨h6, h7⟩ := and2 h5
    obtain ⟨h8, h9⟩ := and2 h7
    obtain ⟨h10, h11⟩ := and2 h9
    obtain ⟨h12, h13⟩ := and2 h11
    refine .mk' (fun _ h => nomatch h) (s_lrg c (hc h2) (of_decide_eq_true h4) (of_decide_eq_true h6) h8 h10 (i_ess h13).1 ?_) fun _ => rfl
    match es, h13 with
    | .nil, h13 => rw [i_es0 h13] at h12; cases h12
    | .cons m .nil, h13 =>
      obtain ⟨a, ys, rfl, _, k2, k3⟩ := i_es1 h13
      cases i_es0 k3
      exact .inl ⟨a, m, rfl, rfl, (okE hcal m c hc k2).pe⟩
    | .cons m (.cons m2 .nil), h13 =>
      obtain ⟨a, ys, rfl, _, k2, k3⟩ := i_es1 h13
      obtain ⟨b, zs, rfl, _, k4, k5⟩ := i_es1 k3
      cases i_es0 k5
      exact .inr ⟨a, b, m, m2, rfl, rfl, (okE hcal m c hc k2).pe, (okE hcal m2 c hc k4).pe⟩
    | .cons m (.cons m2 (.cons m3 ms)), h13 =>
      obtain ⟨a, ys, rfl, _, k2, k3⟩ := i_es1 h13
      obtain ⟨b, zs, rfl, _, k4, k5⟩ := i_es1 k3
      obtain ⟨b3, zs3, rfl, _⟩ := i_es1 k5
      simp at h12
  | .mut m i es, sc, W, X, e, c, hc, h => by
    obtain ⟨x, p, f, ap, args, cp, rfl, h1⟩ := i_mut h
    obtain ⟨h2, h3⟩ := and2 h1
    obtain ⟨h4, h5⟩ := and2 h3
    obtain ⟨h6, h7⟩ := and2 h5
    obtain ⟨h8, h9⟩ := and2 h7
    obtain ⟨h10, h11⟩ := and2 h9
    obtain ⟨h12, h13⟩ := and2 h11
    obtain ⟨h14, h15⟩ := and2 h13
    have hn := i_ess h14
    refine .mk' (fun _ h => nomatch h) (s_mut c (by rw [h2, h4, h6, h8]; rfl) (of_decide_eq_true h10) h12 hn.1 (of_decide_eq_true h15) (okV hcal es c hc h14) fun e => ?_) fun _ => rfl
    subst e
    cases es with
    | nil => rfl
    | cons _ _ => have := hn.2; simp [esLen] at this
  | .lc tg src cs elt, sc, W, X, e, c, hc, h => by
    obtain ⟨el, t, it, ifs, a, scope, p, rfl, h1⟩ := i_lc h
    obtain ⟨h2, h3⟩ := and2 h1
    obtain ⟨h4, h5⟩ := and2 h3
    obtain ⟨h6, h7⟩ := and2 h5
    obtain ⟨h8, h9⟩ := and2 h7
    obtain ⟨h10, h11⟩ := and2 h9
    obtain ⟨h12, h13⟩ := and2 h11
    obtain ⟨h14, h15⟩ := and2 h13
    obtain ⟨h16, h17⟩ := and2 h15
    cases of_decide_eq_true h4
    exact .mk' (fun _ h => nomatch h) (s_lc c (hc h2) h6 h10 (okI hcal src c hc h12) (fun s H C cl fp => g_tg (X := X.blk s H scope (compEnvC scope cl C X.env) fp) (hc h2) c.hN c.nd (blk_k s H C cl fp) h8)
      (fun s H C cl fp => okTs hcal cs (c.blk s H C cl fp) hc (of_decide_eq_true h16) h14) (fun s H C cl fp => (okE hcal elt (c.blk s H C cl fp) hc h17).pe)) fun _ => rfl
theorem okA (hcal : calm = true → ∀ f ∈ fl, (G.fns f).isSome = true) : ∀ (ms : Es) {sc : Scope} {W : WX} {X : Cx} {es : List Expr}, Ct G g k sc N W X → (calm = true → X.calm = true) → chkEs N calm fl ms sc es = true → PA X es (tA X.K g G W ms)
  | .nil, sc, W, X, es, c, hc, h => by
    rw [i_es0 h]
    exact a_nil
  | .cons m ms, sc, W, X, es, c, hc, h => by
    obtain ⟨x, ys, rfl, h1, h2, h3⟩ := i_es1 h
    exact a_cons h1 (okE hcal m c hc h2).pr (okA hcal ms c hc h3)
theorem okV (hcal : calm = true → ∀ f ∈ fl, (G.fns f).isSome = true) : ∀ (ms : Es) {sc : Scope} {W : WX} {X : Cx} {es : List Expr}, Ct G g k sc N W X → (calm = true → X.calm = true) → chkEs N calm fl ms sc es = true → PA X es (tV X.K g G W ms)
  | .nil, sc, W, X, es, c, hc, h => by
    rw [i_es0 h]
    exact v_nil
  | .cons m ms, sc, W, X, es, c, hc, h => by
    obtain ⟨x, ys, rfl, h1, h2, h3⟩ := i_es1 h
    exact v_cons h1 (okE hcal m c hc h2).pe (okV hcal ms c hc h3)
theorem okO (hcal : calm = true → ∀ f ∈ fl, (G.fns f).isSome = true) : ∀ (m : Ox) {sc : Scope} {W : WX} {X : Cx} {o : Option Expr}, Ct G g k sc N W X → (calm = true → X.calm = true) → chkO N calm fl m sc o = true → PO X o (tO X.K g G W m)
  | .no, sc, W, X, o, c, hc, h => by
    rw [i_ono h]
    exact o_no
  | .so m, sc, W, X, o, c, hc, h => by
    obtain ⟨x, rfl, h1⟩ := i_oso h
    exact o_so (okE hcal m c hc h1).pe
theorem okB (hcal : calm = true → ∀ f ∈ fl, (G.fns f).isSome = true) : ∀ (ms : Es) (cc : Bool) {sc : Scope} {W : WX} {X : Cx} {es : List Expr} {p : Pos}, Ct G g k sc N W X → (calm = true → X.calm = true) → chkEs N calm fl ms sc es = true →
    PE X (.BoolOp (opOf cc) es p) (tBo X.K g G W cc ms) ∧ PW X (.BoolOp (opOf cc) es p) (tBt X.K g G W cc ms)
  | .nil, cc, sc, W, X, es, p, c, hc, h => by
    refine ⟨⟨fun pins s σ H Q I ⟨B, en, rs, vs, Xp, Q0, hs, hx, he, hq⟩ => ?_⟩, ⟨fun wh pins s σ H Q I ⟨B, en, rs, vs, Xp, Q0, hs, hx, he, hq⟩ => ?_⟩⟩
    · unfold evB at he
      exact he.elim
    · unfold evB at he
      exact he.elim
  | .cons m ms, cc, sc, W, X, es, p, c, hc, h => by
    obtain ⟨x, ys, rfl, h1, h2, h3⟩ := i_es1 h
    have k1 := okE hcal m c hc h2
    match ms, h3 with
    | .nil, h3 =>
      rw [i_es0 h3]
      exact ⟨b_one k1.pe, w_one k1.pt⟩
    | .cons m2 ms, h3 =>
      obtain ⟨k2, k3⟩ := okB hcal (.cons m2 ms) cc (p := p) c hc h3
      obtain ⟨x2, ys2, rfl, _⟩ := i_es1 h3
      exact ⟨b_cons k1.pe k2, w_cons k1.pt k3⟩
theorem okTs (hcal : calm = true → ∀ f ∈ fl, (G.fns f).isSome = true) : ∀ (ms : Es) {sc : Scope} {X : Cx} {es : List Expr}, Ct G g k sc N WF X → (calm = true → X.calm = true) → es.length ≤ 1 → chkEs N calm fl ms sc es = true → PTs X es (tTs X.K g G ms)
  | .nil, sc, X, es, c, hc, hl, h => by
    rw [i_es0 h]
    exact ts_nil
  | .cons m ms, sc, X, es, c, hc, hl, h => by
    obtain ⟨x, ys, rfl, h1, h2, h3⟩ := i_es1 h
    have e1 : ys = [] := List.eq_nil_of_length_eq_zero (by rw [List.length_cons] at hl; omega)
    subst e1
    have e2 : ms = .nil := by
      have := (i_ess h3).2
      cases ms with
      | nil => rfl
      | cons _ _ => simp [esLen] at this
    subst e2
    exact ts_one (okE hcal m c hc h2).pt
theorem okI (hcal : calm = true → ∀ f ∈ fl, (G.fns f).isSome = true) : ∀ (m : Src) {sc : Scope} {W : WX} {X : Cx} {e tg : Expr}, Ct G g k sc N W X → (calm = true → X.calm = true) → chkS N calm fl m sc e = true → PI X tg e (tI X.K g G W m)
  | .it m, sc, W, X, e, tg, c, hc, h => i_it (okE hcal m c hc (i_sit h)).pe
  | .rng ms, sc, W, X, e, tg, c, hc, h => by
    obtain ⟨x, p, args, q, rfl, h1⟩ := i_srng h
    obtain ⟨h2, h3⟩ := and2 h1
    obtain ⟨h4, h5⟩ := and2 h3
    obtain ⟨h6, h7⟩ := and2 h5
    cases of_decide_eq_true h2
    have hn := i_ess h7
    exact i_rng c h4 hn.1 hn.2 h6 (okV hcal ms c hc h7)
  | .rdn ms, sc, W, X, e, tg, c, hc, h => by
    obtain ⟨x, p, args, q, rfl, h1⟩ := i_srdn h
    obtain ⟨h2, h3⟩ := and2 h1
    obtain ⟨h4, h5⟩ := and2 h3
    obtain ⟨h6, h7⟩ := and2 h5
    cases of_decide_eq_true h2
    have hn := i_ess h7
    exact i_rdn c h4 hn.1 hn.2 h6 (okV hcal ms c hc h7)
  | .rev m, sc, W, X, e, tg, c, hc, h => by
    obtain ⟨x, p, a, q, rfl, h1⟩ := i_srev h
    obtain ⟨h2, h3⟩ := and2 h1
    obtain ⟨h4, h5⟩ := and2 h3
    obtain ⟨h6, h7⟩ := and2 h5
    cases of_decide_eq_true h2
    exact i_rev c h4 h6 (okE hcal m c hc h7).pe
end
end
end Pf

/-! Statements. -/
namespace Pf
open PySem PySem.Spec PyProof.Rows L2
def isLC : Expr → Bool
  | .ListComp _ _ _ _ => true
  | .SetComp _ _ _ _ => true
  | .DictComp _ _ _ _ _ => true
  | _ => false
def isTup : Expr → Bool
  | .Tuple _ _ _ => true
  | _ => false
def mLC : E → Bool
  | .lc _ _ _ _ => true
  | _ => false
section
variable (N : List Str)
mutual
def chkU : Option Nat → U → Scope → Expr → Bool
  | _, .int n, _, .Constant (.int z) _ _ => decide (n = z)
  | _, .bl b, _, .Constant (.bool z) _ _ => b == z
  | _, .non, _, .Constant .none _ _ => true
  | _, .str x, _, .Constant (.str z) _ _ => decide (z = Str.ofString x)
  | _, .var i, sc, .Name x _ => slotIs N i x && (vis sc x && (!(x == ("__debug__" : Str)) && !(x == ("__classdict__" : Str))))
  | some i, .fld f, sc, .Attribute (.Name x _) f' _ => decide (f' = Str.ofString f) && (slotIs N i x && (vis sc x && (!(x == ("__debug__" : Str)) && !(x == ("__classdict__" : Str)))))
  | io, .tup us, sc, .Tuple es _ _ => decide (es.length ≤ 1000) && chkUs io us sc es
  | io, .lst us, sc, .List es _ => decide (es.length ≤ 1000) && chkUs io us sc es
  | _, _, _, _ => false
def chkUs : Option Nat → List U → Scope → List Expr → Bool
  | _, [], _, [] => true
  | io, u :: us, sc, e :: es => nst e && (chkU io u sc e && chkUs io us sc es)
  | _, _, _, _ => false
end
end
section
variable (N : List Str) (el : List (String × Nat)) (pn : List Nat)
def chkSu : Option Nat → Su → Scope → Stmt → Bool
  | io, .asg i x, sc, .Assign [.Name y _] v _ => slotIs N i y && (loc sc y && (!pn.contains i && (!isLC v && chkU N io x sc v)))
  | io, .ret x, sc, .Return (some v) _ => chkU N io x sc v
  | _, .pas, _, .Pass _ => true
  | _, _, _, _ => false
def chkNm (sc : Scope) : Option Nat → Option Str → Bool
  | none, none => true
  | some i, some n => slotIs N i n && (decide (sc.names.lookup n = some .local) && !pn.contains i)
  | _, _ => false
def chkHs : Hs → Scope → List ExceptHandler → Bool
  | .nil, _, [] => true
  | .cons c io u hs, sc, .ExceptHandler (some (.Name x _)) nm [st] _ :: hds => decide (x = Str.ofString c) && (gl sc x && (el.any (fun q => q.1 == c) && (chkNm N pn sc io nm && (chkSu N pn io u sc st && chkHs hs sc hds))))
  | _, _, _ => false
end
section
variable (N : List Str) (fl : List String) (el : List (String × Nat)) (pn : List Nat)
mutual
def chkT : S → Scope → Stmt → Bool
  | .asg i e, sc, .Assign [.Name x _] v _ => slotIs N i x && (loc sc x && (!pn.contains i && ((mLC e || !isLC v) && chkE N true fl e sc v)))
  | .asgT is e, sc, .Assign [.Tuple ts _ _] v _ => (!isTup v && !isLC v) && (chkTgt N sc.names is (.Tuple ts 0 default) && (is.all (fun i => !pn.contains i) && chkE N true fl e sc v))
  | .aug i op e, sc, .AugAssign (.Name x _) op' v _ => slotIs N i x && (loc sc x && (!pn.contains i && (decide (op = op') && ((decide (op = .Add) || decide (op = .Sub)) && chkE N true fl e sc v))))
  | .put i k e, sc, .Assign [.Subscript (.Name x _) kx _] v _ => slotIs N i x && (vis sc x && (!(x == ("__debug__" : Str)) && (!(x == ("__classdict__" : Str)) && (nsl kx && (chkE N true fl k sc kx && (!isLC v && chkE N true fl e sc v))))))
  | .setf i f e, sc, .Assign [.Attribute (.Name x _) fn _] v _ => slotIs N i x && (vis sc x && (!(x == ("__debug__" : Str)) && (!(x == ("__classdict__" : Str)) && (decide (fn = Str.ofString f) && (!isLC v && chkE N true fl e sc v)))))
  | .augI i op k e, sc, .AugAssign (.Subscript (.Name x _) kx _) op' v _ => slotIs N i x && (vis sc x && (!(x == ("__debug__" : Str)) && (!(x == ("__classdict__" : Str)) && (nsl kx && (decide (op = op') && ((decide (op = .Add) || decide (op = .Sub)) && (chkE N true fl k sc kx && chkE N true fl e sc v)))))))
  | .expr e, sc, .Expr v _ => !isLC v && chkE N true fl e sc v
  | .pas, _, .Pass _ => true
  | .pas, _, .Expr (.Constant (.str _) _ _) _ => true
  | .ret e, sc, .Return (some v) _ => chkE N true fl e sc v
  | .retN, _, .Return none _ => true
  | .iff c a b, sc, .If x p q _ => chkE N true fl c sc x && (chkTs' a sc p && chkTs' b sc q)
  | .whl c b, sc, .While x p [] _ => chkE N true fl c sc x && chkTs' b sc p
  | .forr tg src b, sc, .For t it p [] _ => chkTgt N sc.names tg t && (tg.all (fun i => !pn.contains i) && (nset it && (chkS N true fl src sc it && chkTs' b sc p)))
  | .brk, _, .Break _ => true
  | .cnt, _, .Continue _ => true
  | .raise c es, sc, .Raise (some (.Call (.Name x _) args [] _)) none _ => decide (x = Str.ofString c) && (gl sc x && (el.contains (c, args.length) && (decide (args.length ≤ 100) && chkEs N true fl es sc args)))
  | .tri b hs, sc, .Try body (h0 :: hds) [] [] _ => chkTs' b sc body && chkHs N el pn hs sc (h0 :: hds)
  | _, _, _ => false
def chkTs' : Ss → Scope → List Stmt → Bool
  | .nil, _, [] => true
  | .cons s ss, sc, x :: xs => chkT s sc x && chkTs' ss sc xs
  | _, _, _ => false
end
end
def _root_.L2.Ends.len (n : Nat) (D : Ends) : Ends := { nx := fun σ H => σ.length = n → D.nx σ H, rt := D.rt, bk := fun σ H => σ.length = n → D.bk σ H, ct := fun σ H => σ.length = n → D.ct σ H }
theorem _root_.L2.SP.unlen {X : Cx} {pins : List (Addr × Obj)} {D : Ends} {f : Flow} {s' : Shared} (h : SP X pins (D.len X.N.length) f s') : SP X pins D f s' := by
  cases f with
  | next => obtain ⟨σ', H', I, q⟩ := h; exact ⟨σ', H', I, q I.len⟩
  | brk => obtain ⟨σ', H', I, q⟩ := h; exact ⟨σ', H', I, q I.len⟩
  | cont => obtain ⟨σ', H', I, q⟩ := h; exact ⟨σ', H', I, q I.len⟩
  | ret u => exact h
theorem _root_.L2.PS.imL {X : Cx} {st : Stmt} {t t' : TS} (h : PS X st t) (i : ∀ D σ H, σ.length = X.N.length → t' D σ H → t (D.len X.N.length) σ H) : PS X st t' :=
  ⟨fun pins s σ H D I q => thn (h.run pins s σ H (D.len X.N.length) I (i D σ H I.len q)) fun _ _ q => q.unlen⟩
theorem _root_.L2.PSs.imL {X : Cx} {st : List Stmt} {t t' : TS} (h : PSs X st t) (i : ∀ D σ H, σ.length = X.N.length → t' D σ H → t (D.len X.N.length) σ H) : PSs X st t' :=
  ⟨fun pins s σ H D I q => thn (h.run pins s σ H (D.len X.N.length) I (i D σ H I.len q)) fun _ _ q => q.unlen⟩
section
variable (K : PySem.W.Frag) (g : Str → Addr) (G : Gb) (W : WX) (n : Nat) (pn : List Nat)
/-- the ends fit -/
structure EL (B : Bs) (P : Pt) (D : Ends) : Prop where
  nx : ∀ en σ H, σ.length = n → P.nx en → ST K g B en [] σ [] H → D.nx σ H
  rt : ∀ d en σ v H, P.rt d en → ST K g B en [.v d] σ [v] H → D.rt v H
  bk : ∀ en σ H, σ.length = n → P.bk en → ST K g B en [] σ [] H → D.bk σ H
  ct : ∀ en σ H, σ.length = n → P.ct en → ST K g B en [] σ [] H → D.ct σ H
def tS (r : En → Pt → Prop) : TS := fun D σ H => ∃ B en P, ST K g B en [] σ [] H ∧ XL K g G B W P.ex ∧ (∀ p ∈ B.pin, p.1 ∈ pn) ∧ r en P ∧ EL K g n B P D
end
/-- the context of a body -/
structure Cs (X : Cx) (sc : Scope) : Prop where
  calm : X.calm = true
  po : PassesOwn (model X.prog X.w) X.A X.env X.xe
  fn : ∀ x, X.fn x = true
  kind : X.env.scope.kind = .function
  stk : X.stack = X.env :: X.outer
  frm : X.env.frame = some X.env.locals
section
variable {G : Gb} {g : Str → Addr} {k : Nat} {sc : Scope} {N : List Str} {W : WX} {X : Cx} {pn : List Nat} {fl : List String} {el : List (String × Nat)}
theorem Cs.loc (cs : Cs X sc) (c : Ct G g k sc N W X) {x : Str} (h : loc sc x = true) : L2.Loc X.env.scope x := by
  unfold Pf.loc at h
  rw [Bool.or_eq_true] at h
  rw [c.sc]
  exact h.imp of_decide_eq_true of_decide_eq_true
theorem swap_no {v : Expr} {t : Option Expr} {l : Nat} {env : Env} (h : isLC v = false) : swapsWith v t l env = pure false := by
  cases v <;> first | rfl | cases h
theorem slot_lt {i : Nat} {x : Str} (h : slotIs N i x = true) : i < N.length := (List.getElem?_eq_some_iff.mp (of_decide_eq_true h)).1
theorem notin {i : Nat} (h : (!pn.contains i) = true) : i ∉ pn := by simpa using h
/-- a name gets the value of an expression -/
theorem asg_rd {i : Nat} {m : E} {D : Ends} {σ : L2.St} {H : Hp} (hi : i < N.length) (hp : i ∉ pn) (hl : σ.length = N.length) (h : tS X.K g G W N.length pn (run G (.asg i m)) D σ H) : tAsg (tE X.K g G W m) (gName i) (D.len N.length) σ H := by
  obtain ⟨B, en, P, hs, hx, hpn, hr, hD⟩ := h
  unfold run at hr
  refine ⟨B, en, [], [], P.ex, _, hs, hx, hr, fun d e1 v H1 h1 s1 hl' => ?_⟩
  exact hD.nx _ _ _ hl' h1 (s1.set1 (ts := []) (by rw [hl]; exact hi) fun p hp' e => hp (e ▸ hpn p hp'))
theorem t_asg (cs : Cs X sc) (c : Ct G g k sc N W X) {i : Nat} {m : E} {x : Str} {v : Expr} {p ap : Pos} (h1 : slotIs N i x = true) (h2 : loc sc x = true) (h3 : (!pn.contains i) = true) (h4 : isLC v = false) (hv : PE X v (tE X.K g G W m)) :
    PS X (.Assign [.Name x p] v ap) (tS X.K g G W N.length pn (run G (.asg i m))) :=
  (ps_set (by rw [c.hN]; exact c.nd) (by rw [c.hN]; exact of_decide_eq_true h1) (cs.loc c h2) hv (swap_no h4) (.inl (cs.fn x))).imL fun D σ H hl h => by
    rw [c.hN] at hl ⊢
    exact asg_rd (slot_lt h1) (notin h3) hl h
theorem t_asgLc (cs : Cs X sc) (c : Ct G g k sc N W X) {i : Nat} {x : Str} {p ap : Pos} (h1 : slotIs N i x = true) (h2 : loc sc x = true) (h3 : (!pn.contains i) = true) {el t it : Expr} {ifs : List Expr} {scope : Scope} {pos : Pos} {tg : List Nat} {src : Src} {cs' : Es} {elt : E} (hb : blkC N sc scope (ownOf N tg) = true) (hst : nset it = true)
    (hi : PI X t it (tI X.K g G W src))
    (hg : ∀ (s : Shared) (H : Hp) (C : Addr) (cl : List (Str × Addr)) (fp : List Addr), PG (X.blk s H scope (compEnvC scope cl C X.env) fp) t (tG X.K g tg))
    (ht : ∀ (s : Shared) (H : Hp) (C : Addr) (cl : List (Str × Addr)) (fp : List Addr), PTs (X.blk s H scope (compEnvC scope cl C X.env) fp) ifs (tTs X.K g G cs'))
    (he : ∀ (s : Shared) (H : Hp) (C : Addr) (cl : List (Str × Addr)) (fp : List Addr), PE (X.blk s H scope (compEnvC scope cl C X.env) fp) el (tE X.K g G WF elt))
    (im : ∀ σ H Q, σ.length = X.N.length → tE X.K g G W (.lc tg src cs' elt) σ H Q → tLc (tI X.K g G W src) (tG X.K g tg) (tTs X.K g G cs') (tE X.K g G WF elt) ((ownOf N tg).map (·.2)) σ H Q) :
    PS X (.Assign [.Name x p] (.ListComp el [⟨t, it, ifs, 0⟩] scope pos) ap) (tS X.K g G W N.length pn (run G (.asg i (.lc tg src cs' elt)))) := by
  have ok : BlkOk X.N X.env.scope scope (ownOf N tg) := by rw [c.hN, c.sc]; exact blkOk_by hb
  have rd : ∀ D σ H, σ.length = X.N.length → tS X.K g G W N.length pn (run G (.asg i (.lc tg src cs' elt))) D σ H → tAsg (tLc (tI X.K g G W src) (tG X.K g tg) (tTs X.K g G cs') (tE X.K g G WF elt) ((ownOf N tg).map (·.2))) (gName i) (D.len X.N.length) σ H := fun D σ H hl h => by
    have h' := asg_rd (X := X) (slot_lt h1) (notin h3) (by rw [← c.hN]; exact hl) h
    rw [c.hN]
    exact im σ H _ hl h'
  have hN : X.N.Nodup := by rw [c.hN]; exact c.nd
  have hx : X.N[i]? = some x := by rw [c.hN]; exact of_decide_eq_true h1
  have sw : swapsWith (.ListComp el [⟨t, it, ifs, 0⟩] scope pos) (some (.Name x p)) ap.line X.env = pure (X.env.blockKind == .function && X.env.kindOf x == some .local && p.line == pos.line && !(scope.names.any fun (n, k) => n == x && (k == .local || k == .cell))) := rfl
  cases hb' : (X.env.blockKind == .function && X.env.kindOf x == some .local && p.line == pos.line && !(scope.names.any fun (n, k) => n == x && (k == .local || k == .cell))) with
  | true =>
    rw [hb'] at sw
    have hy : X.env.scope.names.lookup x = some .local := by
      rw [Bool.and_eq_true, Bool.and_eq_true, Bool.and_eq_true] at hb'
      have := hb'.1.1.2
      exact eq_of_beq this
    exact (ps_setLc cs.calm hN hx hy sw hi ok hg ht he (fun x => folded_of hst x)).imL rd
  | false =>
    rw [hb'] at sw
    exact (ps_set hN hx (cs.loc c h2) (pe_lc cs.calm hN hi ok hg ht he (fun x => folded_of hst x)) sw (.inl (cs.fn x))).imL rd
theorem t_asgT (cs : Cs X sc) (c : Ct G g k sc N W X) {is : List Nat} {m : E} {ts : List Expr} {v : Expr} {kk : Nat} {p ap : Pos} (h1 : (!isTup v && !isLC v) = true) (h2 : chkTgt N sc.names is (.Tuple ts 0 default) = true) (h3 : is.all (fun i => !pn.contains i) = true) (hv : PE X v (tE X.K g G W m)) :
    PS X (.Assign [.Tuple ts kk p] v ap) (tS X.K g G W N.length pn (run G (.asgT is m))) := by
  obtain ⟨h4, h5⟩ := and2 h1
  have hg : PG X (.Tuple ts kk p) (tG X.K g is) := by
    refine g_tg (names := sc.names) cs.calm c.hN c.nd (fun x h => ⟨by rw [c.sc]; exact h, .inl (cs.fn x)⟩) ?_
    match is, h2 with
    | i :: j :: is, h2 => exact h2
  refine (ps_asg hv hg ?_ ?_ rfl).imL fun D σ H hl ⟨B, en, P, hs, hx, hpn, hr, hD⟩ => ?_
  · exact (swap_no (not1 h5) : swapsWith v (some (.Tuple ts kk p)) ap.line X.env = pure false)
  · cases v <;> first | rfl | (cases h4; done)
  · unfold run at hr
    refine ⟨B, en, [], [], P.ex, _, hs, hx, hr, fun d e1 u H1 ⟨ds, e2, ed, h6, h7⟩ s1 => ?_⟩
    match is, h2 with
    | i :: j :: is, h2 =>
      refine ⟨B, e1, [], [], d, P.nx, s1, fun x hx' => ⟨?_, fun p hp e => ?_⟩, ⟨ds, e2, ed, h6, h7⟩, fun e3 σ3 h8 hl3 _ s3 hl4 => hD.nx _ _ _ (by rw [← c.hN]; exact hl4) h8 s3⟩
      · rw [hl, c.hN]
        have hall : ∀ {tg : List Nat} {es : List Expr}, chkTg N sc.names tg es = true → ∀ i ∈ tg, i < N.length := by
          intro tg
          induction tg with
          | nil => intro es _ i hi; cases hi
          | cons a tg ih =>
            intro es h i hi
            cases es with
            | nil => cases h
            | cons e es =>
              cases e with
              | Name y q =>
                obtain ⟨k1, k2⟩ := and2 h
                rcases List.mem_cons.mp hi with rfl | hi
                · exact slot_lt (and2 k1).1
                · exact ih k2 i hi
              | _ => cases h
        exact hall h2 x hx'
      · have := List.all_eq_true.mp h3 x hx'
        exact notin this (e ▸ hpn p hp)
theorem t_aug (cs : Cs X sc) (c : Ct G g k sc N W X) {i : Nat} {op : Operator} {m : E} {x : Str} {v : Expr} {p ap : Pos} (h1 : slotIs N i x = true) (h2 : loc sc x = true) (h3 : (!pn.contains i) = true) (hop : op = .Add ∨ op = .Sub) (hv : PE X v (tE X.K g G W m)) :
    PS X (.AugAssign (.Name x p) op v ap) (tS X.K g G W N.length pn (run G (.aug i op m))) := by
  have rd : ∀ (f : Int → Int → Int), (∀ en P, run G (.aug i op m) en P → (∃ d0, (en[i]?).join = some d0) ∧ ev G m en (fun y e1 => match (e1[i]?).join with
      | some (.int x) => ∃ j, y = .int j ∧ P.nx (e1.set i (some (.int (f x j))))
      | _ => False) P.ex) → ∀ D σ H, σ.length = X.N.length → tS X.K g G W N.length pn (run G (.aug i op m)) D σ H → tAug i (tE X.K g G W m) (ipI f) (D.len X.N.length) σ H := by
    intro f hf D σ H hl ⟨B, en, P, hs, hx, hpn, hr, hD⟩
    obtain ⟨⟨d0, h0⟩, hr⟩ := hf en P hr
    obtain ⟨v0, e0, s0⟩ := hs.slot h0
    refine ⟨v0, e0, B, en, [], [], P.ex, _, hs, hx, hr, fun d e1 u H1 h1' s1 => ?_⟩
    split at h1'
    · rename_i x0 hx0
      obtain ⟨j, rfl, h6⟩ := h1'
      obtain ⟨v1, e1', s2⟩ := s1.slot hx0
      rw [e0] at e1'
      cases e1'
      obtain ⟨Z, O, r, _⟩ := s2.rep hx0
      cases r
      obtain ⟨Z, O, r, _⟩ := s1.rep rfl
      cases r
      refine ⟨x0, j, rfl, rfl, fun hl' => hD.nx _ _ _ (by rw [← c.hN]; exact hl') h6 ((s1.drop.flat (d := .int (f x0 j)) fun Z => .int _).set1 (ts := []) (by rw [hl, c.hN]; exact slot_lt h1) fun p hp e => notin h3 (e ▸ hpn p hp))⟩
    · exact h1'.elim
  have base : ∀ {ti : TIp}, PIp X op ti → PS X (.AugAssign (.Name x p) op v ap) (tAug i (tE X.K g G W m) ti) := fun ho => ps_aug (by rw [c.hN]; exact c.nd) (by rw [c.hN]; exact of_decide_eq_true h1) (cs.loc c h2) hv ho (.inl (cs.fn x))
  rcases hop with rfl | rfl
  · exact (base ip_add).imL (rd _ fun en P h => by unfold run at h; exact h)
  · exact (base ip_sub).imL (rd _ fun en P h => by unfold run at h; exact h)
theorem RepL.setj {K : PySem.W.Frag} {Z : AS} {H : Hp} {d : Pf.D} {u : V} {O2 : AS} : ∀ {xs : List Pf.D} {ws : List V} (j : Nat) {O1 O : AS}, RepL K g Z H xs ws O1 → Rep K g Z H d u O2 → (∀ b, O1 b → O b) → (∀ b, O2 b → O b ∧ ¬ O1 b) → RepL K g Z H (xs.set j d) (ws.set j u) O
  | [], _, j, _, _, .nil, _, _, _ => .nil
  | x :: xs, _, 0, O1, O, .cons s1 s2 r t, q, b1, b2 => .cons (O1 := O2) (O2 := _) (fun b z => (b2 b z).1) (fun b z => ⟨b1 b (s2 b z).1, fun y => (b2 b y).2 (s2 b z).1⟩) q t
  | x :: xs, _, j + 1, O1, O, .cons (O1 := Ox) (O2 := Ot) s1 s2 r t, q, b1, b2 => .cons (O1 := Ox) (O2 := fun b => Ot b ∨ O2 b) (fun b z => b1 b (s1 b z)) (fun b z => z.elim (fun z => ⟨b1 b (s2 b z).1, (s2 b z).2⟩) fun z => ⟨(b2 b z).1, fun y => (b2 b z).2 (s1 b y)⟩) r
      (RepL.setj j t q (fun b z => .inl z) fun b z => ⟨.inr z, fun y => (b2 b z).2 (s2 b y).1⟩)
theorem t_put (c : Ct G g k sc N W X) {i : Nat} {mk m : E} {x : Str} {kx v : Expr} {p sp ap : Pos} (h1 : slotIs N i x = true) (h2 : vis sc x = true) (h3 : (!(x == ("__debug__" : Str))) = true) (h4 : (!(x == ("__classdict__" : Str))) = true) (hs : nsl kx = true) (hl : isLC v = false)
    (hk : PE X kx (tE X.K g G W mk)) (hv : PE X v (tE X.K g G W m)) : PS X (.Assign [.Subscript (.Name x p) kx sp] v ap) (tS X.K g G W N.length pn (run G (.put i mk m))) := by
  have ho : PE X (.Name x p) (tVar i) := pe_name c (by rw [h1, h2, h3, h4]; rfl)
  refine (ps_asg hv (pg_sub ho hk set_list (fun v => by cases kx <;> first | rfl | cases hs)) ?_ ?_ rfl).imL fun D σ H hlen ⟨B, en, P, hs', hx, hpn, hr, hD⟩ => ?_
  · exact (swap_no hl : swapsWith v (some (.Subscript (.Name x p) kx sp)) ap.line X.env = pure false)
  · cases v <;> rfl
  · unfold run at hr
    refine ⟨B, en, [], [], P.ex, _, hs', hx, hr, fun d e1 u H1 ⟨⟨ws0, h0⟩, hr1⟩ s1 => ?_⟩
    obtain ⟨a0, ws, e1', e2', e3', _⟩ := ST.mutL (ds := []) (us := []) (ys := []) s1 rfl h0
    refine ⟨.ref a0, e1', B, e1, _, _, P.ex, _, s1, hx, hr1, fun y e2 z H2 h5 s2 => ?_⟩
    split at h5
    · rename_i xs zz hi
      obtain ⟨j, hj, h6⟩ := h5
      obtain ⟨Z, O, r, _⟩ := s2.rep rfl
      cases r
      have s3 := s2.drop
      obtain ⟨a1, ws1, f1, f2, f3, _, f5⟩ := ST.mutL (ds := [d]) (us := [u]) (rs := []) (vs := []) (ys := xs.set j d) s3 rfl hi
      rw [e1'] at f1
      cases f1
      refine ⟨a0, ws1, zz, j, rfl, rfl, f2, by rw [← f3]; exact hj, fun hl' => hD.nx _ _ _ (by rw [← c.hN]; exact hl') h6 (f5 _ fun Z O1 O2 r1 r2 O b1 b2 => ?_)⟩
      cases r2 with
      | cons c1 c2 r t => exact RepL.setj j r1 (r.up c1) b1 b2
    · exact h5.elim
theorem get_listI : PGet X (fun o i H Q => ∃ p xs k v, o = .ref p ∧ i = .int k ∧ SqL X.K H p xs ∧ atI xs k = some v ∧ Q v H) := by
  intro pins s σ H x y v u Q I rx ry h
  obtain ⟨p, xs, i, z, rfl, rfl, hq, he, q⟩ := h
  cases rx
  obtain ⟨t, rfl⟩ := ry
  obtain ⟨its, r, pl, hz⟩ := I.list hq
  obtain ⟨j, h1, h2, h3, h4, h5⟩ := atI_get he
  obtain ⟨w, ew, rw'⟩ := r.get h2
  have hl := r.length
  have hn := line63
  have fin : EP X pins σ Q w s := ⟨z, H, I, rw', q⟩
  by_cases h0 : 0 ≤ i
  · have hj : i.toNat = j := by
      rw [seqIndex_of h0 h5] at h1
      exact Option.some.inj h1
    exact wpAny_getItem_list pl.isList h0 (by omega) (by rw [hj]; simpa using ew) fin
  · have hj : (i + (its.toArray.size : Int)).toNat = j := by
      rw [seqIndex_neg (by omega) h4] at h1
      rw [List.size_toArray, ← hl]
      exact Option.some.inj h1
    exact wpAny_getItem_list_neg pl.isList (by omega) (by rw [List.size_toArray] <;> omega) (by omega) (by rw [hj]; simpa using ew) fin
theorem t_augI (c : Ct G g k sc N W X) {i : Nat} {op : Operator} {mk m : E} {x : Str} {kx v : Expr} {p sp ap : Pos} (h1 : slotIs N i x = true) (h2 : vis sc x = true) (h3 : (!(x == ("__debug__" : Str))) = true) (h4 : (!(x == ("__classdict__" : Str))) = true) (hsl : nsl kx = true) (hop : op = .Add ∨ op = .Sub)
    (hk : PE X kx (tE X.K g G W mk)) (hv : PE X v (tE X.K g G W m)) : PS X (.AugAssign (.Subscript (.Name x p) kx sp) op v ap) (tS X.K g G W N.length pn (run G (.augI i op mk m))) := by
  have ho : PE X (.Name x p) (tVar i) := pe_name c (by rw [h1, h2, h3, h4]; rfl)
  have base : ∀ (f : Int → Int → Int), (∀ en P, run G (.augI i op mk m) en P → (∃ ws, (en[i]?).join = some (.lst true ws)) ∧ ev G mk en (fun x e1 => match (e1[i]?).join, x with
      | some (.lst true xs), .int z => ∃ j x0, ixN xs.length z = some j ∧ xs[j]? = some (.int x0) ∧ ev G m e1 (fun y e2 => match (e2[i]?).join, y with
        | some (.lst true ys), .int y => ∃ j2, ixN ys.length z = some j2 ∧ P.nx (e2.set i (some (.lst true (ys.set j2 (.int (f x0 y))))))
        | _, _ => False) P.ex
      | _, _ => False) P.ex) → PIp X op (ipI f) → PS X (.AugAssign (.Subscript (.Name x p) kx sp) op v ap) (tS X.K g G W N.length pn (run G (.augI i op mk m))) := by
    intro f hf hip
    refine (ps_augS ho hk get_listI hv hip set_list (fun ov iv new => by cases kx <;> first | rfl | cases hsl)).imL fun D σ H hlen ⟨B, en, P, hs', hx, hpn, hr, hD⟩ => ?_
    obtain ⟨⟨ws0, h0⟩, hr1⟩ := hf en P hr
    obtain ⟨a0, ws, e1', e2', e3', _⟩ := ST.mutL (ds := []) (us := []) (ys := []) hs' rfl h0
    refine ⟨.ref a0, e1', B, en, [], [], P.ex, _, hs', hx, hr1, fun y e2 z H2 h5 s2 => ?_⟩
    split at h5
    · rename_i xs zz hi
      obtain ⟨j, x0, hj, hj2, h6⟩ := h5
      obtain ⟨Z, O, r, _⟩ := s2.rep rfl
      cases r
      have s3 := s2.drop
      obtain ⟨a1, ws1, f1, f2, f3, ⟨Z', O', rl⟩, _⟩ := ST.mutL (ds := []) (us := []) (ys := []) s3 rfl hi
      rw [e1'] at f1
      cases f1
      obtain ⟨w, hw, rw'⟩ := rl.get hj2
      have hw' : w = .int x0 := by cases rw'; rfl
      subst hw'
      refine ⟨a0, ws1, zz, .int x0, rfl, rfl, .inl (.inl f2), by unfold L2.atI; rw [← f3, hj]; exact hw, B, e2, [], [], P.ex, _, s3, hx, h6, fun y2 e3 z2 H3 h7 s4 => ?_⟩
      split at h7
      · rename_i ys yy hi2
        obtain ⟨j2, hj3, h8⟩ := h7
        obtain ⟨Z, O, r, _⟩ := s4.rep rfl
        cases r
        have s5 := s4.drop
        have s6 : ST X.K g B e3 [.v (.int (f x0 yy))] σ [.int (f x0 yy)] H3 := s5.flat fun Z => .int _
        obtain ⟨a2, ws2, g1, g2, g3, _, g5⟩ := ST.mutL (ds := [.int (f x0 yy)]) (us := [.int (f x0 yy)]) (rs := []) (vs := []) (ys := ys.set j2 (.int (f x0 yy))) s6 rfl hi2
        rw [e1'] at g1
        cases g1
        refine ⟨x0, yy, rfl, rfl, a0, ws2, zz, j2, rfl, rfl, g2, by rw [← g3]; exact hj3, fun hl' => hD.nx _ _ _ (by rw [← c.hN]; exact hl') h8 (g5 _ fun Z O1 O2 r1 r2 O b1 b2 => ?_)⟩
        cases r2 with
        | cons c1 c2 r t => exact RepL.setj j2 r1 (r.up c1) b1 b2
      · exact h7.elim
    · exact h5.elim
  rcases hop with rfl | rfl
  · exact base (fun i j => i + j) (fun en P h => by unfold run at h; exact h) ip_add
  · exact base (fun i j => i - j) (fun en P h => by unfold run at h; exact h) ip_sub
theorem t_setf (c : Ct G g k sc N W X) {i : Nat} {f : String} {m : E} {x fn : Str} {v : Expr} {p sp ap : Pos} (h1 : slotIs N i x = true) (h2 : vis sc x = true) (h3 : (!(x == ("__debug__" : Str))) = true) (h4 : (!(x == ("__classdict__" : Str))) = true) (hf : fn = Str.ofString f) (hl : isLC v = false)
    (hv : PE X v (tE X.K g G W m)) : PS X (.Assign [.Attribute (.Name x p) fn sp] v ap) (tS X.K g G W N.length pn (run G (.setf i f m))) := by
  subst hf
  have ho : PE X (.Name x p) (tVar i) := pe_name c (by rw [h1, h2, h3, h4]; rfl)
  refine (ps_fld ho hv (swap_no hl)).imL fun D σ H hlen ⟨B, en, P, hs', hx, hpn, hr, hD⟩ => ?_
  unfold run at hr
  refine ⟨B, en, [], [], P.ex, _, hs', hx, hr, fun d e1 u H1 h5 s1 => ?_⟩
  split at h5
  · rename_i cn ns fs hi
    obtain ⟨hk, hno, hlt, h6⟩ := h5
    obtain ⟨a, dx, ws, e1', ea, hl2, hst⟩ := s1.mutI hi
    obtain ⟨cl, na⟩ := c.ok.fok _ _ hk
    refine ⟨.ref a, e1', a, g cn, dx, _, rfl, ea, cl, na, ?_, fun hl' => ?_⟩
    · rw [List.length_zip]
      omega
    · rw [putF_new hl2 hno]
      exact hD.nx _ _ _ (by rw [← c.hN]; exact hl') h6 (hst _)
  · exact h5.elim
theorem t_expr (c : Ct G g k sc N W X) {m : E} {v : Expr} {ap : Pos} (h : isLC v = false) (hv : PE X v (tE X.K g G W m)) : PS X (.Expr v ap) (tS X.K g G W N.length pn (run G (.expr m))) := by
  refine (ps_expr hv (swap_no h)).imL fun D σ H hlen ⟨B, en, P, hs', hx, hpn, hr, hD⟩ => ?_
  unfold run at hr
  exact ⟨B, en, [], [], P.ex, _, hs', hx, hr, fun d e1 u H1 h1 s1 hl => hD.nx _ _ _ (by rw [← c.hN]; exact hl) h1 s1.drop⟩
theorem ST.take {B : Bs} {en : En} {i : Nat} {d : Pf.D} {σ : Sg} {H : Hp} (h : ST X.K g B en [] σ [] H) (hi : (en[i]?).join = some d) : ∃ v, σ[i]? = some (some v) ∧ ST X.K g B (en.set i none) [.v d] σ [v] H := by
  obtain ⟨⟨Z, O, O1, O2, e, t, s1, s2, q, p⟩, hl⟩ := h
  obtain ⟨v, A, C, ev, r, e', a1, a2⟩ := e.split (join_some hi)
  refine ⟨v, ev, ⟨Z, O, C, fun b => A b ∨ O2 b, e', .v (O1 := A) (O2 := O2) (fun b z => .inl z) (fun b z => ⟨.inr z, fun y => (s2 b z).2 (a1 b y)⟩) r t, fun b z => s1 b (a2 b z).1, fun b z => ?_, q, p⟩, rfl⟩
  rcases z with z | z
  · exact ⟨s1 b (a1 b z), fun y => (a2 b y).2 z⟩
  · exact ⟨(s2 b z).1, fun y => (s2 b z).2 (a2 b y).1⟩
theorem t_ret (c : Ct G g k sc N W X) {m : E} {v : Expr} {ap : Pos} (h : ∀ i, m ≠ .var i) (hv : PE X v (tE X.K g G W m)) : PS X (.Return (some v) ap) (tS X.K g G W N.length pn (run G (.ret m))) := by
  refine (ps_ret hv).imL fun D σ H hlen ⟨B, en, P, hs', hx, hpn, hr, hD⟩ => ?_
  have hr' : ev G m en P.rt P.ex := by
    cases m <;> first | (exact absurd rfl (h _)) | (unfold run at hr; exact hr)
  exact ⟨B, en, [], [], P.ex, _, hs', hx, hr', fun d e1 u H1 h1 s1 => hD.rt _ _ _ _ _ h1 s1⟩
theorem t_retV (c : Ct G g k sc N W X) {i : Nat} {x : Str} {p ap : Pos} (h : (slotIs N i x && (vis sc x && (!(x == ("__debug__" : Str)) && !(x == ("__classdict__" : Str))))) = true) : PS X (.Return (some (.Name x p)) ap) (tS X.K g G W N.length pn (run G (.ret (.var i)))) := by
  refine (ps_ret (pe_name c h)).imL fun D σ H hlen ⟨B, en, P, hs', hx, hpn, hr, hD⟩ => ?_
  unfold run at hr
  dsimp only at hr
  split at hr
  · rename_i d hd
    by_cases hf : fz d = true
    · rw [if_pos hf] at hr
      obtain ⟨v, ev, s⟩ := hs'.read hd hf
      exact ⟨v, ev, hD.rt _ _ _ _ _ hr s⟩
    · rw [if_neg hf] at hr
      obtain ⟨v, ev, s⟩ := ST.take hs' hd
      exact ⟨v, ev, hD.rt _ _ _ _ _ hr s⟩
  · exact hr.elim
theorem t_if (c : Ct G g k sc N W X) {mc : E} {a b : Ss} {x : Expr} {p q : List Stmt} {ap : Pos} (hc : PT X x (tT X.K g G W mc)) (ha : PSs X p (tS X.K g G W N.length pn (runs G a))) (hb : PSs X q (tS X.K g G W N.length pn (runs G b))) :
    PS X (.If x p q ap) (tS X.K g G W N.length pn (run G (.iff mc a b))) := by
  refine (⟨fun pins s σ H D I h => (ps_if hc ha hb).run pins s σ H D I h⟩ : PS X (.If x p q ap) (tIfS (tT X.K g G W mc) (tS X.K g G W N.length pn (runs G a)) (tS X.K g G W N.length pn (runs G b)))) |> fun h0 => ⟨fun pins s σ H D I ⟨B, en, P, hs', hx, hpn, hr, hD⟩ => h0.run pins s σ H D I ?_⟩
  unfold run at hr
  refine ⟨B, en, [], [], P.ex, fun t e1 => if t = true then runs G a e1 P else runs G b e1 P, hs', hx, hr, fun t e1 H1 h1 s1 => ?_⟩
  cases t with
  | true => exact ⟨B, e1, P, s1, hx, hpn, h1, hD⟩
  | false => exact ⟨B, e1, P, s1, hx, hpn, h1, hD⟩
theorem t_while (cs : Cs X sc) (c : Ct G g k sc N W X) {mc : E} {b : Ss} {x : Expr} {p : List Stmt} {ap : Pos} (hc : PT X x (tT X.K g G W mc)) (hb : PSs X p (tS X.K g G W N.length pn (runs G b))) :
    PS X (.While x p [] ap) (tS X.K g G W N.length pn (run G (.whl mc b))) := by
  refine (ps_while cs.po hc (hb.imL (t' := fun D σ H => σ.length = N.length → tS X.K g G W N.length pn (runs G b) (D.len N.length) σ H) fun D σ H hl h => by
    rw [c.hN] at hl ⊢
    exact h hl)).imL fun D σ H hlen ⟨B, en, P, hs', hx, hpn, hr, hD⟩ => ?_
  unfold run at hr
  rw [c.hN] at hlen ⊢
  obtain ⟨n0, hr⟩ := hr
  refine ⟨fun m σ H => σ.length = N.length ∧ ∃ en, ST X.K g B en [] σ [] H ∧ whW (fun e1 K => ev G mc e1 (fun d e2 => ∃ t, d = .bl t ∧ K t e2) P.ex) (fun e1 K => runs G b e1 { P with nx := K, ct := K, bk := P.nx }) P.nx m en, ⟨n0, hlen, en, hs', hr⟩, ?_⟩
  rintro m σ1 H1 ⟨hl1, e1, s1, h1⟩
  cases m with
  | zero => exact (show False from h1).elim
  | succ m =>
    refine ⟨B, e1, [], [], P.ex, fun t e2 => if t = true then runs G b e2 { P with nx := whW (fun e1 K => ev G mc e1 (fun d e2 => ∃ t, d = .bl t ∧ K t e2) P.ex) (fun e1 K => runs G b e1 { P with nx := K, ct := K, bk := P.nx }) P.nx m, ct := whW (fun e1 K => ev G mc e1 (fun d e2 => ∃ t, d = .bl t ∧ K t e2) P.ex) (fun e1 K => runs G b e1 { P with nx := K, ct := K, bk := P.nx }) P.nx m, bk := P.nx } else P.nx e2, s1, hx, h1, fun t e2 H2 h2 s2 => ?_⟩
    cases t with
    | true =>
      rw [if_pos rfl] at h2 ⊢
      refine ⟨fun σ' H' => σ'.length = N.length ∧ ∃ en, ST X.K g B en [] σ' [] H' ∧ whW (fun e1 K => ev G mc e1 (fun d e2 => ∃ t, d = .bl t ∧ K t e2) P.ex) (fun e1 K => runs G b e1 { P with nx := K, ct := K, bk := P.nx }) P.nx m en, fun σ' H' h => ⟨m, Nat.lt_succ_self m, h⟩, fun hl2 => ⟨B, e2, { P with nx := whW (fun e1 K => ev G mc e1 (fun d e2 => ∃ t, d = .bl t ∧ K t e2) P.ex) (fun e1 K => runs G b e1 { P with nx := K, ct := K, bk := P.nx }) P.nx m, ct := whW (fun e1 K => ev G mc e1 (fun d e2 => ∃ t, d = .bl t ∧ K t e2) P.ex) (fun e1 K => runs G b e1 { P with nx := K, ct := K, bk := P.nx }) P.nx m, bk := P.nx }, s2, hx, hpn, h2, ?_⟩⟩
      exact ⟨fun en' σ' H' hl' h' s' _ => ⟨hl', en', s', h'⟩, hD.rt, fun en' σ' H' hl' h' s' _ _ => hD.nx en' σ' H' hl' h' s', fun en' σ' H' hl' h' s' _ => ⟨hl', en', s', h'⟩⟩
    | false =>
      rw [if_neg Bool.false_ne_true] at h2 ⊢
      exact fun _ => hD.nx _ _ _ hl1 h2 s2
theorem t_for (cs : Cs X sc) (c : Ct G g k sc N W X) {tg : List Nat} {src : Src} {b : Ss} {t it : Expr} {p : List Stmt} {ap : Pos} (h1 : chkTgt N sc.names tg t = true) (h2 : tg.all (fun i => !pn.contains i) = true) (h3 : nset it = true)
    (hi : PI X t it (tI X.K g G W src)) (hb : PSs X p (tS X.K g G W N.length pn (runs G b))) : PS X (.For t it p [] ap) (tS X.K g G W N.length pn (run G (.forr tg src b))) := by
  have hg : PG X t (tG X.K g tg) := g_tg cs.calm c.hN c.nd (fun x h => ⟨by rw [c.sc]; exact h, .inl (cs.fn x)⟩) h1
  have hlt : ∀ i ∈ tg, i < N.length := by
    have hall : ∀ {tg : List Nat} {es : List Expr}, chkTg N sc.names tg es = true → ∀ i ∈ tg, i < N.length := by
      intro tg
      induction tg with
      | nil => intro es _ i hi; cases hi
      | cons a tg ih =>
        intro es h i hi
        cases es with
        | nil => cases h
        | cons e es =>
          cases e with
          | Name y q =>
            obtain ⟨k1, k2⟩ := and2 h
            rcases List.mem_cons.mp hi with rfl | hi
            · exact slot_lt (and2 k1).1
            · exact ih k2 i hi
          | _ => cases h
    match tg, t, h1 with
    | [i], .Name x q, h1 =>
      intro j hj
      cases List.mem_singleton.mp hj
      exact slot_lt (and2 h1).1
    | i :: j :: is, .Tuple es kk q, h1 => exact hall h1
  refine (ps_for cs.po cs.calm hi hg (hb.imL (t' := fun D σ H => σ.length = N.length → tS X.K g G W N.length pn (runs G b) (D.len N.length) σ H) fun D σ H hl h => by
    rw [c.hN] at hl ⊢
    exact h hl) (fun x => folded_of h3 x)).imL fun D σ H hlen ⟨B, en, P, hs', hx, hpn, hr, hD⟩ => ?_
  unfold run at hr
  rw [c.hN] at hlen ⊢
  refine ⟨B, en, [], [], P.ex, _, hs', hx, hr, fun ds e1 J H1 tc vc h1' hf hlc hJ s1 => ?_⟩
  have hin : InB (B.add tc vc) tc vc := InB.add hlc
  refine ⟨fun i m σ H => m = ds.length - i ∧ i ≤ ds.length ∧ σ.length = N.length ∧ ∃ en, ST X.K g (B.add tc vc) en [] σ [] H ∧ frW tg (fun e2 K => runs G b e2 { P with nx := K, ct := K, bk := P.nx }) P.nx (ds.drop i) en, ⟨ds.length, by simp, Nat.zero_le _, hlen, e1, s1, h1'⟩, ?_⟩
  rintro i m σ2 H2 ⟨rfl, hi', hl2, en2, s2, h4⟩
  obtain ⟨j1, j2, j3⟩ := s2.turn hin hf hJ i
  by_cases hlt' : i < ds.length
  · rw [List.drop_eq_getElem_cons hlt', frW] at h4
    refine .inr ⟨j1 hlt', fun σ' H' => σ'.length = N.length ∧ ∃ en, ST X.K g (B.add tc vc) en [] σ' [] H' ∧ frW tg (fun e2 K => runs G b e2 { P with nx := K, ct := K, bk := P.nx }) P.nx (ds.drop (i + 1)) en, fun σ' H' ⟨hl', en', q⟩ => ⟨ds.length - (i + 1), by omega, rfl, hlt', hl', en', q⟩, fun x H' hy => ?_⟩
    obtain ⟨e0, s3⟩ := j3 x H' ds[i] (List.getElem?_eq_getElem hlt') hy
    subst e0
    refine ⟨_, en2, [], [], ds[i], _, s3, fun j hj => ⟨by rw [hl2]; exact hlt j hj, fun p hp e => notin (List.all_eq_true.mp h2 j hj) (e ▸ hpn p hp)⟩, h4, fun e3 σ3 h5 hl3 _ s4 hl5 => ⟨B.add tc vc, e3, { P with nx := frW tg (fun e2 K => runs G b e2 { P with nx := K, ct := K, bk := P.nx }) P.nx (ds.drop (i + 1)), ct := frW tg (fun e2 K => runs G b e2 { P with nx := K, ct := K, bk := P.nx }) P.nx (ds.drop (i + 1)), bk := P.nx }, s4, hx.add hlc, hpn, h5, ?_⟩⟩
    exact ⟨fun en' σ' H' hl' h' s' _ => ⟨hl', en', s', h'⟩, fun d en' σ' v H' h' s' => hD.rt d en' σ' v H' h' (s'.pop hlc), fun en' σ' H' hl' h' s' _ _ => hD.nx en' σ' H' hl' h' (s'.pop hlc), fun en' σ' H' hl' h' s' _ => ⟨hl', en', s', h'⟩⟩
  · have e0 : i = ds.length := by omega
    subst e0
    rw [List.drop_length, frW] at h4
    exact .inl ⟨j2 (Nat.le_refl _), fun _ => hD.nx _ _ _ hl2 h4 (s2.pop hlc)⟩
end
end Pf

/-! Errors raised. -/
namespace Pf
open PySem PySem.Spec PyProof.Rows L2
section
variable {X : Cx}
/-- X(), X an own error class without own __init__ -/
theorem pmk_nul {C : Addr} {bmB : List Value} {B newId initId : String} {x : Str} {p pos : Pos} (F : ExcBaseFacts B newId initId bmB) (q : PySem.W.excIn X.K C bmB newId = true) (gC : X.mg x = some (.ref C))
    (kC : PySem.W.keepIn X.K (.ref C) = true) (r : Raises X (.ref C)) (hg : Gl X x) (hdb : (x == ("__debug__" : Str)) = false) :
    PMk X (.Call (.Name x p) [] [] pos) (fun _ H Q => Q (.ref C) none H) := by
  intro pins s σ H Q J hq
  refine wpAny_Call_Name_kw (ld_glob J hg gC ?_ hdb)
  refine PySem.W.callWith_K0 J.kIn kC ?_
  show wpAny _ _ (call (.ref C) []) _ _ _
  obtain ⟨bm, M, nm, qn, bs, hdct, sn, sub, ab, col, dd, k0, k1, k2, k3, k5, mN, hC, hM, hni, T⟩ := exc_obj J.kIn q
  exact wpAny_call_exc_subT F T hC hM hni (fun hp a mk => mk_of J mk r hq (J.hok.gone mk.new)) (Nat.zero_le _)
end
section
variable {K : PySem.W.Frag} {g : Str → Addr} {B : Bs} {en : En} {rs : List R} {σ : Sg} {vs us : List V} {H : Hp}
theorem ST.freezeL {ds : List D} (h : ST K g B en (ds.map R.v ++ rs) σ (us ++ vs) H) (hl : ds.length = us.length) : ST K g B en ((frzs ds).map R.v ++ rs) σ (us ++ vs) H := by
  obtain ⟨⟨Z, O, O1, O2, e, t, s1, s2, q, p⟩, hl'⟩ := h
  rw [List.append_assoc, List.append_assoc] at t
  obtain ⟨A, C, r, t2, b1, b2⟩ := t.vals hl
  have kz : ∀ (Y : AS), Keep Z Y H H := fun Y a x h _ => h
  have q' : Good B (fun a => Z a ∨ A a) (fun a => O1 a ∨ C a) H := q.frz (O1 := A) (fun a z => (s2 a (b1 a z)).1) fun a z => by
    rcases z with z | z
    · exact ⟨s1 a z, fun y => (s2 a (b1 a y)).2 z⟩
    · exact ⟨(s2 a (b2 a z).1).1, (b2 a z).2⟩
  have r' := r.frz (Z' := fun a => Z a ∨ A a) fun a z => z
  have e1 : (frzs ds).length = ds.length := by rw [r'.length, hl]
  refine ⟨⟨_, _, O1, C, e.keep (fun a z => .inl z) (kz _), ?_, fun b z => .inl z, fun b z => ⟨.inr z, (s2 b (b2 b z).1).2⟩, q', p⟩, ?_⟩
  · rw [List.append_assoc, List.append_assoc]
    exact RepT.addF r' (t2.keep (fun a z => .inl z) (kz _))
  · simp only [List.length_append, List.length_map, e1] at hl' ⊢
    exact hl'
theorem ST.laidO {p : Addr} {o : HO} (h : ST K g B en rs σ vs H) (hp : H p = none) : ST K g B en rs σ vs (upd H p o) := by
  obtain ⟨⟨Z, O, O1, O2, e, t, s1, s2, q, pi⟩, hl⟩ := h
  exact ⟨⟨Z, O, O1, O2, e.keep (fun _ z => z) (keep_new hp), t.keep (fun _ z => z) (keep_new hp), s1, s2, q.new hp, pi⟩, hl⟩
end
theorem zip_at : ∀ {ns : List Str} {vs : List V} {i : Nat} {n : Str} {v : V}, ns.Nodup → ns[i]? = some n → vs[i]? = some v → (ns.zip vs).lookup n = some v
  | [], _, _, _, _, _, h, _ => by cases h
  | _ :: _, [], _, _, _, _, _, h => by cases h
  | m :: ns, u :: vs, 0, n, v, _, h1, h2 => by
    cases h1
    cases h2
    rw [List.zip_cons_cons, List.lookup_cons]
    simp
  | m :: ns, u :: vs, i + 1, n, v, nd, h1, h2 => by
    rw [List.nodup_cons] at nd
    have h1' : ns[i]? = some n := h1
    have hne : (n == m) = false := by
      rw [beq_eq_false_iff_ne]
      intro e
      exact nd.1 (e ▸ List.mem_of_getElem? h1')
    rw [List.zip_cons_cons, List.lookup_cons, hne]
    exact zip_at nd.2 h1' h2
section
variable {G : Gb} {g : Str → Addr} {k : Nat} {sc : Scope} {N : List Str} {W : WX} {X : Cx} {pn : List Nat}
theorem t_raise (cs : Cs X sc) (c : Ct G g k sc N W X) {cn : String} {ms : Es} {x : Str} {args : List Expr} {p q ap : Pos} {ns : List Str} (hc : G.excs cn = some ns) (hnl : ns.length = args.length) (hx : x = Str.ofString cn) (hg : gl sc x = true) (hn : args.all nst = true) (hl : esLen ms = args.length) (h100 : args.length ≤ 100)
    (ha : PA X args (tV X.K g G W ms)) : PS X (.Raise (some (.Call (.Name x p) args [] q)) none ap) (tS X.K g G W N.length pn (run G (.raise cn ms))) := by
  subst hx
  have F := c.ok.exc cn ns hc
  have rs : Raises X (.ref (g (Str.ofString cn))) := raises_own F.sub F.ty
  have out : ∀ {B : Bs} {en : En} {P : Pt} {ds : List Pf.D} {us : List V} {σ : L2.St} {H : Hp} {d : Option Addr} {H' : Hp}, XL X.K g G B W P.ex → ST X.K g B en (ds.map R.v ++ []) σ (us ++ []) H → ds.length = us.length → ns.length = ds.length → P.ex cn (frzs ds) en →
      ((ns = [] ∧ d = none ∧ H' = H) ∨ ∃ dx fV, d = some dx ∧ H dx = none ∧ H' = upd H dx (.xd fV) ∧ ∀ (i : Nat) (n : Str) (v : V), ns[i]? = some n → us[i]? = some v → fV.lookup n = some v) → W (.ref (g (Str.ofString cn))) d σ H' := by
    intro B en P ds us σ H d H' hx s l1 l2 hp hd
    have s1 := s.freezeL l1
    have e1 : (frzs ds).length = us.length := by
      have := s1.2
      simpa using this
    have s2 : SR X.K g B en ((frzs ds).map R.v ++ B.ts.map R.v) σ (us ++ B.tv) H := by
      have z := s1.1
      simpa only [List.append_nil] using z
    rcases hd with ⟨h1, rfl, rfl⟩ | ⟨dx, fV, rfl, h0, rfl, hlk⟩
    · exact hx cn _ en σ _ _ _ hp ⟨us, ns, [], s2, e1, fzs_frzs ds, rfl, hc, by rw [e1, ← l1, l2], fun _ => h1, (fun dx e => nomatch e), fun i n v h => by rw [h1] at h; cases h⟩
    · refine hx cn _ en σ _ _ _ hp ⟨us, ns, fV, ?_, e1, fzs_frzs ds, rfl, hc, by rw [e1, ← l1, l2], (fun e => nomatch e), (fun dy e => by cases e; exact upd_same), hlk⟩
      have z := (s1.laidO (o := .xd fV) h0).1
      simpa only [List.append_nil] using z
  cases args with
  | nil =>
    have hms : ms = .nil := by
      cases ms with
      | nil => rfl
      | cons _ _ => simp [esLen] at hl
    subst hms
    by_cases hne : ns = []
    · refine (ps_raise cs.calm c.tk (pmk_nul PySem.F.excBase_ValueError (F.nul hne) F.gm F.kp rs (c.gl hg) F.db)).imL fun D σ H hlen ⟨B, en, P, hs', hx, hpn, hr, hD⟩ => ?_
      unfold run evs at hr
      obtain ⟨⟨ns', h1, h2⟩, h3⟩ := hr
      exact out (ds := []) (us := []) hx hs' rfl (by rw [hne]; rfl) h3 (.inl ⟨hne, rfl, rfl⟩)
    · refine ⟨fun pins s σ H D I ⟨B, en, P, hs', hx, hpn, hr, hD⟩ => ?_⟩
      unfold run evs at hr
      obtain ⟨⟨ns', h1, h2⟩, h3⟩ := hr
      rw [hc] at h1
      cases h1
      exact absurd (List.eq_nil_of_length_eq_zero h2) hne
  | cons e es =>
    rw [List.all_cons, Bool.and_eq_true] at hn
    by_cases hne : ns = []
    · rw [hne] at hnl
      cases hnl
    · obtain ⟨T, _, _, fI, fd, ps, j, f1, f2, f3, f4, f5⟩ := F.own hne
      refine (ps_raise cs.calm c.tk (pmk_oex (ds := []) (dvs := []) T f1 f2 f4 ((c.room cs.calm).mono f3) f5 .nil passL (c.gl hg) F.gm ha F.db (star_of hn.1) (stars_of hn.2))).imL fun D σ H hlen ⟨B, en, P, hs', hx, hpn, hr, hD⟩ => ?_
      unfold run at hr
      refine ⟨B, en, [], [], P.ex, _, hs', hx, hr, fun ds e1 us H1 ⟨⟨ns', h1, h2⟩, h3⟩ l1 l2 s1 => ⟨by rw [← l1, l2, hl]; omega, fun a ha' => ?_⟩⟩
      rw [hc] at h1
      cases h1
      refine ⟨a, us, by rw [List.append_nil], by rw [h2, l1], upd_same, fun d H' fV hd hda e1' e2' hlk e3' => ⟨rfl, d, fV, e1', e2', by rw [upd_ne hda] at hd; exact hd, ?_⟩⟩
      have hd1 : H1 d = none := by rw [upd_ne hda] at hd; exact hd
      have eH : upd (del H' a) d (.xd fV) = upd H1 d (.xd fV) := by
        funext b
        by_cases hb : b = d
        · subst hb; rw [upd_same, upd_same]
        · rw [upd_ne hb, upd_ne hb]
          by_cases hba : b = a
          · subst hba; rw [del_same, ha']
          · rw [del_ne hba, e3' b hba hb, upd_ne hba]
      rw [eH]
      exact out hx s1 l1 h2 h3 (.inr ⟨d, fV, rfl, hd1, rfl, hlk⟩)
end
end Pf

/-! try: several clauses, with names and without. -/
namespace Pf
open PySem PySem.Spec PyProof.Rows L2
abbrev Cl := Value × Option Nat × (Addr → Value → Option Addr → TS)
def offD : Option Nat → Ends → Ends
  | none, D => D
  | some i, D => { nx := fun σ H => D.nx (σ.set i none) H, rt := D.rt, bk := fun σ H => D.bk (σ.set i none) H, ct := fun σ H => D.ct (σ.set i none) H }
def setO (σ : Sg) (a : Addr) : Option Nat → Sg
  | none => σ
  | some i => σ.set i (some (.ref a))
def wMix (K : PySem.W.Frag) (Wo : WX) (D : Ends) : List Cl → WX
  | [] => Wo
  | (c, io, ts) :: l => fun cls d σ H => ∃ b, PySem.W.exmOne K cls c = some b ∧ (b = true → ∀ a, H a = none → ts a cls d (offD io D) (setO σ a io) H) ∧ (b = false → wMix K Wo D l cls d σ H)
def SuOk (X : Cx) (ts : Addr → Value → Option Addr → TS) (ss : List Stmt) : Prop := ∀ (a : Addr) (oe : Obj) (cls : Value) (d : Option Addr) (pn : List (Addr × Obj)), Zc cls d oe → (∃ vs, oe.data = .fields vs) → PSs (X.suite a ((a, oe) :: pn)) ss (ts a cls d)
inductive HdsM (X : Cx) : List ExceptHandler → List Cl → Prop
  | nil : HdsM X [] []
  | bare {x : Str} {c : Value} {ts : Addr → Value → Option Addr → TS} {s0 : Stmt} {ss : List Stmt} {p1 p2 : Pos} {hds : List ExceptHandler} {l : List Cl} (hc : Names X x c) (hsu : SuOk X ts (s0 :: ss)) (r : HdsM X hds l) :
      HdsM X (.ExceptHandler (some (.Name x p1)) none (s0 :: ss) p2 :: hds) ((c, none, ts) :: l)
  | named {x n : Str} {i : Nat} {c : Value} {ts : Addr → Value → Option Addr → TS} {s0 : Stmt} {ss : List Stmt} {p1 p2 : Pos} {hds : List ExceptHandler} {l : List Cl} (hc : Names X x c) (hi : X.N[i]? = some n) (hn : X.env.kindOf n = some .local) (hsu : SuOk X ts (s0 :: ss)) (r : HdsM X hds l) :
      HdsM X (.ExceptHandler (some (.Name x p1)) (some n) (s0 :: ss) p2 :: hds) ((c, some i, ts) :: l)
section
variable {X : Cx} {body : List Stmt} {h0 : ExceptHandler} {hds : List ExceptHandler} {l : List Cl} {pos : Pos} {tb : WX → TS} {Wo : WX}
theorem ps_try_mix (stk : X.stack = X.env :: X.outer) (frm : X.env.frame = some X.env.locals) (nd : X.N.Nodup) (tk : Takes X Wo)
    (hb : ∀ (W1 : WX) (pn1 : List (Addr × Obj)) (xe1 : Value → Shared → Prop), Takes (X.tr pn1 xe1) W1 → PassesOwn (model X.prog X.w) X.A X.env xe1 → PSs (X.tr pn1 xe1) body (tb W1))
    (hh : HdsM X (h0 :: hds) l) : PS X (.Try body (h0 :: hds) [] [] pos) (fun D σ H => tb (wMix X.K Wo D l) D σ H) := by
  constructor
  intro pins s σ H D I hw
  have okX := I.ok
  have frs' : X.A.frames = some (X.env :: X.outer) := by rw [okX.frames, stk]
  refine wpAny_Try_except ?_
  let xe1 : Value → Shared → Prop := fun e t1 => wpAny (model X.prog X.w) X.A (noteFrame e X.env) (fun _ t2 => wpAny (model X.prog X.w) X.A (setFlight e none) (fun _ t3 => wpAny (model X.prog X.w) X.A (handleBy e X.env (h0 :: hds)) (SP X pins D) X.xe t3) X.xe t2) X.xe t1
  have caught : Takes (X.tr (X.pn ++ pins) xe1) (wMix X.K Wo D l) := by
    intro u t0 xx
    obtain ⟨ae, Bg, tI, pins1, σ1, H1, cls, d, rfl, J0, notb, upto, sky, nae, eos, bare, w⟩ := xx
    have J1 : Inv X pins σ1 H1 tI := J0.ofTry okX
    have sky1 : Sky Bg (X.env :: X.outer) ae (Zc cls d) X.env.locals t0.heap := stk ▸ sky
    show wpAny (model X.prog X.w) X.A (noteFrame (.ref ae) X.env) _ _ _
    refine Sky.land Zc.steady frs' frm sky1 fun hA flA upA => ?_
    have JA : Inv X pins σ1 H1 { t0 with heap := hA } := J1.landed notb flA.1 (upto.trans upA) eos bare
    obtain ⟨oA, vA, eA, zA, dA⟩ := flA.there
    have outF : ae ∉ frs (X.env :: X.outer) := by
      intro hm
      obtain ⟨_, o', e', nf⟩ := (flA.2.2.1).mem hm
      rw [eA] at e'
      cases e'
      exact nf _ dA
    have outL : ae ≠ X.env.locals := fun z => outF (List.mem_filterMap.mpr ⟨X.env, List.mem_cons_self, by rw [frm, z]⟩)
    have outS : ae ∉ X.fs := by
      intro hm
      obtain ⟨ev, hev, q⟩ := List.mem_filterMap.mp hm
      exact outF (List.mem_filterMap.mpr ⟨ev, List.mem_cons_of_mem _ hev, q⟩)
    have SA := JA.suite eA dA nae outL outS
    have go : ∀ {hd1 : List ExceptHandler} {l1 : List Cl}, HdsM X hd1 l1 → wMix X.K Wo D l1 cls d σ1 H1 → wpAny (model X.prog X.w) X.A (handleBy (.ref ae) X.env hd1) (SP X pins D) X.xe { t0 with heap := hA } := by
      intro hd1 l1 hk
      have test : ∀ {x : Str} {c : Value} {p1 : Pos} {Q E : Value → Shared → Prop}, Names X x c → Q c { t0 with heap := hA } → wpAny (model X.prog X.w) (X.A.mark (some (.ref ae))) (eval (.Name x p1) X.env) Q E { t0 with heap := hA } := by
        intro x c p1 Q E nm q
        obtain ⟨k1, k2, k3 | ⟨k3, k4, k5⟩⟩ := nm
        · exact ld_glob (X := X.suite ae ((ae, oA) :: (X.pn ++ pins))) SA k1 k3 q k2
        · exact ld_blt (X := X.suite ae ((ae, oA) :: (X.pn ++ pins))) SA k1 k3 k4 q k5 k2
      have looks : PySem.W.Looks (model X.prog X.w) hA (typeOf (.ref ae)) cls := fun A Q E s1 kk q => wpAny_typeOf_ref (kk _ _ eA) (by rw [zA.1]; exact q)
      induction hk with
      | nil =>
        intro w
        refine wpAny_handleBy_nil ?_
        obtain ⟨k1, k2, k3, o2, vs2, T2, oT, ts', he, hz, hd, h1, hr⟩ := id flA
        unfold PySem.passOn
        refine wpAny_bind (wpAny_field he hd h1 ?_)
        rw [if_neg (show ¬ ((Value.ref T2 == Value.none) = true) by simp)]
        have fin : wpAny (model X.prog X.w) X.A (setFlight (.ref ae) X.env.frame) (fun _ t4 => wpAny (model X.prog X.w) X.A (throw (.ref ae) : Sem Flow) (SP X pins D) X.xe t4) X.xe { t0 with heap := hA } := by
          rw [frm]
          refine HandSPX.setFlight_upZ flA fun hB hhB upB => wpAny_throw (tk _ _ ?_)
          exact ⟨ae, Bg, tI, pins, σ1, H1, cls, d, rfl, J1, notb, (upto.trans upA).trans upB, .inr (.inr (stk.symm ▸ hhB)), nae, eos, bare, w⟩
        first
          | exact wpAny_bind (wpAny_pure (wpAny_bind fin))
          | exact wpAny_bind fin
      | @bare x c ts s0 ss p1 p2 hds2 l2 hc hsu r ih =>
        intro w
        obtain ⟨b, hb1, yes, no⟩ := w
        refine wpAny_handleBy_cons (codeAny_handlers_test ?_) (fun q => nomatch q)
        refine test hc ((PySem.W.exm_one (M := model X.prog X.w) JA.kIn looks hb1).here ?_)
        cases b with
        | false => exact ih (no rfl)
        | true =>
          refine codeAny_handlers_suite (HandSPX.lands_againZ flA fun hB flB upB => ?_)
          have JB : Inv X pins σ1 H1 { t0 with heap := hB } := J1.landed notb flB.1 ((upto.trans upA).trans upB) eos bare
          obtain ⟨oB, vB, eB, zB, dB⟩ := flB.there
          have SB := JB.suite eB dB nae outL outS
          refine wpAny_mono ((hsu ae oB cls d (X.pn ++ pins) zB ⟨_, dB⟩).run [] _ _ H1 _ SB (yes rfl ae nae)) (fun f t6 q => ?_) (fun _ _ z => False.elim z)
          cases f with
          | next => obtain ⟨σ6, H6, S6, q6⟩ := q; exact ⟨_, _, S6.unsuite okX, q6⟩
          | brk => obtain ⟨σ6, H6, S6, q6⟩ := q; exact ⟨_, _, S6.unsuite okX, q6⟩
          | cont => obtain ⟨σ6, H6, S6, q6⟩ := q; exact ⟨_, _, S6.unsuite okX, q6⟩
          | ret u => obtain ⟨v6, σ6, H6, S6, r6, q6⟩ := q; exact ⟨_, _, _, S6.unsuite okX, r6, q6⟩
      | @named x n i c ts s0 ss p1 p2 hds2 l2 hc hi hn hsu r ih =>
        intro w
        obtain ⟨b, hb1, yes, no⟩ := w
        refine wpAny_handleBy_cons (codeAny_handlers_test ?_) (fun q => nomatch q)
        refine test hc ((PySem.W.exm_one (M := model X.prog X.w) JA.kIn looks hb1).here ?_)
        cases b with
        | false => exact ih (no rfl)
        | true =>
          refine codeAny_handlers_suite_as (HandSPX.lands_againZ flA fun hB flB upB => ?_)
          have JB : Inv X pins σ1 H1 { t0 with heap := hB } := J1.landed notb flB.1 ((upto.trans upA).trans upB) eos bare
          obtain ⟨oB, vB, eB, zB, dB⟩ := flB.there
          have SB := JB.suite eB dB nae outL outS
          refine store_ok (X := X.suite ae ((ae, oB) :: (X.pn ++ pins))) (v := .ref ae) SB nd hi (.inl hn) rfl (fun t5 S5 => ?_) (.inr hn)
          refine wpAny_mono ((hsu ae oB cls d (X.pn ++ pins) zB ⟨_, dB⟩).run [] t5 _ H1 _ S5 (yes rfl ae nae)) (fun f t6 q => ?_) (fun _ _ z => False.elim z)
          have away : ∀ {σ6 : L2.St} {H6 : Hp} {Q : Shared → Prop}, Inv (X.suite ae ((ae, oB) :: (X.pn ++ pins))) [] σ6 H6 t6 → (∀ t7, Inv X pins (σ6.set i none) H6 t7 → Q t7) →
              wpAny (model X.prog X.w) X.A (do bindName X.env n .none; unbindBehindTheSuite X.env n p2) (fun _ t7 => Q t7) X.xe t6 := fun S6 hq => gone_ok (S6.unsuite okX) nd hi hn hq
          cases f with
          | next => obtain ⟨σ6, H6, S6, q6⟩ := q; exact away S6 fun t7 J7 => ⟨_, _, J7, q6⟩
          | brk => obtain ⟨σ6, H6, S6, q6⟩ := q; exact away S6 fun t7 J7 => ⟨_, _, J7, q6⟩
          | cont => obtain ⟨σ6, H6, S6, q6⟩ := q; exact away S6 fun t7 J7 => ⟨_, _, J7, q6⟩
          | ret u => obtain ⟨v6, σ6, H6, S6, r6, q6⟩ := q; exact away S6 fun t7 J7 => ⟨_, _, _, J7, r6, q6⟩
    exact go hh w
  refine wpAny_mono ((hb _ (X.pn ++ pins) xe1 caught PassesOwn.looking).run [] s σ H D (I.toTry _) hw) (fun f t1 q => ?_) (fun _ _ z => z)
  cases f with
  | next => obtain ⟨σ1, H1, J1, q1⟩ := q; exact wpAny_execs_nil ⟨σ1, H1, J1.ofTry okX, q1⟩
  | brk => obtain ⟨σ1, H1, J1, q1⟩ := q; exact ⟨σ1, H1, J1.ofTry okX, q1⟩
  | cont => obtain ⟨σ1, H1, J1, q1⟩ := q; exact ⟨σ1, H1, J1.ofTry okX, q1⟩
  | ret u => obtain ⟨v1, σ1, H1, J1, r1, q1⟩ := q; exact ⟨v1, σ1, H1, J1.ofTry okX, r1, q1⟩
end
end Pf

/-! except suites. -/
namespace Pf
open PySem PySem.Spec PyProof.Rows L2
section
variable (K : PySem.W.Frag) (g : Str → Addr)
/-- in a suite: the caught error's fields stay with the frame -/
structure SX (B : Bs) (en : En) (rs : List R) (σ : Sg) (vs : List V) (H : Hp) (ns : List Str) (fs : List D) (fv : List V) (io : Option Nat) (a : Addr) (d : Option Addr) : Prop where
  st : ST K g (B.add fs fv) en rs σ vs H
  hf : fzs fs = true
  hl : fs.length = fv.length
  hn : ns.length = fs.length
  xd : ∀ dx, d = some dx → ∃ fV, H dx = some (.xd fV) ∧ ∀ (i : Nat) (n : Str) (v : V), ns[i]? = some n → fv[i]? = some v → fV.lookup n = some v
  dn : d = none → ns = []
  nm : ∀ i, io = some i → σ[i]? = some (some (.ref a))
end
section
variable {K : PySem.W.Frag} {g : Str → Addr} {B : Bs} {en : En} {rs rs' : List R} {σ : Sg} {vs vs' : List V} {H H' : Hp} {ns : List Str} {fs : List D} {fv : List V} {io : Option Nat} {a : Addr} {d : Option Addr}
theorem SX.of (h : SX K g B en rs σ vs H ns fs fv io a d) (s : ST K g (B.add fs fv) en rs' σ vs' H) : SX K g B en rs' σ vs' H ns fs fv io a d := ⟨s, h.hf, h.hl, h.hn, h.xd, h.dn, h.nm⟩
theorem SX.grow (h : SX K g B en rs σ vs H ns fs fv io a d) {p : Addr} {o : HO} (hp : H p = none) (s : ST K g (B.add fs fv) en rs' σ vs' (upd H p o)) : SX K g B en rs' σ vs' (upd H p o) ns fs fv io a d :=
  ⟨s, h.hf, h.hl, h.hn, fun dx e => by
    obtain ⟨fV, h1, h2⟩ := h.xd dx e
    exact ⟨fV, upd_new hp h1, h2⟩, h.dn, h.nm⟩
/-- a field goes in flight -/
theorem ST.fld {j : Nat} {dd : D} (h : ST K g (B.add fs fv) en rs σ vs H) (hl : fs.length = fv.length) (hf : fzs fs = true) (hj : fs[j]? = some dd) : ∃ v, fv[j]? = some v ∧ ST K g (B.add fs fv) en (.v dd :: rs) σ (v :: vs) H := by
  obtain ⟨⟨Z, O, O1, O2, e, t, s1, s2, q, p⟩, hl'⟩ := h
  have t1 : RepT K g Z H σ ([] ++ (rs ++ (fs.map R.v ++ B.ts.map R.v))) ([] ++ (vs ++ (fv ++ B.tv))) O2 := by
    have z := t
    unfold Bs.add at z
    rw [List.map_append] at z
    exact z
  have t2 := RepT.mid (xs := []) (vs := []) t1 rfl hl'
  obtain ⟨A, C, r, _⟩ := RepT.vals (by simpa only [List.nil_append] using t2) hl
  obtain ⟨v, h1, h2⟩ := (r.none hf).get hj
  exact ⟨v, h1, ⟨Z, O, O1, O2, e, .v (O1 := AS.no) (fun _ z => z.elim) (fun _ z => ⟨z, id⟩) h2 t, s1, s2, q, p⟩, by rw [List.length_cons, List.length_cons, hl']⟩
end
section
variable (K : PySem.W.Frag) (g : Str → Addr) (G : Gb) (io : Option Nat) (a : Addr) (cls : Value) (d : Option Addr)
def tU (u : U) : TE := fun σ H Q => ∃ c ns fs fv B en rs vs k, cls = .ref (g (Str.ofString c)) ∧ G.excs c = some ns ∧ SX K g B en rs σ vs H ns fs fv io a d ∧ uv ns fs en u k ∧ ∀ dd v H', k dd → SX K g B en (.v dd :: rs) σ (v :: vs) H' ns fs fv io a d → Q v H'
def tUs (us : List U) : TA := fun σ H Q => ∃ c ns fs fv B en rs vs k, cls = .ref (g (Str.ofString c)) ∧ G.excs c = some ns ∧ SX K g B en rs σ vs H ns fs fv io a d ∧ uvs ns fs en us k ∧
  ∀ dds ws H', k dds → dds.length = ws.length → dds.length = us.length → SX K g B en (dds.map R.v ++ rs) σ (ws ++ vs) H' ns fs fv io a d → Q ws H'
end
section
variable {G : Gb} {g : Str → Addr} {k : Nat} {sc : Scope} {N : List Str} {W : WX} {X : Cx} {pn : List Nat} {io : Option Nat} {a : Addr} {cls : Value} {d : Option Addr} {oe : Obj} {pn1 : List (Addr × Obj)}
theorem Ct.suite (c : Ct G g k sc N W X) (a : Addr) (pn1 : List (Addr × Obj)) : Ct G g k sc N WF (X.suite a pn1) where
  hN := c.hN
  nd := c.nd
  sc := c.sc
  room := fun h => (nomatch h)
  hu := c.hu
  tk := fun u s' ⟨_, _, _, _, _, _, _, _, _, _, _, _, _, _, _, _, w⟩ => w.elim
  ok := c.ok
theorem u_flat {e : Expr} {u : U} {dd : Pf.D} {v : V} (p : PE X e (tC v)) (h : ∀ ns fs en k, uv ns fs en u k → k dd) (r : ∀ Z H, Rep X.K g Z H dd v AS.no) : PE X e (tU X.K g G io a cls d u) :=
  p.im fun σ H Q ⟨c, ns, fs, fv, B, en, rs, vs, k, h1, h2, h3, h4, h5⟩ => h5 _ _ _ (h _ _ _ _ h4) (h3.of (h3.st.flat fun Z => r Z H))
theorem us_len {io : Option Nat} : ∀ (us : List U) {es : List Expr}, chkUs N io us sc es = true → us.length = es.length
  | [], es, h => by
    cases es with
    | nil => rfl
    | cons _ _ => unfold chkUs at h; cases h
  | u :: us, es, h => by
    cases es with
    | nil => unfold chkUs at h; cases h
    | cons e es =>
      unfold chkUs at h
      rw [List.length_cons, List.length_cons, us_len us (and2 (and2 h).2).2]
theorem iu_tup {io : Option Nat} {us : List U} {sc : Scope} {e : Expr} (h : chkU N io (.tup us) sc e = true) : ∃ es kk p, e = .Tuple es kk p ∧ es.length ≤ 1000 ∧ chkUs N io us sc es = true := by
  unfold chkU at h
  split at h
  all_goals first | contradiction | (cases h; done) | skip
  rename_i hh
  cases hh
  exact ⟨_, _, _, rfl, of_decide_eq_true (and2 h).1, (and2 h).2⟩
theorem iu_lst {io : Option Nat} {us : List U} {sc : Scope} {e : Expr} (h : chkU N io (.lst us) sc e = true) : ∃ es p, e = .List es p ∧ es.length ≤ 1000 ∧ chkUs N io us sc es = true := by
  unfold chkU at h
  split at h
  all_goals first | contradiction | (cases h; done) | skip
  rename_i hh
  cases hh
  exact ⟨_, _, rfl, of_decide_eq_true (and2 h).1, (and2 h).2⟩
mutual
theorem u_ok (c : Ct G g k sc N W X) (hz : Zc cls d oe) (hf : ∃ vs, oe.data = .fields vs) : ∀ (u : U) {e : Expr}, chkU N io u sc e = true → PE (X.suite a ((a, oe) :: pn1)) e (tU X.K g G io a cls d u)
  | .int n, e, h => by
    unfold chkU at h
    split at h
    all_goals first | contradiction | (cases h; done) | skip
    rename_i hh
    cases hh
    cases of_decide_eq_true h
    exact u_flat (dd := .int n) pe_int (fun ns fs en k h => by unfold uv at h; exact h) fun Z H => .int n
  | .bl b, e, h => by
    unfold chkU at h
    split at h
    all_goals first | contradiction | (cases h; done) | skip
    rename_i hh
    cases hh
    have e1 := eq_of_beq h
    subst e1
    exact u_flat (dd := .bl b) pe_bl (fun ns fs en k h => by unfold uv at h; exact h) fun Z H => .bl b
  | .non, e, h => by
    unfold chkU at h
    split at h
    all_goals first | contradiction | (cases h; done) | skip
    exact u_flat (dd := .non) pe_non (fun ns fs en k h => by unfold uv at h; exact h) fun Z H => .non
  | .str x, e, h => by
    unfold chkU at h
    split at h
    all_goals first | contradiction | (cases h; done) | skip
    rename_i hh
    cases hh
    cases of_decide_eq_true h
    exact u_flat (dd := .str (Str.ofString x)) pe_str (fun ns fs en k h => by unfold uv at h; exact h) fun Z H => .str _
  | .var i, e, h => by
    unfold chkU at h
    split at h
    all_goals first | contradiction | (cases h; done) | skip
    rename_i hh
    cases hh
    refine (pe_name (c.suite a _) h).im fun σ H Q ⟨c, ns, fs, fv, B, en, rs, vs, k, h1, h2, h3, h4, h5⟩ => ?_
    unfold uv at h4
    split at h4
    · rename_i dd hd
      obtain ⟨v, e1, s⟩ := h3.st.read hd h4.1
      exact ⟨v, e1, h5 _ _ _ h4.2 (h3.of s)⟩
    · exact h4.elim
  | .fld f, e, h => by
    unfold chkU at h
    split at h
    all_goals first | contradiction | (cases h; done) | skip
    rename_i hh
    cases hh
    obtain ⟨k1, k2⟩ := and2 h
    cases of_decide_eq_true k1
    have pn := pe_name (c.suite a ((a, oe) :: pn1)) k2 (p := ?_)
    refine ⟨fun pins s σ H Q I ⟨cn, ns, fs, fv, B, en, rs, vs, k, h1, h2, h3, h4, h5⟩ => ?_⟩
    unfold uv at h4
    obtain ⟨j, dd, hj, hd, hk⟩ := h4
    have F := c.ok.exc cn ns h2
    have hne : ns ≠ [] := fun e => by rw [e] at hj; cases hj
    obtain ⟨_, T, hno, _⟩ := F.own hne
    obtain ⟨v, ev, s2⟩ := ST.fld h3.st h3.hl h3.hf hd
    cases hdx : d with
    | none => exact absurd (h3.dn hdx) hne
    | some dx =>
      obtain ⟨fV, e1, e2⟩ := h3.xd dx hdx
      refine (pe_xf (cls := cls) (d := d) (pn := pn1) (n := Str.ofString f) T (hno _ (List.mem_of_getElem? hj)) hz hf pn rfl).run pins s σ H Q I ?_
      exact ⟨.ref a, h3.nm _ rfl, rfl, h1, dx, fV, v, hdx, e1, e2 j _ v hj ev, h5 _ _ _ hk (h3.of s2)⟩
  | .tup us, e, h => by
    obtain ⟨es, kk, p, rfl, k1, k2⟩ := iu_tup h
    have hl := us_len us k2
    refine (pe_tup (us_ok c hz hf us k2)).im fun σ H Q ⟨cn, ns, fs, fv, B, en, rs, vs, k, h1, h2, h3, h4, h5⟩ => ?_
    unfold uv at h4
    exact ⟨cn, ns, fs, fv, B, en, rs, vs, _, h1, h2, h3, h4, fun dds ws H' q1 q2 q3 q4 => ⟨sizeL (by omega), fun q hq => h5 _ _ _ q1 (q4.grow hq (q4.st.tup q2 hq))⟩⟩
  | .lst us, e, h => by
    obtain ⟨es, p, rfl, k1, k2⟩ := iu_lst h
    have hl := us_len us k2
    refine (pe_lst (us_ok c hz hf us k2)).im fun σ H Q ⟨cn, ns, fs, fv, B, en, rs, vs, k, h1, h2, h3, h4, h5⟩ => ?_
    unfold uv at h4
    exact ⟨cn, ns, fs, fv, B, en, rs, vs, _, h1, h2, h3, h4, fun dds ws H' q1 q2 q3 q4 => ⟨sizeL (by omega), fun q hq => h5 _ _ _ q1 (q4.grow hq (q4.st.lst q2 hq))⟩⟩
theorem us_ok (c : Ct G g k sc N W X) (hz : Zc cls d oe) (hf : ∃ vs, oe.data = .fields vs) : ∀ (us : List U) {es : List Expr}, chkUs N io us sc es = true → PA (X.suite a ((a, oe) :: pn1)) es (tUs X.K g G io a cls d us)
  | [], es, h => by
    cases es with
    | cons _ _ => unfold chkUs at h; cases h
    | nil =>
      refine pa_nil.im fun σ H Q ⟨cn, ns, fs, fv, B, en, rs, vs, k, h1, h2, h3, h4, h5⟩ => ?_
      unfold uvs at h4
      exact h5 [] [] H h4 rfl rfl h3
  | u :: us, es, h => by
    cases es with
    | nil => unfold chkUs at h; cases h
    | cons e es =>
      unfold chkUs at h
      obtain ⟨k1, k2⟩ := and2 h
      obtain ⟨k3, k4⟩ := and2 k2
      refine (pa_cons (u_ok c hz hf u k3) (us_ok c hz hf us k4) (star_of k1)).im fun σ H Q ⟨cn, ns, fs, fv, B, en, rs, vs, k, h1, h2, h3, h4, h5⟩ => ?_
      unfold uvs at h4
      refine ⟨cn, ns, fs, fv, B, en, rs, vs, _, h1, h2, h3, h4, fun dd v H1 q1 q2 => ⟨cn, ns, fs, fv, B, en, .v dd :: rs, v :: vs, _, h1, h2, q2, q1, fun dds ws H2 p1 p2 p3 p4 => ?_⟩⟩
      exact h5 (dd :: dds) (v :: ws) H2 p1 (by rw [List.length_cons, List.length_cons, p2]) (by rw [List.length_cons, List.length_cons, p3]) (p4.of (ST.move p4.st (by rw [List.length_map]; exact p2)))
end
end
end Pf

/-! try as a statement. -/
namespace Pf
open PySem PySem.Spec PyProof.Rows L2
def tSu (K : PySem.W.Frag) (g : Str → Addr) (G : Gb) (n : Nat) (pn : List Nat) (io : Option Nat) (u : Su) : Addr → Value → Option Addr → TS := fun a cls d D σ H => ∃ c ns fs fv B en, cls = .ref (g (Str.ofString c)) ∧ G.excs c = some ns ∧ SX K g B en [] σ [] H ns fs fv io a d ∧ (∀ p ∈ B.pin, p.1 ∈ pn) ∧ match u with
  | .asg i x => uv ns fs en x fun dd => ∀ σ' H', σ'.length = n → ST K g B (en.set i (some dd)) [] σ' [] H' → D.nx σ' H'
  | .ret x => uv ns fs en x fun dd => ∀ σ' v H', ST K g B en [.v dd] σ' [v] H' → D.rt v H'
  | .pas => ∀ σ' H', σ'.length = n → ST K g B en [] σ' [] H' → D.nx σ' H'
def clOf (K : PySem.W.Frag) (g : Str → Addr) (G : Gb) (n : Nat) (pn : List Nat) : Hs → List Cl
  | .nil => []
  | .cons c io u hs => (.ref (g (Str.ofString c)), io, tSu K g G n pn io u) :: clOf K g G n pn hs
abbrev wLen (n : Nat) (W : WX) : WX := fun cls d σ H => σ.length = n → W cls d σ H
theorem takes_len {X : Cx} {W : WX} (tk : Takes X W) : Takes X (wLen X.N.length W) := fun u s' ⟨a, B, sI, pins, σ, H, cls, d, e, I, nb, up, sky, na, os, ag, w⟩ => tk u s' ⟨a, B, sI, pins, σ, H, cls, d, e, I, nb, up, sky, na, os, ag, w I.len⟩
section
variable {G : Gb} {g : Str → Addr} {k : Nat} {sc : Scope} {N : List Str} {W : WX} {X : Cx} {pn : List Nat} {el : List (String × Nat)}
theorem isu_asg {io : Option Nat} {i : Nat} {x : U} {st : Stmt} (h : chkSu N pn io (.asg i x) sc st = true) : ∃ y p1 v p, st = .Assign [.Name y p1] v p ∧ (slotIs N i y && (loc sc y && (!pn.contains i && (!isLC v && chkU N io x sc v)))) = true := by
  unfold chkSu at h
  split at h
  all_goals first | contradiction | (cases h; done) | skip
  rename_i hh
  cases hh
  exact ⟨_, _, _, _, rfl, h⟩
theorem isu_ret {io : Option Nat} {x : U} {st : Stmt} (h : chkSu N pn io (.ret x) sc st = true) : ∃ v p, st = .Return (some v) p ∧ chkU N io x sc v = true := by
  unfold chkSu at h
  split at h
  all_goals first | contradiction | (cases h; done) | skip
  rename_i hh
  cases hh
  exact ⟨_, _, rfl, h⟩
theorem isu_pas {io : Option Nat} {st : Stmt} (h : chkSu N pn io .pas sc st = true) : ∃ p, st = .Pass p := by
  unfold chkSu at h
  split at h
  all_goals first | contradiction | (cases h; done) | skip
  exact ⟨_, rfl⟩
theorem su_ok (cs : Cs X sc) (c : Ct G g k sc N W X) {io : Option Nat} {u : Su} {st : Stmt} (h : chkSu N pn io u sc st = true) : SuOk X (tSu X.K g G N.length pn io u) [st] := by
  intro a oe cls d pn1 hz hf
  have cc := c.suite a ((a, oe) :: pn1)
  have hcN : (X.suite a ((a, oe) :: pn1)).N = N := c.hN
  cases u with
  | pas =>
    obtain ⟨p, rfl⟩ := isu_pas h
    refine (pss_one ps_pass).imL fun D σ H hl ⟨cn, ns, fs, fv, B, en, h1, h2, h3, h4, h5⟩ => ?_
    rw [hcN] at hl ⊢
    exact fun hl' => h5 σ H hl (h3.st.pop h3.hl)
  | ret x =>
    obtain ⟨v, p, rfl, h⟩ := isu_ret h
    refine (pss_one (ps_ret (u_ok c hz hf x h))).imL fun D σ H hl ⟨cn, ns, fs, fv, B, en, h1, h2, h3, h4, h5⟩ => ?_
    exact ⟨cn, ns, fs, fv, B, en, [], [], _, h1, h2, h3, h5, fun dd v H' q1 q2 => q1 σ v H' (q2.st.pop q2.hl)⟩
  | asg i x =>
    obtain ⟨y, p1, v, p, rfl, h⟩ := isu_asg h
    obtain ⟨k1, k2⟩ := and2 h
    obtain ⟨k3, k4⟩ := and2 k2
    obtain ⟨k5, k6⟩ := and2 k4
    obtain ⟨k7, k8⟩ := and2 k6
    refine (pss_one (ps_set (X := X.suite a ((a, oe) :: pn1)) (by rw [hcN]; exact c.nd) (by rw [hcN]; exact of_decide_eq_true k1) (cs.loc c k3) (u_ok c hz hf x k8) (swap_no (not1 k7)) (.inl (cs.fn y)))).imL fun D σ H hl ⟨cn, ns, fs, fv, B, en, h1, h2, h3, h4, h5⟩ => ?_
    rw [hcN] at hl ⊢
    refine ⟨cn, ns, fs, fv, B, en, [], [], _, h1, h2, h3, h5, fun dd u H' q1 q2 hl' => q1 _ H' hl' ?_⟩
    have s := ST.set1 (ts := []) q2.st (i := i) (by rw [hl]; exact slot_lt k1) fun p hp e => notin k5 (e ▸ h4 p hp)
    exact s.pop q2.hl
theorem i_hs {cn : String} {io : Option Nat} {u : Su} {hs : Hs} {hds : List ExceptHandler} (h : chkHs N el pn (.cons cn io u hs) sc hds = true) : ∃ x p1 nm st p2 hds', hds = .ExceptHandler (some (.Name x p1)) nm [st] p2 :: hds' ∧ (decide (x = Str.ofString cn) && (gl sc x && (el.any (fun q => q.1 == cn) && (chkNm N pn sc io nm && (chkSu N pn io u sc st && chkHs N el pn hs sc hds'))))) = true := by
  unfold chkHs at h
  split at h
  all_goals first | contradiction | (cases h; done) | skip
  rename_i hh
  cases hh
  exact ⟨_, _, _, _, _, _, rfl, h⟩
theorem hds_ok (cs : Cs X sc) (c : Ct G g k sc N W X) (hel : ∀ q ∈ el, ∃ ns, G.excs q.1 = some ns ∧ ns.length = q.2) : ∀ {hs : Hs} {hds : List ExceptHandler}, chkHs N el pn hs sc hds = true → HdsM X hds (clOf X.K g G N.length pn hs)
  | .nil, hds, h => by
    cases hds with
    | nil => exact .nil
    | cons _ _ => unfold chkHs at h; cases h
  | .cons cn io u hs, hds, h => by
    obtain ⟨x, p1, nm, st, p2, hds', rfl, h⟩ := i_hs h
    obtain ⟨k1, k2⟩ := and2 h
    obtain ⟨k3, k4⟩ := and2 k2
    obtain ⟨k5, k6⟩ := and2 k4
    obtain ⟨k7, k8⟩ := and2 k6
    obtain ⟨k9, k10⟩ := and2 k8
    cases of_decide_eq_true k1
    obtain ⟨q, hq, e⟩ := List.any_eq_true.mp k5
    obtain ⟨ns, e1, _⟩ := hel q hq
    rw [eq_of_beq e] at e1
    have F := c.ok.exc cn ns e1
    have hN : Names X (Str.ofString cn) (.ref (g (Str.ofString cn))) := ⟨c.gl k3, F.db, .inl F.gm⟩
    have hsu := su_ok cs c k9
    have ih := hds_ok cs c hel k10
    match io, nm, k7 with
    | none, none, _ => exact .bare hN hsu ih
    | some i, some n, k7 =>
      obtain ⟨j1, j2⟩ := and2 k7
      obtain ⟨j3, j4⟩ := and2 j2
      refine .named hN (by rw [c.hN]; exact of_decide_eq_true j1) ?_ hsu ih
      show X.env.scope.names.lookup n = some .local
      rw [c.sc]
      exact of_decide_eq_true j3
theorem ST.mark {K : PySem.W.Frag} {B : Bs} {en : En} {σ : Sg} {H : Hp} {i : Nat} {x : Option V} (h : ST K g B en [] σ [] H) (hp : ∀ p ∈ B.pin, p.1 ≠ i) : ST K g B (en.set i none) [] (σ.set i x) [] H := by
  obtain ⟨⟨Z, O, O1, O2, e, t, s1, s2, q, p⟩, hl⟩ := h
  refine ⟨⟨Z, O, O1, O2, (e.off i).cong (List.length_set ..) fun j d h => ?_, RepT.any t, s1, s2, q, fun p' hp' => ?_⟩, rfl⟩
  · by_cases e : i = j
    · subst e
      rw [List.getElem?_set_self'] at h
      cases en[i]? <;> simp at h
    · rw [List.getElem?_set_ne e]
  · rw [List.getElem?_set_ne (Ne.symm (hp p' hp'))]
    exact p p' hp'
theorem ST.mark2 {K : PySem.W.Frag} {B : Bs} {en : En} {σ : Sg} {H : Hp} {i : Nat} {x : Option V} (h : ST K g B en [] σ [] H) (hp : ∀ p ∈ B.pin, p.1 ≠ i) (hn : ∀ d, en[i]? ≠ some (some d)) : ST K g B en [] (σ.set i x) [] H := by
  obtain ⟨⟨Z, O, O1, O2, e, t, s1, s2, q, p⟩, hl⟩ := h
  refine ⟨⟨Z, O, O1, O2, e.cong (List.length_set ..) fun j d h => ?_, RepT.any t, s1, s2, q, fun p' hp' => ?_⟩, rfl⟩
  · by_cases e : i = j
    · subst e
      exact absurd h (hn d)
    · rw [List.getElem?_set_ne e]
  · rw [List.getElem?_set_ne (Ne.symm (hp p' hp'))]
    exact p p' hp'
mutual
theorem uv_mono {ns : List Str} {fs : List Pf.D} {en : En} : ∀ (u : U) {k k' : Pf.D → Prop}, (∀ d, k d → k' d) → uv ns fs en u k → uv ns fs en u k'
  | .int n, k, k', h, q => by unfold uv at q ⊢; exact h _ q
  | .bl b, k, k', h, q => by unfold uv at q ⊢; exact h _ q
  | .non, k, k', h, q => by unfold uv at q ⊢; exact h _ q
  | .str x, k, k', h, q => by unfold uv at q ⊢; exact h _ q
  | .var i, k, k', h, q => by
    unfold uv at q ⊢
    split at q
    · exact ⟨q.1, h _ q.2⟩
    · exact q.elim
  | .fld f, k, k', h, q => by
    unfold uv at q ⊢
    obtain ⟨j, d, a, b, c⟩ := q
    exact ⟨j, d, a, b, h _ c⟩
  | .tup us, k, k', h, q => by
    unfold uv at q ⊢
    exact uvs_mono us (fun ds => h _) q
  | .lst us, k, k', h, q => by
    unfold uv at q ⊢
    exact uvs_mono us (fun ds => h _) q
theorem uvs_mono {ns : List Str} {fs : List Pf.D} {en : En} : ∀ (us : List U) {k k' : List Pf.D → Prop}, (∀ d, k d → k' d) → uvs ns fs en us k → uvs ns fs en us k'
  | [], k, k', h, q => by unfold uvs at q ⊢; exact h _ q
  | u :: us, k, k', h, q => by
    unfold uvs at q ⊢
    exact uv_mono u (fun d q2 => uvs_mono us (fun ds => h _) q2) q
end
theorem hnd_wish (c : Ct G g k sc N W X) {B : Bs} {P : Pt} {D : Ends} (hx : XL X.K g G B W P.ex) (hpn : ∀ p ∈ B.pin, p.1 ∈ pn) (hD : EL X.K g N.length B P D) {cn : String} {fs : List Pf.D} {en : En} {σ : L2.St} {H : Hp} {cls : Value} {d : Option Addr} (hE : EXS X.K g G B cn fs en σ H cls d) (hl : σ.length = N.length) :
    ∀ {hs : Hs} {hds : List ExceptHandler}, chkHs N el pn hs sc hds = true → hnd G hs cn fs en P → wMix X.K W (D.len N.length) (clOf X.K g G N.length pn hs) cls d σ H
  | .nil, hds, hc, h => by
    unfold hnd at h
    exact hx cn fs en σ H cls d h hE
  | .cons c' io u hs, hds, hc, h => by
    obtain ⟨x, p1, nm, st, p2, hds', rfl, hc⟩ := i_hs hc
    obtain ⟨k1, k2⟩ := and2 hc
    obtain ⟨k3, k4⟩ := and2 k2
    obtain ⟨k5, k6⟩ := and2 k4
    obtain ⟨k7, k8⟩ := and2 k6
    obtain ⟨k9, k10⟩ := and2 k8
    have hE' := hE
    obtain ⟨vs, ns, fV, s0, l0, f0, ec, en', l1, dn, xd, lk⟩ := hE
    have s : ST X.K g (B.add fs vs) en [] σ [] H := by
      obtain ⟨Z, O, O1, O2, e, t, s1, s2, q, p⟩ := s0
      refine ⟨⟨Z, O, O1, O2, e, ?_, s1, s2, q.re rfl rfl rfl, p⟩, rfl⟩
      unfold Bs.add
      rw [List.map_append]
      exact t
    have hxd : ∀ dx, d = some dx → ∃ fV, H dx = some (.xd fV) ∧ ∀ (i : Nat) (n : Str) (v : V), ns[i]? = some n → vs[i]? = some v → fV.lookup n = some v := fun dx e => ⟨fV, xd dx e, lk⟩
    unfold hnd at h
    split at h
    · rename_i ns' hm hns
      rw [en'] at hns
      cases hns
      have hb := c.ok.exm cn c' true hm
      rw [← ec] at hb
      refine ⟨true, hb, fun _ a ha => ?_, (fun e => nomatch e)⟩
      have pins : ∀ i, io = some i → i ∉ pn := fun i e => by
        subst e
        cases nm with
        | none => cases k7
        | some n => exact notin (and2 (and2 k7).2).2
      have pins' : ∀ i, io = some i → i < N.length := fun i e => by
        subst e
        cases nm with
        | none => cases k7
        | some n => exact slot_lt (and2 k7).1
      have hS : SX X.K g B (offO en io) [] (setO σ a io) [] H ns fs vs io a d := by
        cases io with
        | none => exact ⟨s, f0, l0, l1, hxd, dn, fun i e => nomatch e⟩
        | some i =>
          refine ⟨s.mark fun p hp e => pins i rfl (e ▸ hpn p hp), f0, l0, l1, hxd, dn, fun j e => ?_⟩
          cases e
          exact List.getElem?_set_self (by rw [hl]; exact pins' i rfl)
      have offN : ∀ {σ' : L2.St} {H' : Hp} {en1 : En}, σ'.length = N.length → (∀ i, io = some i → ∀ dd, en1[i]? ≠ some (some dd)) → P.nx en1 → ST X.K g B en1 [] σ' [] H' → (offD io (D.len N.length)).nx σ' H' := fun {σ' H' en1} hl' hn hp s' => by
        cases io with
        | none => exact fun _ => hD.nx _ _ _ hl' hp s'
        | some i => exact fun hl2 => hD.nx _ _ _ hl2 hp (s'.mark2 (fun p hp' e => pins i rfl (e ▸ hpn p hp')) (hn i rfl))
      have offI : ∀ i, io = some i → ∀ dd, (offO en io)[i]? ≠ some (some dd) := fun i e dd q => by
        subst e
        unfold offO at q
        rw [List.getElem?_set_self'] at q
        cases en[i]? <;> simp at q
      refine ⟨cn, ns, fs, vs, B, offO en io, ec, en', hS, hpn, ?_⟩
      cases u with
      | asg i x =>
        refine uv_mono x (fun dd hk σ' H' hl' s' => offN hl' (fun j e dd' q => ?_) hk s') h.2
        by_cases e2 : i = j
        · subst e2
          exact h.1 e
        · rw [List.getElem?_set_ne e2] at q
          exact offI j e dd' q
      | ret x =>
        refine uv_mono x (fun dd hk σ' v H' s' => ?_) h
        cases io with
        | none => exact hD.rt _ _ _ _ _ hk s'
        | some i => exact hD.rt _ _ _ _ _ hk s'
      | pas => exact fun σ' H' hl' s' => offN hl' offI h s'
    · rename_i ns' hm hns
      have hb := c.ok.exm cn c' false hm
      rw [← ec] at hb
      exact ⟨false, hb, (fun e => nomatch e), fun _ => hnd_wish c hx hpn hD hE' hl k10 h⟩
    · exact h.elim
end
end Pf

/-! Statements and blocks that the checks let pass keep their word. -/
namespace Pf
open PySem PySem.Spec PyProof.Rows L2
section
variable {G : Gb} {g : Str → Addr} {k : Nat} {sc : Scope} {N : List Str} {pn : List Nat} {fl : List String} {el : List (String × Nat)}
theorem t_try {W : WX} {X : Cx} (cs : Cs X sc) (c : Ct G g k sc N W X) (hel : ∀ q ∈ el, ∃ ns, G.excs q.1 = some ns ∧ ns.length = q.2) {b : Ss} {hs : Hs} {body : List Stmt} {h0 : ExceptHandler} {hds : List ExceptHandler} {p : Pos} (hh : chkHs N el pn hs sc (h0 :: hds) = true)
    (hb : ∀ {W : WX} {X : Cx}, Cs X sc → Ct G g k sc N W X → PSs X body (tS X.K g G W N.length pn (runs G b))) : PS X (.Try body (h0 :: hds) [] [] p) (tS X.K g G W N.length pn (run G (.tri b hs))) := by
  refine (ps_try_mix (tb := fun W1 => tS X.K g G (wLen N.length W1) N.length pn (runs G b)) cs.stk cs.frm (by rw [c.hN]; exact c.nd) c.tk (fun W1 pn1 xe1 tk1 po1 => ?_) (hds_ok cs c hel hh)).imL fun D σ H hl ⟨B, en, P, hs', hx, hpn, hr, hD⟩ => ?_
  · have cs1 : Cs (X.tr pn1 xe1) sc := ⟨cs.calm, po1, cs.fn, cs.kind, cs.stk, cs.frm⟩
    have tk2 := takes_len tk1
    have c1 : Ct G g k sc N (wLen N.length W1) (X.tr pn1 xe1) := ⟨c.hN, c.nd, c.sc, c.room, c.hu, by
      have e : (X.tr pn1 xe1).N.length = N.length := by rw [show (X.tr pn1 xe1).N = N from c.hN]
      rw [e] at tk2
      exact tk2, c.ok⟩
    exact hb cs1 c1
  · unfold run at hr
    rw [c.hN] at hl ⊢
    exact ⟨B, en, _, hs', fun cn fs en1 σ1 H1 cls d h1 hE hl1 => hnd_wish c hx hpn hD hE hl1 hh h1, hpn, hr, fun en1 σ1 H1 h1 h2 h3 _ => hD.nx en1 σ1 H1 h1 h2 h3, hD.rt, fun en1 σ1 H1 h1 h2 h3 _ => hD.bk en1 σ1 H1 h1 h2 h3, fun en1 σ1 H1 h1 h2 h3 _ => hD.ct en1 σ1 H1 h1 h2 h3⟩
end
section
variable {N : List Str} {pn : List Nat} {fl : List String} {el : List (String × Nat)} {sc : Scope} {st : Stmt}
theorem is_asg {i : Nat} {e : E} (h : chkT N fl el pn (.asg i e) sc st = true) : ∃ x p v q, st = .Assign [.Name x p] v q ∧ (slotIs N i x && (loc sc x && (!pn.contains i && ((mLC e || !isLC v) && chkE N true fl e sc v)))) = true := by
  unfold chkT at h
  split at h
  all_goals first | contradiction | (cases h; done) | skip
  rename_i hh
  cases hh
  exact ⟨_, _, _, _, rfl, h⟩
theorem is_asgT {is : List Nat} {e : E} (h : chkT N fl el pn (.asgT is e) sc st = true) : ∃ ts k p v q, st = .Assign [.Tuple ts k p] v q ∧ ((!isTup v && !isLC v) && (chkTgt N sc.names is (.Tuple ts 0 default) && (is.all (fun i => !pn.contains i) && chkE N true fl e sc v))) = true := by
  unfold chkT at h
  split at h
  all_goals first | contradiction | (cases h; done) | skip
  rename_i hh
  cases hh
  exact ⟨_, _, _, _, _, rfl, h⟩
theorem is_aug {i : Nat} {op : Operator} {e : E} (h : chkT N fl el pn (.aug i op e) sc st = true) : ∃ x p o v q, st = .AugAssign (.Name x p) o v q ∧ (slotIs N i x && (loc sc x && (!pn.contains i && (decide (op = o) && ((decide (op = .Add) || decide (op = .Sub)) && chkE N true fl e sc v))))) = true := by
  unfold chkT at h
  split at h
  all_goals first | contradiction | (cases h; done) | skip
  rename_i hh
  cases hh
  exact ⟨_, _, _, _, _, rfl, h⟩
theorem is_put {i : Nat} {k e : E} (h : chkT N fl el pn (.put i k e) sc st = true) : ∃ x p kx q v q2, st = .Assign [.Subscript (.Name x p) kx q] v q2 ∧ (slotIs N i x && (vis sc x && (!(x == ("__debug__" : Str)) && (!(x == ("__classdict__" : Str)) && (nsl kx && (chkE N true fl k sc kx && (!isLC v && chkE N true fl e sc v))))))) = true := by
  unfold chkT at h
  split at h
  all_goals first | contradiction | (cases h; done) | skip
  rename_i hh
  cases hh
  exact ⟨_, _, _, _, _, _, rfl, h⟩
theorem is_setf {i : Nat} {f : String} {e : E} (h : chkT N fl el pn (.setf i f e) sc st = true) : ∃ x p fn q v q2, st = .Assign [.Attribute (.Name x p) fn q] v q2 ∧ (slotIs N i x && (vis sc x && (!(x == ("__debug__" : Str)) && (!(x == ("__classdict__" : Str)) && (decide (fn = Str.ofString f) && (!isLC v && chkE N true fl e sc v)))))) = true := by
  unfold chkT at h
  split at h
  all_goals first | contradiction | (cases h; done) | skip
  rename_i hh
  cases hh
  exact ⟨_, _, _, _, _, _, rfl, h⟩
theorem is_augI {i : Nat} {op : Operator} {k e : E} (h : chkT N fl el pn (.augI i op k e) sc st = true) : ∃ x p kx q o v q2, st = .AugAssign (.Subscript (.Name x p) kx q) o v q2 ∧ (slotIs N i x && (vis sc x && (!(x == ("__debug__" : Str)) && (!(x == ("__classdict__" : Str)) && (nsl kx && (decide (op = o) && ((decide (op = .Add) || decide (op = .Sub)) && (chkE N true fl k sc kx && chkE N true fl e sc v)))))))) = true := by
  unfold chkT at h
  split at h
  all_goals first | contradiction | (cases h; done) | skip
  rename_i hh
  cases hh
  exact ⟨_, _, _, _, _, _, _, rfl, h⟩
theorem is_expr {e : E} (h : chkT N fl el pn (.expr e) sc st = true) : ∃ v q, st = .Expr v q ∧ (!isLC v && chkE N true fl e sc v) = true := by
  unfold chkT at h
  split at h
  all_goals first | contradiction | (cases h; done) | skip
  rename_i hh
  cases hh
  exact ⟨_, _, rfl, h⟩
theorem is_ret {e : E} (h : chkT N fl el pn (.ret e) sc st = true) : ∃ v q, st = .Return (some v) q ∧ chkE N true fl e sc v = true := by
  unfold chkT at h
  split at h
  all_goals first | contradiction | (cases h; done) | skip
  rename_i hh
  cases hh
  exact ⟨_, _, rfl, h⟩
theorem is_retN  (h : chkT N fl el pn (.retN) sc st = true) : ∃ q, st = .Return none q ∧ true = true := by
  unfold chkT at h
  split at h
  all_goals first | contradiction | (cases h; done) | skip
  exact ⟨_, rfl, rfl⟩
theorem is_iff {c : E} {a b : Ss} (h : chkT N fl el pn (.iff c a b) sc st = true) : ∃ x p q r, st = .If x p q r ∧ (chkE N true fl c sc x && (chkTs' N fl el pn a sc p && chkTs' N fl el pn b sc q)) = true := by
  unfold chkT at h
  split at h
  all_goals first | contradiction | (cases h; done) | skip
  rename_i hh
  cases hh
  exact ⟨_, _, _, _, rfl, h⟩
theorem is_whl {c : E} {b : Ss} (h : chkT N fl el pn (.whl c b) sc st = true) : ∃ x p r, st = .While x p [] r ∧ (chkE N true fl c sc x && chkTs' N fl el pn b sc p) = true := by
  unfold chkT at h
  split at h
  all_goals first | contradiction | (cases h; done) | skip
  rename_i hh
  cases hh
  exact ⟨_, _, _, rfl, h⟩
theorem is_forr {tg : List Nat} {src : Src} {b : Ss} (h : chkT N fl el pn (.forr tg src b) sc st = true) : ∃ t it p r, st = .For t it p [] r ∧ (chkTgt N sc.names tg t && (tg.all (fun i => !pn.contains i) && (nset it && (chkS N true fl src sc it && chkTs' N fl el pn b sc p)))) = true := by
  unfold chkT at h
  split at h
  all_goals first | contradiction | (cases h; done) | skip
  rename_i hh
  cases hh
  exact ⟨_, _, _, _, rfl, h⟩
theorem is_brk  (h : chkT N fl el pn (.brk) sc st = true) : ∃ q, st = .Break q ∧ true = true := by
  unfold chkT at h
  split at h
  all_goals first | contradiction | (cases h; done) | skip
  exact ⟨_, rfl, rfl⟩
theorem is_cnt  (h : chkT N fl el pn (.cnt) sc st = true) : ∃ q, st = .Continue q ∧ true = true := by
  unfold chkT at h
  split at h
  all_goals first | contradiction | (cases h; done) | skip
  exact ⟨_, rfl, rfl⟩
theorem is_raise {c : String} {es : Es} (h : chkT N fl el pn (.raise c es) sc st = true) : ∃ x p args q r, st = .Raise (some (.Call (.Name x p) args [] q)) none r ∧ (decide (x = Str.ofString c) && (gl sc x && (el.contains (c, args.length) && (decide (args.length ≤ 100) && chkEs N true fl es sc args)))) = true := by
  unfold chkT at h
  split at h
  all_goals first | contradiction | (cases h; done) | skip
  rename_i hh
  cases hh
  exact ⟨_, _, _, _, _, rfl, h⟩
theorem is_tri {b : Ss} {hs : Hs} (h : chkT N fl el pn (.tri b hs) sc st = true) : ∃ body h0 hds r, st = .Try body (h0 :: hds) [] [] r ∧ (chkTs' N fl el pn b sc body && chkHs N el pn hs sc (h0 :: hds)) = true := by
  unfold chkT at h
  split at h
  all_goals first | contradiction | (cases h; done) | skip
  rename_i hh
  cases hh
  exact ⟨_, _, _, _, rfl, h⟩
theorem is_pas (h : chkT N fl el pn .pas sc st = true) : (∃ p, st = .Pass p) ∨ ∃ x a p q, st = .Expr (.Constant (.str x) a p) q := by
  unfold chkT at h
  split at h
  all_goals first | contradiction | (cases h; done) | skip
  · exact .inl ⟨_, rfl⟩
  · exact .inr ⟨_, _, _, _, rfl⟩
end
section
variable {G : Gb} {g : Str → Addr} {k : Nat} {sc : Scope} {N : List Str} {pn : List Nat} {fl : List String} {el : List (String × Nat)}
mutual
theorem okT (hcal : ∀ f ∈ fl, (G.fns f).isSome = true) (hel : ∀ q ∈ el, ∃ ns, G.excs q.1 = some ns ∧ ns.length = q.2) : ∀ (m : S) {W : WX} {X : Cx} {st : Stmt}, Cs X sc → Ct G g k sc N W X → chkT N fl el pn m sc st = true → PS X st (tS X.K g G W N.length pn (run G m))
  | .asg i e, W, X, st, cs, c, h => by
    obtain ⟨x, p, v, q, rfl, h⟩ := is_asg h
    obtain ⟨h1, h⟩ := and2 h
    obtain ⟨h2, h⟩ := and2 h
    obtain ⟨h3, h⟩ := and2 h
    obtain ⟨h4, h5⟩ := and2 h
    cases hlc : mLC e with
    | false =>
      rw [hlc, Bool.false_or] at h4
      exact t_asg cs c h1 h2 h3 (not1 h4) (okE (fun _ => hcal) e c (fun _ => cs.calm) h5).pe
    | true =>
      cases e with
      | lc tg src cc elt =>
        obtain ⟨el', t, it, ifs, a, scope, p', rfl, h6⟩ := i_lc h5
        obtain ⟨_, h6⟩ := and2 h6
        obtain ⟨k4, h6⟩ := and2 h6
        obtain ⟨k6, h6⟩ := and2 h6
        obtain ⟨k8, h6⟩ := and2 h6
        obtain ⟨k10, h6⟩ := and2 h6
        obtain ⟨k12, h6⟩ := and2 h6
        obtain ⟨k14, h6⟩ := and2 h6
        obtain ⟨k16, k17⟩ := and2 h6
        cases of_decide_eq_true k4
        have hi := okI (tg := t) (fun _ => hcal) src c (fun _ => cs.calm) k12
        have hg := fun s H C cl fp => g_tg (g := g) (X := X.blk s H scope (compEnvC scope cl C X.env) fp) cs.calm c.hN c.nd (blk_k s H C cl fp) k8
        have ht := fun s H C cl fp => okTs (fun _ => hcal) cc (c.blk s H C cl fp) (fun _ => cs.calm) (of_decide_eq_true k16) k14
        have he := fun s H C cl fp => (okE (fun _ => hcal) elt (c.blk s H C cl fp) (fun _ => cs.calm) k17).pe
        exact t_asgLc cs c h1 h2 h3 k6 k10 hi hg ht he (fun σ H Q hl h => lc_im c k6 σ H Q hl h)
      | _ => cases hlc
  | .asgT is e, W, X, st, cs, c, h => by
    obtain ⟨ts, kk, p, v, q, rfl, h⟩ := is_asgT h
    obtain ⟨h1, h⟩ := and2 h
    obtain ⟨h2, h⟩ := and2 h
    obtain ⟨h3, h4⟩ := and2 h
    exact t_asgT cs c h1 h2 h3 (okE (fun _ => hcal) e c (fun _ => cs.calm) h4).pe
  | .aug i op e, W, X, st, cs, c, h => by
    obtain ⟨x, p, o, v, q, rfl, h⟩ := is_aug h
    obtain ⟨h1, h⟩ := and2 h
    obtain ⟨h2, h⟩ := and2 h
    obtain ⟨h3, h⟩ := and2 h
    obtain ⟨h4, h⟩ := and2 h
    obtain ⟨h5, h6⟩ := and2 h
    cases of_decide_eq_true h4
    rw [Bool.or_eq_true] at h5
    exact t_aug cs c h1 h2 h3 (h5.imp of_decide_eq_true of_decide_eq_true) (okE (fun _ => hcal) e c (fun _ => cs.calm) h6).pe
  | .put i kk e, W, X, st, cs, c, h => by
    obtain ⟨x, p, kx, q, v, q2, rfl, h⟩ := is_put h
    obtain ⟨h1, h⟩ := and2 h
    obtain ⟨h2, h⟩ := and2 h
    obtain ⟨h3, h⟩ := and2 h
    obtain ⟨h4, h⟩ := and2 h
    obtain ⟨h5, h⟩ := and2 h
    obtain ⟨h6, h⟩ := and2 h
    obtain ⟨h7, h8⟩ := and2 h
    exact t_put c h1 h2 h3 h4 h5 (not1 h7) (okE (fun _ => hcal) kk c (fun _ => cs.calm) h6).pe (okE (fun _ => hcal) e c (fun _ => cs.calm) h8).pe
  | .setf i f e, W, X, st, cs, c, h => by
    obtain ⟨x, p, fn, q, v, q2, rfl, h⟩ := is_setf h
    obtain ⟨h1, h⟩ := and2 h
    obtain ⟨h2, h⟩ := and2 h
    obtain ⟨h3, h⟩ := and2 h
    obtain ⟨h4, h⟩ := and2 h
    obtain ⟨h5, h⟩ := and2 h
    obtain ⟨h6, h7⟩ := and2 h
    exact t_setf c h1 h2 h3 h4 (of_decide_eq_true h5) (not1 h6) (okE (fun _ => hcal) e c (fun _ => cs.calm) h7).pe
  | .augI i op kk e, W, X, st, cs, c, h => by
    obtain ⟨x, p, kx, q, o, v, q2, rfl, h⟩ := is_augI h
    obtain ⟨h1, h⟩ := and2 h
    obtain ⟨h2, h⟩ := and2 h
    obtain ⟨h3, h⟩ := and2 h
    obtain ⟨h4, h⟩ := and2 h
    obtain ⟨h5, h⟩ := and2 h
    obtain ⟨h6, h⟩ := and2 h
    obtain ⟨h7, h⟩ := and2 h
    obtain ⟨h8, h9⟩ := and2 h
    cases of_decide_eq_true h6
    rw [Bool.or_eq_true] at h7
    exact t_augI c h1 h2 h3 h4 h5 (h7.imp of_decide_eq_true of_decide_eq_true) (okE (fun _ => hcal) kk c (fun _ => cs.calm) h8).pe (okE (fun _ => hcal) e c (fun _ => cs.calm) h9).pe
  | .expr e, W, X, st, cs, c, h => by
    obtain ⟨v, q, rfl, h⟩ := is_expr h
    obtain ⟨h1, h2⟩ := and2 h
    exact t_expr c (not1 h1) (okE (fun _ => hcal) e c (fun _ => cs.calm) h2).pe
  | .ret e, W, X, st, cs, c, h => by
    obtain ⟨v, q, rfl, h⟩ := is_ret h
    by_cases hv : ∃ i, e = .var i
    · obtain ⟨i, rfl⟩ := hv
      obtain ⟨x, p, rfl, h1⟩ := i_var h
      exact t_retV c h1
    · exact t_ret c (fun i e => hv ⟨i, e⟩) (okE (fun _ => hcal) e c (fun _ => cs.calm) h).pe
  | .retN, W, X, st, cs, c, h => by
    obtain ⟨q, rfl, _⟩ := is_retN h
    refine ⟨fun pins s σ H D I ⟨B, en, P, hs', hx, hpn, hr, hD⟩ => ps_retN.run pins s σ H D I ?_⟩
    unfold run at hr
    exact hD.rt _ _ _ _ _ hr (hs'.flat fun Z => .non)
  | .iff cc a b, W, X, st, cs, c, h => by
    obtain ⟨x, p, q, r, rfl, h⟩ := is_iff h
    obtain ⟨h1, h⟩ := and2 h
    obtain ⟨h2, h3⟩ := and2 h
    exact t_if c (okE (fun _ => hcal) cc c (fun _ => cs.calm) h1).pt (okSs hcal hel a cs c h2) (okSs hcal hel b cs c h3)
  | .whl cc b, W, X, st, cs, c, h => by
    obtain ⟨x, p, r, rfl, h⟩ := is_whl h
    obtain ⟨h1, h2⟩ := and2 h
    exact t_while cs c (okE (fun _ => hcal) cc c (fun _ => cs.calm) h1).pt (okSs hcal hel b cs c h2)
  | .forr tg src b, W, X, st, cs, c, h => by
    obtain ⟨t, it, p, r, rfl, h⟩ := is_forr h
    obtain ⟨h1, h⟩ := and2 h
    obtain ⟨h2, h⟩ := and2 h
    obtain ⟨h3, h⟩ := and2 h
    obtain ⟨h4, h5⟩ := and2 h
    exact t_for cs c h1 h2 h3 (okI (fun _ => hcal) src c (fun _ => cs.calm) h4) (okSs hcal hel b cs c h5)
  | .brk, W, X, st, cs, c, h => by
    obtain ⟨q, rfl, _⟩ := is_brk h
    refine ps_break.imL fun D σ H hl ⟨B, en, P, hs', hx, hpn, hr, hD⟩ => ?_
    unfold run at hr
    exact fun _ => hD.bk _ _ _ (by rw [← c.hN]; exact hl) hr hs'
  | .cnt, W, X, st, cs, c, h => by
    obtain ⟨q, rfl, _⟩ := is_cnt h
    refine ps_continue.imL fun D σ H hl ⟨B, en, P, hs', hx, hpn, hr, hD⟩ => ?_
    unfold run at hr
    exact fun _ => hD.ct _ _ _ (by rw [← c.hN]; exact hl) hr hs'
  | .pas, W, X, st, cs, c, h => by
    rcases is_pas h with ⟨p, rfl⟩ | ⟨x, a, p, q, rfl⟩
    · refine ps_pass.imL fun D σ H hl ⟨B, en, P, hs', hx, hpn, hr, hD⟩ => ?_
      unfold run at hr
      exact fun _ => hD.nx _ _ _ (by rw [← c.hN]; exact hl) hr hs'
    · refine ps_doc.imL fun D σ H hl ⟨B, en, P, hs', hx, hpn, hr, hD⟩ => ?_
      unfold run at hr
      exact fun _ => hD.nx _ _ _ (by rw [← c.hN]; exact hl) hr hs'
  | .raise cn es, W, X, st, cs, c, h => by
    obtain ⟨x, p, args, q, r, rfl, h⟩ := is_raise h
    obtain ⟨h1, h⟩ := and2 h
    obtain ⟨h2, h⟩ := and2 h
    obtain ⟨h3, h⟩ := and2 h
    obtain ⟨h4, h5⟩ := and2 h
    obtain ⟨ns, e1, e2⟩ := hel (cn, args.length) (by simpa using h3)
    have hn := i_ess h5
    exact t_raise cs c e1 e2 (of_decide_eq_true h1) h2 hn.1 hn.2 (of_decide_eq_true h4) (okV (fun _ => hcal) es c (fun _ => cs.calm) h5)
  | .tri b hs, W, X, st, cs, c, h => by
    obtain ⟨body, h0, hds, r, rfl, h⟩ := is_tri h
    obtain ⟨h1, h2⟩ := and2 h
    exact t_try cs c hel h2 fun cs' c' => okSs hcal hel b cs' c' h1
theorem okSs (hcal : ∀ f ∈ fl, (G.fns f).isSome = true) (hel : ∀ q ∈ el, ∃ ns, G.excs q.1 = some ns ∧ ns.length = q.2) : ∀ (m : Ss) {W : WX} {X : Cx} {sts : List Stmt}, Cs X sc → Ct G g k sc N W X → chkTs' N fl el pn m sc sts = true → PSs X sts (tS X.K g G W N.length pn (runs G m))
  | .nil, W, X, sts, cs, c, h => by
    cases sts with
    | cons _ _ => unfold chkTs' at h; cases h
    | nil =>
      refine pss_nil.imL fun D σ H hl ⟨B, en, P, hs', hx, hpn, hr, hD⟩ => ?_
      unfold runs at hr
      exact fun _ => hD.nx _ _ _ (by rw [← c.hN]; exact hl) hr hs'
  | .cons m ms, W, X, sts, cs, c, h => by
    cases sts with
    | nil => unfold chkTs' at h; cases h
    | cons st sts =>
      unfold chkTs' at h
      obtain ⟨h1, h2⟩ := and2 h
      have k1 := okT hcal hel m cs c h1
      have k2 := okSs hcal hel ms cs c h2
      match ms, h2, k2 with
      | .nil, h2, _ =>
        cases sts with
        | cons _ _ => unfold chkTs' at h2; cases h2
        | nil =>
          refine ⟨fun pins s σ H D I ⟨B, en, P, hs', hx, hpn, hr, hD⟩ => (pss_one k1).run pins s σ H D I ?_⟩
          unfold runs at hr
          exact ⟨B, en, P, hs', hx, hpn, hr, hD⟩
      | .cons m2 ms2, h2, k2 =>
        refine ⟨fun pins s σ H D I ⟨B, en, P, hs', hx, hpn, hr, hD⟩ => (pss_cons k1 k2).run pins s σ H D I ?_⟩
        rw [runs] at hr
        · exact ⟨B, en, { P with nx := fun e1 => runs G (.cons m2 ms2) e1 P }, hs', hx, hpn, hr, fun en1 σ1 H1 _ h3 h4 => ⟨B, en1, P, h4, hx, hpn, h3, hD⟩, hD.rt, hD.bk, hD.ct⟩
        · intro z
          cases z
end
end
end Pf

/-! Functions. -/
namespace Pf
open PySem PySem.Spec PyProof.Rows L2
/-- what the caller is told of its arguments -/
def back (pn : List Nat) (en : En) : Nat → List D → List (Option D)
  | _, [] => []
  | i, d :: ds => (if pn.contains i then (en[i]?).join else if fz d then some d else none) :: back pn en (i + 1) ds
/-- a def's meaning -/
def semF (G : Gb) (n np : Nat) (pn : List Nat) (body : Ss) : FSp := fun ds q x => ds.length = np ∧
  runs G body (ds.map some ++ List.replicate (n - np) none) { nx := fun en => q .non (back pn en 0 ds), rt := fun d en => q d (back pn en 0 ds), ex := fun c fs en => x c fs (back pn en 0 ds) }
section
variable {K : PySem.W.Frag} {g : Str → Addr} {H : Hp} {Z : AS}
theorem RepE.pad : ∀ {en : En} {σ : Sg} {O : AS} (n : Nat), RepE K g Z H en σ O → RepE K g Z H (en ++ List.replicate n none) (σ ++ List.replicate n none) O
  | _, _, _, 0, .nil => .nil
  | _, _, _, n + 1, .nil => .un (RepE.pad (en := []) (σ := []) n .nil)
  | _, _, _, n, .un t => .un (RepE.pad n t)
  | _, _, _, n, .has s1 s2 r t => .has s1 s2 r (RepE.pad n t)
theorem RepE.frzn : ∀ {ds : List D} {vs : List V} {O : AS}, RepE K g Z H (ds.map some) (vs.map some) O → ∀ (i : Nat) (d : D) (v : V), ds[i]? = some d → vs[i]? = some v → fz d = true → Rep K g Z H d v AS.no
  | [], _, _, _, _, _, _, h, _, _ => by cases h
  | _ :: _, [], _, _, _, _, _, _, h, _ => by cases h
  | d :: ds, v :: vs, _, e, 0, d', v', h1, h2, hf => by
    cases h1
    cases h2
    cases e with
    | has s1 s2 r t => exact r.none hf
  | d :: ds, v :: vs, _, e, i + 1, d', v', h1, h2, hf => by
    cases e with
    | has s1 s2 r t => exact RepE.frzn t i d' v' h1 h2 hf
theorem back_ok {pn : List Nat} {en : En} {σ : Sg} {vs0 : List V} (hpin : ∀ i ∈ pn, ∀ v, vs0[i]? = some v → σ[i]? = some (some v)) : ∀ {ds : List D} {vs : List V} (i : Nat) {O : AS}, RepE K g Z H (en.drop i) (σ.drop i) O → ds.length = vs.length → (∀ j v, vs[j]? = some v → vs0[i + j]? = some v) →
    (∀ (j : Nat) (d : D) (v : V), ds[j]? = some d → vs[j]? = some v → fz d = true → Rep K g Z H d v AS.no) → RepE K g Z H (back pn en i ds) (vs.map some) O
  | [], [], _, _, _, _, _, _ => .nil
  | [], _ :: _, _, _, _, h, _, _ => by cases h
  | _ :: _, [], _, _, _, h, _, _ => by cases h
  | d :: ds, v :: vs, i, O, e, hl, h0, hf => by
    rw [back]
    have hl' : ds.length = vs.length := by simpa using hl
    have h0' : ∀ j u, vs[j]? = some u → vs0[i + 1 + j]? = some u := fun j u h => by
      have := h0 (j + 1) u h
      rw [← this]
      congr 1
      omega
    have hf' : ∀ (j : Nat) (d : D) (v : V), ds[j]? = some d → vs[j]? = some v → fz d = true → Rep K g Z H d v AS.no := fun j d v a b c => hf (j + 1) d v a b c
    have other : ∀ {O'}, RepE K g Z H (en.drop (i + 1)) (σ.drop (i + 1)) O' → (∀ b, O' b → O b) → RepE K g Z H ((if fz d then some d else none) :: back pn en (i + 1) ds) ((v :: vs).map some) O := fun {O'} t s => by
      cases hd : fz d with
      | true => exact .has (O1 := AS.no) (O2 := O) (fun _ z => z.elim) (fun _ z => ⟨z, id⟩) (hf 0 d v rfl rfl hd) ((back_ok hpin (i + 1) t hl' h0' hf').up s)
      | false => exact .un ((back_ok hpin (i + 1) t hl' h0' hf').up s)
    have lens := e.len
    by_cases hi : i < en.length
    · have hi' : i < σ.length := by
        simp only [List.length_drop] at lens
        omega
      have e1 := List.drop_eq_getElem_cons hi
      have e2 := List.drop_eq_getElem_cons hi'
      rw [e1, e2] at e
      have gj : (en[i]?).join = en[i] := by
        rw [List.getElem?_eq_getElem hi]
        rfl
      generalize en[i] = x at e gj
      generalize hy : σ[i] = y at e
      have gy : σ[i]? = some y := by rw [List.getElem?_eq_getElem hi', hy]
      by_cases hp : pn.contains i = true
      · rw [if_pos hp, gj]
        have hv := hpin i (by simpa using hp) v (h0 0 v rfl)
        rw [gy] at hv
        cases hv
        cases e with
        | un t => exact .un (back_ok hpin (i + 1) t hl' h0' hf')
        | has s1 s2 r t => exact .has s1 s2 r (back_ok hpin (i + 1) t hl' h0' hf')
      · rw [if_neg hp]
        cases e with
        | un t => exact other t fun _ z => z
        | has s1 s2 r t => exact other t fun b z => (s2 b z).1
    · have z1 : en.drop i = [] := List.drop_eq_nil_of_le (by omega)
      have z2 : σ.drop i = [] := List.drop_eq_nil_of_le (by simp only [List.length_drop] at lens; omega)
      have t : RepE K g Z H (en.drop (i + 1)) (σ.drop (i + 1)) AS.no := by
        rw [List.drop_eq_nil_of_le (by omega), List.drop_eq_nil_of_le (by simp only [List.length_drop] at lens; omega)]
        exact .nil
      by_cases hp : pn.contains i = true
      · rw [if_pos hp, List.getElem?_eq_none (by omega)]
        exact .un ((back_ok hpin (i + 1) t hl' h0' hf').up fun _ z => z.elim)
      · rw [if_neg hp]
        exact other t fun _ z => z.elim
end
def pinsOf (pn : List Nat) (vs : List V) : List (Nat × V) := pn.filterMap fun i => (vs[i]?).map fun v => (i, v)
section
variable {P : Program} {w : World} {K : PySem.W.Frag} {mg : Str → Option Value} {base : Heap} {x qual : Str} {params : Arguments} {body : List Stmt} {scope : Scope} {kws : List (Str × V)} {f : Addr} {fd : FuncData} {dvs : List V}
theorem fn_ok {G : Gb} {g : Str → Addr} {k : Nat} {N ps : List Str} {pn : List Nat} {fl : List String} {el : List (String × Nat)} {m : Ss} (F : FunD K x qual params body scope dvs kws f fd) (S : FnScope N ps scope) (ok : GOk G g k P w K mg base)
    (hcal : ∀ f ∈ fl, (G.fns f).isSome = true) (hel : ∀ q ∈ el, ∃ ns, G.excs q.1 = some ns ∧ ns.length = q.2) (hc : chkTs' N fl el pn m scope body = true) (hpn : ∀ i ∈ pn, i < ps.length) : FnOk P w K mg base (L2.CX P w) (k + 1) f fd ps (spOf K g G (semF G N.length ps.length pn m)) := by
  have hps : ps.length ≤ N.length := by
    have := congrArg List.length S.pre
    rw [List.length_take] at this
    omega
  refine F.ok S (fun vs H Q E ⟨Z, O, ds, q, x, s, h, _, _⟩ => ?_) fun cdv A outer s0 H vs Q E hr ⟨Z, O, ds, q, x', s, h, hq, hx⟩ => ⟨tS K g G (fun cls d _ H => E cls d H) N.length pn (runs G m), okSs (k := k) hcal hel m ?_ ?_ hc, ?_⟩
  · have := SR.len s
    simp only [List.length_map] at this
    rw [← this]
    exact h.1
  · exact ⟨rfl, passes_of rfl, fun _ => rfl, S.kind, rfl, rfl⟩
  · exact ⟨rfl, S.nd, rfl, fun _ => hr, by have := hr.un; show (A.deeper (envOfC qual scope s0.heap.objs.size f cdv)).units + 66 < _; omega, takes_of rfl rfl rfl rfl, ok⟩
  · have hl := SR.len s
    simp only [List.length_map] at hl
    have hnp : ds.length = ps.length := h.1
    obtain ⟨Z1, O1, A1, A2, e, t, s1, s2, q1, _⟩ := s
    have frz0 := RepE.frzn e
    have c0 : Good ⟨H, Z1, O1, pinsOf pn vs, [], []⟩ Z1 O1 H := (Good.refl q1.dj q1.trO q1.trZ).re rfl rfl rfl
    have hst : L2.start N vs = vs.map some ++ List.replicate (N.length - ps.length) none := by
      unfold L2.start
      rw [← hl, hnp]
    have hpin : ∀ i ∈ pn, ∀ v, vs[i]? = some v → (i, v) ∈ pinsOf pn vs := fun i hi v hv => List.mem_filterMap.mpr ⟨i, hi, by rw [hv]; rfl⟩
    have hpin2 : ∀ p ∈ pinsOf pn vs, p.1 ∈ pn ∧ vs[p.1]? = some p.2 := fun p hp => by
      obtain ⟨i, hi, e⟩ := List.mem_filterMap.mp hp
      cases hv : vs[i]? with
      | none => rw [hv] at e; cases e
      | some v => rw [hv] at e; cases e; exact ⟨hi, hv⟩
    have st : ST K g ⟨H, Z1, O1, pinsOf pn vs, [], []⟩ (ds.map some ++ List.replicate (N.length - ps.length) none) [] (L2.start N vs) [] H := by
      rw [hst]
      refine ⟨⟨Z1, O1, A1, AS.no, RepE.pad _ e, .nil, s1, fun _ z => z.elim, c0, fun p hp => ?_⟩, rfl⟩
      obtain ⟨_, hv⟩ := hpin2 p hp
      have hlt := (List.getElem?_eq_some_iff.mp hv).1
      rw [List.getElem?_append_left (by rw [List.length_map]; exact hlt), List.getElem?_map, hv]
      rfl
    -- back at the caller's
    have home : ∀ {en : En} {σ : Sg} {H' : Hp} {rr : List D} {vv : List V}, ST K g ⟨H, Z1, O1, pinsOf pn vs, [], []⟩ en (rr.map R.v) σ vv H' → SR K g ⟨H, Z, O, [], [], []⟩ (back pn en 0 ds) (rr.map R.v) (vs.map some) vv H' := by
      intro en σ H' rr vv s
      obtain ⟨⟨Z2, O2, B1, B2, e2, t2, b1, b2, q2, p2⟩, hl2⟩ := s
      have q2' : Good ⟨H, Z1, O1, [], [], []⟩ Z2 O2 H' := q2.re rfl rfl rfl
      obtain ⟨G1, _, _⟩ := Good.callee (Ok := AS.no) q1 (fun _ z => z) (fun _ z => z.elim) q2'
      have kp : Keep Z1 AS.no H H' := fun a y hy z => q2'.fr a y hy fun ho => by
        rcases z with z | z | z
        · exact q1.dj a ho z
        · exact z
        · obtain ⟨y', e', st'⟩ := q1.trO a ho
          rw [hy] at e'
          cases e'
          rw [z] at st'
          cases st'
      have rt : RepT K g Z2 H' (vs.map some) (rr.map R.v) vv B2 := by
        have z := t2
        simp only [List.map_nil, List.append_nil] at z
        exact RepT.any z
      refine ⟨Z2, O2, B1, B2, back_ok (vs0 := vs) (fun i hi v hv => p2 _ (hpin i hi v hv)) 0 (by simpa using e2) hl (fun j v h => by rw [Nat.zero_add]; exact h) fun j d v h1 h2 h3 => (frz0 j d v h1 h2 h3).keep q2'.zz kp, rt, b1, b2, G1.sub (fun a z => .inl z), fun p hp => by cases hp⟩
    refine ⟨_, _, _, st, ?_, fun p hp => (hpin2 p hp).1, h.2, ?_⟩
    · intro c fs en σ H' cls d h1 hE
      refine hx c fs _ cls d H' h1 ?_
      obtain ⟨ws, ns, fV, a1, a2, a3⟩ := hE
      have a1' : ST K g ⟨H, Z1, O1, pinsOf pn vs, [], []⟩ en (fs.map R.v) σ ws H' := ⟨a1, by rw [List.length_map]; exact a2⟩
      have z := home a1'
      refine ⟨ws, ns, fV, ?_, a2, a3⟩
      simpa only [List.map_nil, List.append_nil] using z
    · refine ⟨fun en σ H' _ h1 h2 => hq _ _ _ _ h1 ?_, fun d en σ v H' h1 h2 => hq _ _ _ _ h1 (home (rr := [d]) h2), fun _ _ _ _ h => h.elim, fun _ _ _ _ h => h.elim⟩
      exact home (rr := [.non]) (h2.flat fun Z => .non)
end
end Pf

/-! The package's names, one after the other. -/
namespace Pf
open PySem PySem.Spec PyProof.Rows L2
def mkH (fs : List (String × FSp)) (ms : List ((String × String) × FSp)) (fk : List (String × String)) (ex : List (String × List Str)) (em : List ((String × String) × Bool)) (ci : List (String × Int)) : Gb := { fns := fun x => fs.lookup x, excs := fun c => ex.lookup c, exm := fun a b => em.lookup (a, b), cints := fun x => ci.lookup x, mth := fun c m => ms.lookup (c, m), fok := fun c f => fk.any fun p => c == Str.ofString p.1 && f == Str.ofString p.2 }
/-- without classes -/
def mkG (fs : List (String × FSp)) (ex : List (String × List Str)) (em : List ((String × String) × Bool)) (ci : List (String × Int)) : Gb := mkH fs [] [] ex em ci
/-! ### error classes -/
def oexB (K : PySem.W.Frag) (C : Addr) : Bool := (match K.lookup C with
  | some ⟨.type "type", _, .cls cd, sl⟩ => (match cd.mro, sl.toList with
    | .ref C1 :: bm, [_, _, _, _, some (.builtin n), _] => C1 == C && (n == "ValueError.__new__" && (!cd.hasDel && (cd.hasDict && PySem.HandSPX.refsVE bm)))
    | _, _ => false)
  | _ => false) && (decide (PySem.W.findIn K (.ref C) "__setattr__" = some (some (.builtin "object.__setattr__"))) && (decide (PySem.W.subIn K (.ref C) (.type "BaseException") = some true) && (decide (PySem.W.typeIn K (.ref C) = some (.type "type")) && PySem.W.keepIn K (.ref C))))
theorem oexB_ok {K : PySem.W.Frag} {C : Addr} (h : oexB K C = true) : OexC K C := by
  unfold oexB at h
  obtain ⟨h1, h⟩ := and2 h
  obtain ⟨h2, h⟩ := and2 h
  obtain ⟨h3, h⟩ := and2 h
  obtain ⟨h4, h5⟩ := and2 h
  refine ⟨?_, of_decide_eq_true h2, of_decide_eq_true h3, of_decide_eq_true h4, h5⟩
  split at h1
  · rename_i dd cd sl ho
    split at h1
    · rename_i C1 bm k0 k1 k2 k3 n k5 hm hs
      obtain ⟨e1, h1⟩ := and2 h1
      obtain ⟨e2, h1⟩ := and2 h1
      obtain ⟨e3, h1⟩ := and2 h1
      obtain ⟨e4, e5⟩ := and2 h1
      have q1 := eq_of_beq e1
      have q2 := eq_of_beq e2
      have q3 := not1 e3
      subst q1 q2
      obtain ⟨nm, bs, mro, ns, qn, hd, sn, sub, ab, col, del⟩ := cd
      dsimp only at hm q3 e4
      subst hm q3 e4
      have hsl : sl = #[k0, k1, k2, k3, some (.builtin "ValueError.__new__"), k5] := by
        obtain ⟨l⟩ := sl
        simp only at hs
        rw [hs]
      subst hsl
      exact ⟨nm, qn, ns, bs, bm, sn, sub, ab, col, dd, k0, k1, k2, k3, k5, ho, e5⟩
    · cases h1
  · cases h1
def exB (K : PySem.W.Frag) (c : Str) (ns : List Str) : Bool := PySem.W.keepIn K (.ref (He.ga K c)) && (decide (PySem.W.nsIn K mainGlobals c = some (some (.ref (He.ga K c)))) && (decide ((c == ("__debug__" : Str)) = false) && (decide (PySem.W.subIn K (.ref (He.ga K c)) (.type "BaseException") = some true) && (decide (PySem.W.typeIn K (.ref (He.ga K c)) = some (.type "type")) && (decide ns.Nodup &&
  (if ns.isEmpty then PySem.W.excIn K (He.ga K c) [.type "ValueError", .type "Exception", .type "BaseException", .type "object"] "ValueError.__new__" else
    oexB K (He.ga K c) && (xfB K (He.ga K c) && (ns.all (fun n => decide (PySem.W.findIn K (.ref (He.ga K c)) n = some none)) && (decide (PySem.W.findIn K (.ref (He.ga K c)) "__init__" = some (some (.ref (He.ma K (He.ga K c) "__init__")))) && decide (PySem.W.typeIn K (.ref (He.ma K (He.ga K c) "__init__")) = some (.type "function")))))))))))
/-! ### their __init__ -/
def chkIni (N : List Str) (sc : Scope) : List Str → Nat → List Stmt → Bool
  | [], _, [] => true
  | f :: fs, j, .Assign [.Attribute (.Name x _) f' _] (.Name y _) _ :: st => decide (f = f') && ((slotIs N 0 x && (vis sc x && (!(x == ("__debug__" : Str)) && !(x == ("__classdict__" : Str))))) && ((slotIs N j y && (vis sc y && (!(y == ("__debug__" : Str)) && !(y == ("__classdict__" : Str))))) && chkIni N sc fs (j + 1) st))
  | _, _, _ => false
def iniT (K : PySem.W.Frag) : List Str → Nat → TS
  | [], _ => tNext
  | f :: fs, j => tSeq (tOst K f (tVar 0) (tVar j)) (iniT K fs (j + 1))
section
variable {P : Program} {w : World} {K : PySem.W.Frag} {mg : Str → Option Value} {base : Heap}
theorem ini_ps {X : Cx} {N : List Str} (hN : X.N = N) : ∀ {ns : List Str} {j : Nat} {st : List Stmt}, chkIni N X.env.scope ns j st = true → PSs X st (iniT X.K ns j)
  | [], j, st, h => by
    cases st with
    | nil => exact pss_nil
    | cons _ _ => unfold chkIni at h; cases h
  | f :: fs, j, st, h => by
    unfold chkIni at h
    split at h
    all_goals first | contradiction | (cases h; done) | skip
    rename_i hh
    cases hh
    obtain ⟨h1, h⟩ := and2 h
    obtain ⟨h2, h⟩ := and2 h
    obtain ⟨h3, h4⟩ := and2 h
    cases of_decide_eq_true h1
    have pv : ∀ {i : Nat} {x : Str} {p : Pos}, (slotIs N i x && (vis X.env.scope x && (!(x == ("__debug__" : Str)) && !(x == ("__classdict__" : Str))))) = true → PE X (.Name x p) (tVar i) := fun {i x p} h => by
      obtain ⟨k1, h⟩ := and2 h
      obtain ⟨k2, h⟩ := and2 h
      obtain ⟨k3, k4⟩ := and2 h
      have k2' : Vis X.env.scope x := by
        unfold Pf.vis at k2
        rw [Bool.or_eq_true, Bool.or_eq_true] at k2
        exact k2.imp of_decide_eq_true fun h => h.imp of_decide_eq_true of_decide_eq_true
      exact pe_var (by rw [hN]; exact of_decide_eq_true k1) k2' (not1 k3) (not1 k4)
    exact pss_cons (ps_ost (pv h2) (pv h3) rfl) (ini_ps hN h4)
theorem ini_go {C : Addr} (T : OexC K C) {a : Addr} {σ : L2.St} (h0 : σ[0]? = some (some (.ref a))) : ∀ {ns : List Str} {j : Nat} {us : List V} {fs : List (Str × V)} {dx : Addr} {D : Ends} {H : Hp}, (∀ n ∈ ns, PySem.W.findIn K (.ref C) n = some none) → ns.length = us.length → (∀ i v, us[i]? = some v → σ[j + i]? = some (some v)) →
    H a = some (exo a C (some dx)) → H dx = some (exd dx fs) → dx ≠ a → fs.length + ns.length ≤ 900 → (∀ H', H' a = some (exo a C (some dx)) → H' dx = some (exd dx ((ns.zip us).reverse ++ fs)) → (∀ b, b ≠ a → b ≠ dx → H' b = H b) → D.nx σ H') → iniT K ns j D σ H
  | [], j, us, fs, dx, D, H, _, _, _, h1, h2, h3, _, hq => hq H h1 (by simpa using h2) fun _ _ _ => rfl
  | n :: ns, j, [], fs, dx, D, H, _, hl, _, _, _, _, _, _ => by cases hl
  | n :: ns, j, u :: us, fs, dx, D, H, hn, hl, hv, h1, h2, h3, hz, hq => by
    have e0 := hv 0 u rfl
    refine ⟨u, by simpa using e0, .ref a, h0, a, C, rfl, T, hn n List.mem_cons_self, .inr ⟨dx, fs, h1, h2, by omega, ?_⟩⟩
    refine ini_go T h0 (us := us) (fs := (n, u) :: fs) (dx := dx) (D := D) (fun m hm => hn m (List.mem_cons_of_mem _ hm)) (by simpa using hl) (fun i v h => by
      have := hv (i + 1) v h
      rw [← this]
      congr 1
      omega) ?_ upd_same h3 (by simp only [List.length_cons] at hz ⊢; omega) fun H' k1 k2 k3 => ?_
    · rw [upd_ne (Ne.symm h3)]; exact h1
    · refine hq H' k1 ?_ fun b b1 b2 => by rw [k3 b b1 b2, upd_ne b2]
      rw [k2, List.zip_cons_cons, List.reverse_cons, List.append_assoc]
      rfl
theorem zip_rev {ns : List Str} {us : List V} (nd : ns.Nodup) (hl : ns.length = us.length) {i : Nat} {n : Str} {v : V} (h1 : ns[i]? = some n) (h2 : us[i]? = some v) : (ns.zip us).reverse.lookup n = some v := by
  have key : ∀ (ns : List Str) (us : List V) (rest : List (Str × V)) (i : Nat), ns.Nodup → ns.length = us.length → ns[i]? = some n → us[i]? = some v → ((ns.zip us).reverse ++ rest).lookup n = some v := by
    intro ns
    induction ns with
    | nil => intro us rest i _ _ h _; cases h
    | cons m ns ih =>
      intro us rest i nd hl h1 h2
      cases us with
      | nil => cases hl
      | cons u us =>
        rw [List.nodup_cons] at nd
        rw [List.zip_cons_cons, List.reverse_cons, List.append_assoc]
        cases i with
        | zero =>
          cases h1
          cases h2
          have no : ∀ (l : List (Str × V)), (∀ p ∈ l, p.1 ≠ n) → ∀ r, (l ++ r).lookup n = r.lookup n := by
            intro l
            induction l with
            | nil => intro _ r; rfl
            | cons p l ih =>
              intro h r
              rw [List.cons_append, List.lookup_cons]
              have : (n == p.1) = false := by
                rw [beq_eq_false_iff_ne]
                exact fun e => h p List.mem_cons_self e.symm
              rw [this]
              exact ih (fun q hq => h q (List.mem_cons_of_mem _ hq)) r
          rw [no _ (fun p hp => by
            intro e
            have := (List.of_mem_zip (List.mem_reverse.mp hp)).1
            rw [e] at this
            exact nd.1 this)]
          show List.lookup n ((n, v) :: rest) = _
          rw [List.lookup_cons]
          simp
        | succ i => exact ih us _ i nd.2 (by simpa using hl) h1 h2
  have := key ns us [] i nd hl h1 h2
  rwa [List.append_nil] at this
theorem ini_fn {qual x : Str} {params : Arguments} {body : List Stmt} {scope : Scope} {dvs : List V} {kws : List (Str × V)} {f : Addr} {fd : FuncData} {N : List Str} {C : Addr} {ns : List Str} (F : FunD K x qual params body scope dvs kws f fd) (S : FnScope N N scope) (T : OexC K C) (nd : ns.Nodup) (hno : ∀ n ∈ ns, PySem.W.findIn K (.ref C) n = some none)
    (hne : ns ≠ []) (hl : N.length = ns.length + 1) (h100 : ns.length ≤ 100) (hc : chkIni N scope ns 1 body = true) : FnOk P w K mg base (L2.CX P w) 1 f fd N (iniSp C ns) := by
  refine F.ok S (fun vs H Q E ⟨a, us, e, l, _⟩ => ?_) fun cdv A outer s0 H vs Q E hr ⟨a, us, ev, l, ea, hq⟩ => ⟨iniT K ns 1, ini_ps rfl hc, ?_⟩
  · rw [e, List.length_cons, l, hl]
  · subst ev
    have hst : L2.start N (V.ref a :: us) = some (.ref a) :: us.map some := by
      unfold L2.start
      rw [List.length_cons, l, hl, Nat.sub_self]
      simp
    rw [hst]
    have hat : ∀ i v, us[i]? = some v → (some (V.ref a) :: us.map some)[1 + i]? = some (some v) := fun i v h => by
      rw [Nat.add_comm, List.getElem?_cons_succ, List.getElem?_map, h]
      rfl
    cases ns with
    | nil => exact absurd rfl hne
    | cons n ns =>
      cases us with
      | nil => cases l
      | cons u us =>
        refine ⟨u, rfl, .ref a, rfl, a, C, rfl, T, hno n List.mem_cons_self, .inl ⟨ea, fun dx hdx hne' => ?_⟩⟩
        refine ini_go (us := us) (fs := [(n, u)]) (dx := dx) T rfl (fun m hm => hno m (List.mem_cons_of_mem _ hm)) (by simpa using l.symm) (fun i v h => ?_) upd_same (by rw [upd_ne hne']; exact upd_same) hne' (by simp only [List.length_cons, List.length_nil] at h100 ⊢; omega) fun H' k1 k2 k3 => ?_
        · have := hat (i + 1) v h
          rw [← this]
          congr 1
          omega
        · refine hq dx H' _ hdx hne' k1 k2 (fun i m v h1 h2 => ?_) fun b b1 b2 => by rw [k3 b b1 b2, upd_ne b1, upd_ne b2]
          have := zip_rev nd (by simpa using l.symm) h1 h2
          rwa [List.zip_cons_cons, List.reverse_cons] at this
theorem lk_some {β : Type} {f : String} : ∀ {fs : List (String × β)}, f ∈ fs.map (·.1) → (fs.lookup f).isSome = true
  | [], h => by cases h
  | q :: fs, h => by
    rw [List.lookup_cons]
    cases hq : (f == q.1) with
    | true => rfl
    | false =>
      rw [List.map_cons] at h
      rcases List.mem_cons.mp h with e | h
      · rw [e] at hq
        simp at hq
      · exact lk_some h
theorem lk_mem {α β : Type} [BEq α] [LawfulBEq α] {a : α} {b : β} : ∀ {l : List (α × β)}, l.lookup a = some b → (a, b) ∈ l
  | [], h => by cases h
  | q :: l, h => by
    rw [List.lookup_cons] at h
    cases hq : (a == q.1) with
    | true =>
      rw [hq] at h
      cases h
      have e := eq_of_beq hq
      subst e
      exact List.mem_cons_self
    | false =>
      rw [hq] at h
      exact List.mem_cons_of_mem _ (lk_mem h)
theorem el_ok {ex : List (String × List Str)} {el : List (String × Nat)} (h : el.all (fun q => match ex.lookup q.1 with | some ns => ns.length == q.2 | none => false) = true) : ∀ q ∈ el, ∃ ns, ex.lookup q.1 = some ns ∧ ns.length = q.2 := fun q hq => by
  have := List.all_eq_true.mp h q hq
  split at this
  · rename_i ns e
    exact ⟨ns, e, eq_of_beq this⟩
  · cases this
/-! ### one def more -/
theorem GOk.cons {fs : List (String × FSp)} {ms : List ((String × String) × FSp)} {fk : List (String × String)} {ex : List (String × List Str)} {em : List ((String × String) × Bool)} {ci : List (String × Int)} {g : Str → Addr} {k : Nat} (h : GOk (mkH fs ms fk ex em ci) g k P w K mg base) {x : String} {F : FSp} {f : Addr} {fd : FuncData} {ps : List Str} (hm : mg (Str.ofString x) = some (.ref f)) (hk : PySem.W.keepIn K (.ref f) = true)
    (hb : Binds K fd ps []) (hf : FnOk P w K mg base (L2.CX P w) (k + 1) f fd ps (spOf K g (mkH fs ms fk ex em ci) F)) (hd : (Str.ofString x == ("__debug__" : Str)) = false) : GOk (mkH ((x, F) :: fs) ms fk ex em ci) g (k + 1) P w K mg base where
  fn := fun y F' hy => by
    have hy' : (((x, F) :: fs) : List (String × FSp)).lookup y = some F' := hy
    rw [List.lookup_cons] at hy'
    cases hxy : (y == x) with
    | true =>
      rw [hxy] at hy'
      have e := eq_of_beq hxy
      subst e
      cases hy'
      exact ⟨f, fd, ps, hm, hk, hb, hf, hd⟩
    | false =>
      rw [hxy] at hy'
      obtain ⟨f', fd', ps', a1, a2, a3, a4, a5⟩ := h.fn y F' hy'
      exact ⟨f', fd', ps', a1, a2, a3, a4.mono (Nat.le_succ k), a5⟩
  fre := h.fre
  exc := fun c ns hc => by
    have F0 := h.exc c ns hc
    refine ⟨F0.gm, F0.kp, F0.db, F0.sub, F0.ty, F0.nd, F0.nul, fun hne => ?_⟩
    obtain ⟨a1, a2, a3, fI, fd', ps', j, b1, b2, b3, b4⟩ := F0.own hne
    exact ⟨a1, a2, a3, fI, fd', ps', j, b1, b2, by omega, b4⟩
  exm := h.exm
  mth := fun c m F' hc => by
    obtain ⟨a1, f', fd', ps', a2, a3, a4⟩ := h.mth c m F' hc
    exact ⟨a1, f', fd', ps', a2, a3, a4.mono (Nat.le_succ k)⟩
  mkc := fun c hs => by
    obtain ⟨a1, a2, a3, a4, a5⟩ := h.mkc c hs
    refine ⟨a1, a2, a3, a4, fun F' hF => ?_⟩
    obtain ⟨f', fd', ps', j, b1, b2, b3, b4⟩ := a5 F' hF
    exact ⟨f', fd', ps', j, by omega, b2, b3, b4⟩
  fok := h.fok
  cint := h.cint
/-- a method more -/
theorem GOk.consM {fs : List (String × FSp)} {ms : List ((String × String) × FSp)} {fk : List (String × String)} {ex : List (String × List Str)} {em : List ((String × String) × Bool)} {ci : List (String × Int)} {g : Str → Addr} {k : Nat} (h : GOk (mkH fs ms fk ex em ci) g k P w K mg base) {c m : String} {F : FSp} {f : Addr} {fd : FuncData} {ps : List Str} (hc : Cls K (g (Str.ofString c))) (hm : Meth K (g (Str.ofString c)) (Str.ofString m) f)
    (hb : Binds K fd ps []) (hf : FnOk P w K mg base (L2.CX P w) (k + 1) f fd ps (spOf K g (mkH fs ms fk ex em ci) F)) (hi : m = "__init__" → mg (Str.ofString c) = some (.ref (g (Str.ofString c))) ∧ PySem.W.makesIn K (g (Str.ofString c)) = true ∧ PySem.W.keepIn K (.ref (g (Str.ofString c))) = true ∧ (Str.ofString c == ("__debug__" : Str)) = false) : GOk (mkH fs (((c, m), F) :: ms) fk ex em ci) g (k + 2) P w K mg base where
  fn := fun y F' hy => by
    obtain ⟨f', fd', ps', a1, a2, a3, a4, a5⟩ := h.fn y F' hy
    exact ⟨f', fd', ps', a1, a2, a3, a4.mono (by omega), a5⟩
  fre := h.fre
  exc := fun c ns hc => by
    have F0 := h.exc c ns hc
    refine ⟨F0.gm, F0.kp, F0.db, F0.sub, F0.ty, F0.nd, F0.nul, fun hne => ?_⟩
    obtain ⟨a1, a2, a3, fI, fd', ps', j, b1, b2, b3, b4⟩ := F0.own hne
    exact ⟨a1, a2, a3, fI, fd', ps', j, b1, b2, by omega, b4⟩
  exm := h.exm
  mth := fun c' m' F' hc' => by
    have hy' : ((((c, m), F) :: ms) : List ((String × String) × FSp)).lookup (c', m') = some F' := hc'
    rw [List.lookup_cons] at hy'
    cases hxy : ((c', m') == (c, m)) with
    | true =>
      rw [hxy] at hy'
      have e := eq_of_beq hxy
      cases e
      cases hy'
      exact ⟨hc, f, fd, ps, hm, hb, hf.mono (by omega)⟩
    | false =>
      rw [hxy] at hy'
      obtain ⟨a1, f', fd', ps', a2, a3, a4⟩ := h.mth c' m' F' hy'
      exact ⟨a1, f', fd', ps', a2, a3, a4.mono (by omega)⟩
  mkc := fun c' hs => by
    have hs' : (((((c, m), F) :: ms) : List ((String × String) × FSp)).lookup (c', "__init__")).isSome = true := hs
    rw [List.lookup_cons] at hs'
    cases hxy : ((c', "__init__") == (c, m)) with
    | true =>
      have e := eq_of_beq hxy
      cases e
      obtain ⟨a1, a2, a3, a4⟩ := hi rfl
      refine ⟨a1, a2, a3, a4, fun F' hF => ?_⟩
      have hF' : (((((c, "__init__"), F) :: ms) : List ((String × String) × FSp)).lookup (c, "__init__")) = some F' := hF
      rw [List.lookup_cons, beq_self_eq_true] at hF'
      cases hF'
      exact ⟨f, fd, ps, k + 1, by omega, hm, hb, hf⟩
    | false =>
      rw [hxy] at hs'
      obtain ⟨a1, a2, a3, a4, a5⟩ := h.mkc c' hs'
      refine ⟨a1, a2, a3, a4, fun F' hF => ?_⟩
      have hF' : (((((c, m), F) :: ms) : List ((String × String) × FSp)).lookup (c', "__init__")) = some F' := hF
      rw [List.lookup_cons, hxy] at hF'
      obtain ⟨f', fd', ps', j, b1, b2, b3, b4⟩ := a5 F' hF'
      exact ⟨f', fd', ps', j, by omega, b2, b3, b4⟩
  fok := h.fok
  cint := h.cint
theorem GOk.addF {fs : List (String × FSp)} {ms : List ((String × String) × FSp)} {fk : List (String × String)} {ex : List (String × List Str)} {em : List ((String × String) × Bool)} {ci : List (String × Int)} {g : Str → Addr} {k : Nat} (h : GOk (mkH fs ms fk ex em ci) g k P w K mg base) {x : String} {qual nm : Str} {params : Arguments} {body : List Stmt} {scope : Scope} {kws : List (Str × V)} {fd : FuncData} {N ps : List Str} {pn : List Nat} {el : List (String × Nat)} {m : Ss} {f : Addr}
    (F : FunD K nm qual params body scope [] kws f fd) (S : FnScope N ps scope)
    (hb : ∀ (kV doc pm : Value) (an : Option Addr) (cdv ct : Value) (us : List Value), us.length = ps.length → bindArgs (PySem.W.fnOf nm qual params body scope .none kV doc pm an cdv ct) ⟨us, []⟩ = pure (ps.zip us))
    (hc : chkTs' N (fs.map (·.1)) el pn m scope body = true) (hel : el.all (fun q => match ex.lookup q.1 with | some ns => ns.length == q.2 | none => false) = true) (hpn : pn.all (fun i => decide (i < ps.length)) = true)
    (hm : mg (Str.ofString x) = some (.ref f)) (hd : (Str.ofString x == ("__debug__" : Str)) = false) : GOk (mkH ((x, semF (mkH fs ms fk ex em ci) N.length ps.length pn m) :: fs) ms fk ex em ci) g (k + 1) P w K mg base := by
  refine h.cons hm F.kp (F.bindsN hb) (fn_ok F S h (fun f hf => ?_) (fun q hq => ?_) hc fun i hi => of_decide_eq_true (List.all_eq_true.mp hpn i hi)) hd
  · show (fs.lookup f).isSome = true
    exact lk_some hf
  · have := List.all_eq_true.mp hel q hq
    show ∃ ns, ex.lookup q.1 = some ns ∧ _
    split at this
    · rename_i ns e
      exact ⟨ns, e, eq_of_beq this⟩
    · cases this
theorem GOk.addM {fs : List (String × FSp)} {ms : List ((String × String) × FSp)} {fk : List (String × String)} {ex : List (String × List Str)} {em : List ((String × String) × Bool)} {ci : List (String × Int)} {g : Str → Addr} {k : Nat} (h : GOk (mkH fs ms fk ex em ci) g k P w K mg base) {cn mn : String} {qual nm : Str} {params : Arguments} {body : List Stmt} {scope : Scope} {kws : List (Str × V)} {fd : FuncData} {N ps : List Str} {pn : List Nat} {el : List (String × Nat)} {m : Ss} {f : Addr}
    (F : FunD K nm qual params body scope [] kws f fd) (S : FnScope N ps scope)
    (hb : ∀ (kV doc pm : Value) (an : Option Addr) (cdv ct : Value) (us : List Value), us.length = ps.length → bindArgs (PySem.W.fnOf nm qual params body scope .none kV doc pm an cdv ct) ⟨us, []⟩ = pure (ps.zip us))
    (hc : chkTs' N (fs.map (·.1)) el pn m scope body = true) (hel : el.all (fun q => match ex.lookup q.1 with | some ns => ns.length == q.2 | none => false) = true) (hpn : pn.all (fun i => decide (i < ps.length)) = true)
    (hcl : Cls K (g (Str.ofString cn))) (hme : Meth K (g (Str.ofString cn)) (Str.ofString mn) f) (hi : mn = "__init__" → mg (Str.ofString cn) = some (.ref (g (Str.ofString cn))) ∧ PySem.W.makesIn K (g (Str.ofString cn)) = true ∧ PySem.W.keepIn K (.ref (g (Str.ofString cn))) = true ∧ (Str.ofString cn == ("__debug__" : Str)) = false) :
    GOk (mkH fs (((cn, mn), semF (mkH fs ms fk ex em ci) N.length ps.length pn m) :: ms) fk ex em ci) g (k + 2) P w K mg base := by
  refine h.consM hcl hme (F.bindsN hb) (fn_ok F S h (fun f hf => ?_) (fun q hq => ?_) hc fun i hi => of_decide_eq_true (List.all_eq_true.mp hpn i hi)) hi
  · show (fs.lookup f).isSome = true
    exact lk_some hf
  · have := List.all_eq_true.mp hel q hq
    show ∃ ns, ex.lookup q.1 = some ns ∧ _
    split at this
    · rename_i ns e
      exact ⟨ns, e, eq_of_beq this⟩
    · cases this
theorem ExF.of {h : Heap} (X : K.In h) (G : h.Ns mainGlobals mg) {c : Str} {ns : List Str} (hb : exB K c ns = true) (hi : ns ≠ [] → ∃ fd ps, FnOk P w K mg base (L2.CX P w) 1 (He.ma K (He.ga K c) "__init__") fd ps (iniSp (He.ga K c) ns) ∧ Binds K fd ps []) : ExF (He.ga K) 2 P w K mg base c ns := by
  unfold exB at hb
  obtain ⟨h1, hb⟩ := and2 hb
  obtain ⟨h2, hb⟩ := and2 hb
  obtain ⟨h3, hb⟩ := and2 hb
  obtain ⟨h4, hb⟩ := and2 hb
  obtain ⟨h5, hb⟩ := and2 hb
  obtain ⟨h6, hb⟩ := and2 hb
  refine ⟨PySem.W.mg_of X G (of_decide_eq_true h2), h1, of_decide_eq_true h3, of_decide_eq_true h4, of_decide_eq_true h5, of_decide_eq_true h6, fun e => ?_, fun e => ?_⟩
  · subst e
    exact hb
  · cases ns with
    | nil => exact absurd rfl e
    | cons n ns =>
      have hb' := hb
      rw [if_neg (by simp)] at hb'
      obtain ⟨k1, hb'⟩ := and2 hb'
      obtain ⟨k2, hb'⟩ := and2 hb'
      obtain ⟨k3, hb'⟩ := and2 hb'
      obtain ⟨k4, k5⟩ := and2 hb'
      obtain ⟨fd, ps, a1, a2⟩ := hi e
      exact ⟨oexB_ok k1, xfB_ok k2, fun m hm => of_decide_eq_true (List.all_eq_true.mp k3 m hm), _, fd, ps, 1, of_decide_eq_true k4, of_decide_eq_true k5, Nat.le_refl _, a1, a2⟩
theorem exB_oex {c : Str} {ns : List Str} (hb : exB K c ns = true) (hne : ns.isEmpty = false) : OexC K (He.ga K c) ∧ ns.Nodup ∧ ∀ n ∈ ns, PySem.W.findIn K (.ref (He.ga K c)) n = some none := by
  unfold exB at hb
  obtain ⟨_, hb⟩ := and2 hb
  obtain ⟨_, hb⟩ := and2 hb
  obtain ⟨_, hb⟩ := and2 hb
  obtain ⟨_, hb⟩ := and2 hb
  obtain ⟨_, hb⟩ := and2 hb
  obtain ⟨h6, hb⟩ := and2 hb
  rw [hne, if_neg Bool.false_ne_true] at hb
  obtain ⟨k1, hb⟩ := and2 hb
  obtain ⟨_, hb⟩ := and2 hb
  obtain ⟨k3, _⟩ := and2 hb
  exact ⟨oexB_ok k1, of_decide_eq_true h6, fun m hm => of_decide_eq_true (List.all_eq_true.mp k3 m hm)⟩
end
end Pf

/-! The law's own promise. -/
namespace Pf
open PySem PySem.Spec PyProof.Rows L2
def noLst (K : PySem.W.Frag) : Bool := K.all fun p => !(p.2.cls == Value.type "list")
section
variable {P : Program} {w : World} {K : PySem.W.Frag} {mg : Str → Option Value} {base : Heap}
theorem quiet {k : Nat} {f : Addr} {fd : FuncData} {ps : List Str} {sp : Sp} (F : FnOk P w K mg base (L2.CX P w) k f fd ps sp) : FnOk P w K mg base CX0 k f fd ps (fun vs H Q _ => sp vs H Q E0) :=
  ⟨fun vs H Q E h => F.len vs H Q E0 h, fun A outer s H args us vs Q E hr e0 hb hv h => codeAny_mono (F.run A outer s H args us vs Q E0 hr e0 hb hv h) fun r s' hq => by
    cases r with
    | ok fl => cases fl <;> exact hq
    | error e =>
      obtain ⟨_, _, _, _, _, _, _, _, _, _, _, _, z⟩ := hq
      exact z.elim⟩
theorem rd_of {H : Hp} {a : Addr} {vs : List V} (hK : noLst K = true) (h : SqL K H a vs) : Rd H a (.lst vs) := by
  rcases h with h | ⟨o, its, n, h1, h2, _⟩
  · exact h
  · have := List.all_eq_true.mp hK (a, o) (lk_mem h1)
    rw [show ((a, o) : Addr × Obj).2.cls = Value.type "list" from h2] at this
    simp at this
theorem law_sp {g : Str → Addr} {G : Gb} {F : FSp} {n : Nat} (hF : ∀ ns : List Int, ns.length ≤ n → F [.lst false (ns.map D.int)] (fun d _ => d = .bl true) fun _ _ _ => False) (hK : noLst K = true) {H : Hp} {a : Addr} {ns : List Int} (hl : ns.length ≤ n) (hS : SqL K H a (ns.map V.int)) :
    spOf K g G F [.ref a] H (fun v _ => v = .bl true) E0 := by
  have rd := rd_of hK hS
  have hne : H a ≠ none := by
    rcases rd with e | ⟨o, e⟩ <;> (rw [e]; intro z; cases z)
  refine ⟨fun b => b = a, AS.no, [.lst false (ns.map D.int)], _, _, ⟨fun b => b = a, AS.no, AS.no, AS.no, .has (O1 := AS.no) (O2 := AS.no) (fun _ z => z) (fun _ z => z.elim) (.lstF rfl rd RepL.ints) .nil, .nil, fun _ z => z, fun _ z => z.elim, Good.refl (fun _ z => z.elim) (fun _ z => z.elim) (fun b z => z ▸ hne), fun p hp => by cases hp⟩, hF ns hl, fun r us v H' hr s => ?_, fun c fs us cls d H' h => h.elim⟩
  subst hr
  obtain ⟨Z, O, r, _⟩ := s.rep rfl
  cases r
  rfl
end
end Pf

/-! Plain rules: loops, comprehensions, answers. -/
namespace Pf
open PySem PySem.Spec PyProof.Rows L2
theorem runs_0 {G : Gb} {en : En} {P : Pt} : runs G .nil en P = P.nx en := by unfold runs; rfl
theorem runs_1 {G : Gb} {s : S} {en : En} {P : Pt} : runs G (.cons s .nil) en P = run G s en P := by rw [runs]
theorem runs_c {G : Gb} {s s2 : S} {ss : Ss} {en : En} {P : Pt} : runs G (.cons s (.cons s2 ss)) en P = run G s en { P with nx := fun e1 => runs G (.cons s2 ss) e1 P } := by
  rw [runs]
  intro h
  cases h
theorem run_whl {G : Gb} {c : E} {b : Ss} {en : En} {P : Pt} : run G (.whl c b) en P = ∃ n, whW (fun e1 K => ev G c e1 (fun d e2 => ∃ t, d = .bl t ∧ K t e2) P.ex) (fun e1 K => runs G b e1 { P with nx := K, ct := K, bk := P.nx }) P.nx n en := by rw [run]
theorem run_forr {G : Gb} {tg : List Nat} {src : Src} {b : Ss} {en : En} {P : Pt} : run G (.forr tg src b) en P = evSrc G src en (fun ds e1 => frW tg (fun e2 K => runs G b e2 { P with nx := K, ct := K, bk := P.nx }) P.nx ds e1) P.ex := by rw [run]
theorem run_asg {G : Gb} {i : Nat} {e : E} {en : En} {P : Pt} : run G (.asg i e) en P = ev G e en (fun d e1 => P.nx (e1.set i (some d))) P.ex := by rw [run]
theorem ev_lc {G : Gb} {tg : List Nat} {src : Src} {cs : Es} {elt : E} {en : En} {Q : D → En → Prop} {X : Xp} : ev G (.lc tg src cs elt) en Q X = evSrc G src en (fun ds e1 => lcW tg tg (fun e2 K => evTs G cs e2 K X) (fun e2 K => ev G elt e2 K (fun _ _ _ => False)) ds (offs e1 tg) [] Q) X := by rw [ev]
theorem src_it {G : Gb} {e : E} {en : En} {Q : List D → En → Prop} {X : Xp} : evSrc G (.it e) en Q X = ev G e en (fun d e1 => ∃ xs, itms d = some xs ∧ Q (frzs xs) e1) X := by rw [evSrc]
theorem ev_vf {G : Gb} {i : Nat} {d : D} {en : En} {Q : D → En → Prop} {X : Xp} (h : (en[i]?).join = some d) (hf : fz d = true) : ev G (.var i) en Q X = Q d en := by
  rw [ev, h]
  exact if_pos hf
theorem ev_vo {G : Gb} {i : Nat} {d : D} {en : En} {Q : D → En → Prop} {X : Xp} (h : (en[i]?).join = some d) (hf : fz d = false) : ev G (.var i) en Q X = Q (frz d) (en.set i (some (frz d))) := by
  rw [ev, h]
  exact if_neg (by rw [hf]; exact Bool.false_ne_true)
theorem callW_some {F : FSp} {en en2 : En} {rs : List R} {ds : List D} {Q : D → En → Prop} {X : Xp} (h : takeA en rs = some (ds, en2)) : callW (some F) rs en Q X = F ds (fun r us => Q r (putA en2 rs us)) (fun c fs us => X c fs (putA en2 rs us)) := by
  unfold callW
  rw [h]
def Ret (F : FSp) (ds : List D) (r : D) (us : List (Option D)) : Prop := ∀ q x, q r us → F ds q x
def Exc (F : FSp) (ds : List D) (c : String) (fs : List D) (us : List (Option D)) : Prop := ∀ q x, x c fs us → F ds q x
theorem fr_inv {tg : List Nat} {body : En → (En → Prop) → Prop} {fin : En → Prop} (I : List D → En → Prop) (step : ∀ d ds en K, I (d :: ds) en → (∀ e, I ds e → K e) → bindW tg d en fun e1 => body e1 K) (hf : ∀ en, I [] en → fin en) : ∀ ds en, I ds en → frW tg body fin ds en
  | [], en, h => hf en h
  | d :: ds, en, h => step d ds en _ h fun e he => fr_inv I step hf ds e he
theorem wh_inv {c : En → (Bool → En → Prop) → Prop} {b : En → (En → Prop) → Prop} {fin : En → Prop} (I : Nat → En → Prop) (step : ∀ n en K, I n en → (∀ e, (∃ m, n = m + 1 ∧ I m e) → K e) → c en fun t e1 => if t = true then b e1 K else fin e1) : ∀ n en, I n en → whW c b fin (n + 1) en
  | 0, en, h => step 0 en _ h fun e ⟨m, hm, _⟩ => by omega
  | n + 1, en, h => step (n + 1) en _ h fun e ⟨m, hm, he⟩ => by
    obtain rfl : n = m := by omega
    exact wh_inv I step n e he
theorem lc_pure {tg : List Nat} {t : En → (Bool → En → Prop) → Prop} {f : En → (D → En → Prop) → Prop} {en : En} {Q : D → En → Prop} (gd : D → Option D) : ∀ {ds acc : List D}, (∀ d ∈ ds, ∀ (Kn : En → Prop) (Ky : D → En → Prop), (gd d = none → Kn en) → (∀ y, gd d = some y → Ky y en) → bindW tg d en fun e1 => t e1 fun b e2 => if b = true then f e2 (fun y e3 => Ky y (offs e3 tg)) else Kn (offs e2 tg)) →
    acc.length + ds.length ≤ 16777216 → Q (.lst true (acc ++ ds.filterMap gd)) en → lcW tg tg t f ds en acc Q
  | [], acc, _, _, hq => by
    rw [List.filterMap_nil, List.append_nil] at hq
    exact hq
  | d :: ds, acc, h, hl, hq => by
    rw [List.length_cons] at hl
    rw [lcW]
    refine h d List.mem_cons_self (fun e => lcW tg tg t f ds e acc Q) (fun y e => acc.length < 16777216 ∧ lcW tg tg t f ds e (acc ++ [y]) Q) (fun hn => ?_) fun y hy => ⟨by omega, ?_⟩
    · refine lc_pure gd (fun d' hd' => h d' (List.mem_cons_of_mem _ hd')) (by omega) ?_
      rw [List.filterMap_cons_none hn] at hq
      exact hq
    · refine lc_pure gd (fun d' hd' => h d' (List.mem_cons_of_mem _ hd')) (by rw [List.length_append, List.length_singleton]; omega) ?_
      rw [List.filterMap_cons_some hy] at hq
      rw [List.append_assoc]
      exact hq
theorem atI_nat {α : Type} {xs : List α} {i : Nat} (h : i < xs.length) : atI xs (i : Int) = some xs[i] := by
  unfold atI ixN
  rw [if_pos (by omega), if_pos (by omega)]
  show xs[((i : Int)).toNat]? = _
  rw [Int.toNat_natCast, List.getElem?_eq_getElem h]
theorem atI_int {xs : List Int} {i : Nat} (h : i < xs.length) : atI (xs.map D.int) (i : Int) = some (.int xs[i]) := by
  rw [atI_nat (by rw [List.length_map]; exact h), List.getElem_map]
theorem atI_last {α : Type} {xs : List α} (h : xs ≠ []) : atI xs (-1) = some (xs.getLast h) := by
  have hl : 0 < xs.length := List.length_pos_iff.mpr h
  unfold atI ixN
  rw [if_neg (by omega), if_pos (by omega)]
  show xs[((-1 + (xs.length : Int))).toNat]? = _
  rw [show ((-1 + (xs.length : Int))).toNat = xs.length - 1 by omega, List.getLast_eq_getElem, List.getElem?_eq_getElem]
/-- a list (owned, or not) or a tuple of ints -/
def sq (k : Option Bool) (xs : List Int) : D := match k with
  | some o => .lst o (xs.map .int)
  | none => .tup (xs.map .int)
def fk : Option Bool → Option Bool
  | some _ => some false
  | none => none
theorem sq_some (o : Bool) (xs : List Int) : sq (some o) xs = .lst o (xs.map .int) := rfl
theorem sq_none (xs : List Int) : sq none xs = .tup (xs.map .int) := rfl
@[simp] theorem frz_sq (k : Option Bool) (xs : List Int) : frz (sq k xs) = sq (fk k) xs := by cases k <;> simp [sq, fk, frz]
@[simp] theorem itms_sq (k : Option Bool) (xs : List Int) : itms (sq k xs) = some (xs.map .int) := by cases k <;> rfl
@[simp] theorem fk_fk (k : Option Bool) : fk (fk k) = fk k := by cases k <;> rfl
@[simp] theorem fz_fk (k : Option Bool) (xs : List Int) : fz (sq (fk k) xs) = true := by cases k <;> simp [sq, fk, fz]
@[simp] theorem fz_sq_true (xs : List Int) : fz (sq (some true) xs) = false := by simp [sq, fz]
@[simp] theorem fz_sq_tup (xs : List Int) : fz (sq none xs) = true := by simp [sq, fz]
@[simp] theorem fz_sq_false (xs : List Int) : fz (sq (some false) xs) = true := by simp [sq, fz]
theorem k_cases (k : Option Bool) : k = some true ∨ ∃ k', k = fk k' := by
  rcases k with _ | _ | _
  · exact .inr ⟨none, rfl⟩
  · exact .inr ⟨some false, rfl⟩
  · exact .inl rfl
@[simp] theorem fz_tup_ints (xs : List Int) : fz (.tup (xs.map .int)) = true := by simp [fz]
@[simp] theorem fz_lst_ints (xs : List Int) : fz (.lst false (xs.map .int)) = true := by simp [fz]
@[simp] theorem fz_lst_true (xs : List D) : fz (.lst true xs) = false := by simp [fz]
theorem any_deq (xs : List Int) (a : Int) : ((xs.map D.int).any fun y => deq y (.int a)) = xs.contains a := by
  induction xs with
  | nil => rfl
  | cons x xs ih =>
    rw [List.map_cons, List.any_cons, ih, List.contains_cons, deq]
    congr 1
    exact Bool.beq_comm
@[simp] theorem any_deq2 (xs : List Int) (a : Int) : (xs.any ((fun y => deq y (D.int a)) ∘ D.int)) = decide (a ∈ xs) := by
  have h := any_deq xs a
  rw [List.any_map] at h
  rw [h, List.contains_eq_mem]
theorem filterMap_ints {α : Type} (xs : List Int) (f : Int → α) (g : D → Option α) (h : ∀ x, g (.int x) = some (f x)) : (xs.map D.int).filterMap g = xs.map f := by
  induction xs with
  | nil => rfl
  | cons x xs ih => rw [List.map_cons, List.filterMap_cons_some (h x), ih, List.map_cons]
theorem filterMap_pick (xs : List Int) (p : Int → Bool) (f : Int → Int) (g : D → Option D) (h : ∀ x, g (.int x) = if p x then some (.int (f x)) else none) : (xs.map D.int).filterMap g = ((xs.filter p).map f).map D.int := by
  induction xs with
  | nil => rfl
  | cons x xs ih =>
    cases hp : p x with
    | true => rw [List.map_cons, List.filterMap_cons_some (by rw [h, hp]; rfl), ih, List.filter_cons_of_pos hp, List.map_cons, List.map_cons]
    | false => rw [List.map_cons, List.filterMap_cons_none (by rw [h, hp]; rfl), ih, List.filter_cons_of_neg (by rw [hp]; exact Bool.false_ne_true)]
@[simp] theorem all_flat_ints (xs : List Int) : (xs.map D.int).all Pf.flat = true := by
  rw [List.all_map]
  simp [Pf.flat]
theorem deqs_ints : ∀ (xs ys : List Int), deqs (xs.map D.int) (ys.map D.int) = decide (xs = ys)
  | [], [] => by simp [deqs]
  | [], _ :: _ => by simp [deqs]
  | _ :: _, [] => by simp [deqs]
  | x :: xs, y :: ys => by
    rw [List.map_cons, List.map_cons, deqs, deqs_ints xs ys, deq]
    by_cases h : x = y <;> simp [h]
theorem dats_ints (n : Nat) : ∀ xs : List Int, dats n (xs.map D.int) = true
  | [] => by cases n <;> rfl
  | x :: xs => by
    rw [List.map_cons, dats, dats_ints n xs]
    cases n <;> rfl
theorem sortI_perm (xs : List Int) : (sortI xs).Perm xs := List.mergeSort_perm xs _
theorem sortI_len (xs : List Int) : (sortI xs).length = xs.length := (sortI_perm xs).length_eq
theorem sortI_mem {xs : List Int} {a : Int} : a ∈ sortI xs ↔ a ∈ xs := (sortI_perm xs).mem_iff
theorem sortI_pair (xs : List Int) : (sortI xs).Pairwise (· ≤ ·) := by
  have := List.pairwise_mergeSort (le := fun (a b : Int) => decide (a ≤ b)) (fun a b c x y => decide_eq_true (Int.le_trans (of_decide_eq_true x) (of_decide_eq_true y))) (fun a b => by rw [Bool.or_eq_true, decide_eq_true_eq, decide_eq_true_eq]; exact Int.le_total a b) xs
  exact this.imp fun h => of_decide_eq_true h
theorem sortI_congr {xs ys : List Int} (h : xs.Perm ys) : sortI xs = sortI ys := (sortI_of ((sortI_perm xs).trans h) (sortI_pair xs))
theorem sortI_nodup {xs : List Int} (h : xs.Nodup) : (sortI xs).Nodup := (sortI_perm xs).nodup_iff.mpr h
end Pf

/-! Plain rules that the laws share. -/
namespace Pf
open PySem PySem.Spec PyProof.Rows L2
def whole : D → Bool
  | .int _ => true
  | _ => false
def isRow : D → Bool
  | .lst _ _ => true
  | .tup _ => true
  | _ => false
def badN (low : Int) (d : D) : Prop := isiT d = true ∧ fz d = true ∧ ∀ v, d = .int v → v < low
theorem ev_k {G : Gb} {i : Nat} {k : Option Bool} {xs : List Int} {en : En} {Q : D → En → Prop} {X : Xp} (h : (en[i]?).join = some (sq k xs)) (hq : Q (sq (fk k) xs) (en.set i (some (sq (fk k) xs)))) : ev G (.var i) en Q X := by
  rcases k_cases k with rfl | ⟨k, rfl⟩
  · rw [ev_vo h (by simp)]
    simpa using hq
  · rw [ev_vf h (by simp)]
    have e : en.set i (some (sq (fk k) xs)) = en := by
      refine List.ext_getElem? fun j => ?_
      rw [List.getElem?_set]
      split
      · next e =>
        subst e
        cases hh : en[i]? with
        | none =>
          rw [hh] at h
          cases h
        | some d =>
          rw [hh] at h
          have hi := (List.getElem?_eq_some_iff.mp hh).1
          rw [if_pos hi]
          cases d with
          | none => cases h
          | some d =>
            cases h
            rfl
      · rfl
    rw [fk_fk, e] at hq
    exact hq
def LL (o : Bool) (rows : List (List Int)) : D := .lst o (rows.map fun r => .lst false (r.map .int))
theorem fz_LL (rows : List (List Int)) : fz (LL false rows) = true := by
  unfold LL
  simp [fz]
  induction rows with
  | nil => rfl
  | cons r rows ih => simp [fzs, fz, ih]
def bodyF : S → Ss
  | .forr _ _ b => b
  | _ => .nil
def nthS : Nat → Ss → S
  | _, .nil => .pas
  | 0, .cons s _ => s
  | n + 1, .cons _ ss => nthS n ss
def dropS : Nat → Ss → Ss
  | 0, ss => ss
  | _, .nil => .nil
  | n + 1, .cons _ ss => dropS n ss
theorem rgL_nat (n : Nat) : rgL 0 (n : Int) = (List.range n).map fun i : Nat => D.int (i : Int) := by
  unfold rgL
  rw [show ((n : Int) - 0).toNat = n by omega]
  refine List.map_congr_left fun i _ => ?_
  show D.int (0 + (i : Int)) = _
  rw [Int.zero_add]
theorem frzs_LL (rows : List (List Int)) : frzs (rows.map fun r => D.lst false (r.map .int)) = rows.map fun r => D.lst false (r.map .int) := frzs_of _ (by
  have := fz_LL rows
  unfold LL at this
  simpa [fz] using this)
theorem lc_mp {α : Type} {tg : List Nat} {t : En → (Bool → En → Prop) → Prop} {f : En → (D → En → Prop) → Prop} {en : En} {Q : D → En → Prop} (dm : α → D) (pick : α → Bool) (val : α → D) : ∀ {xs : List α} {acc : List D}, (∀ a ∈ xs, ∀ (Kn : En → Prop) (Ky : D → En → Prop), (pick a = false → Kn en) → (pick a = true → Ky (val a) en) → bindW tg (dm a) en fun e1 => t e1 fun b e2 => if b = true then f e2 (fun y e3 => Ky y (offs e3 tg)) else Kn (offs e2 tg)) →
    acc.length + xs.length ≤ 16777216 → Q (.lst true (acc ++ (xs.filter pick).map val)) en → lcW tg tg t f (xs.map dm) en acc Q
  | [], acc, _, _, hq => by
    simpa [lcW] using hq
  | a :: xs, acc, h, hl, hq => by
    rw [List.length_cons] at hl
    rw [List.map_cons, lcW]
    refine h a List.mem_cons_self (fun e => lcW tg tg t f (xs.map dm) e acc Q) (fun y e => acc.length < 16777216 ∧ lcW tg tg t f (xs.map dm) e (acc ++ [y]) Q) (fun hn => ?_) fun hy => ⟨by omega, ?_⟩
    · refine lc_mp dm pick val (fun a' ha' => h a' (List.mem_cons_of_mem _ ha')) (by omega) ?_
      rwa [List.filter_cons_of_neg (by rw [hn]; exact Bool.false_ne_true)] at hq
    · refine lc_mp dm pick val (fun a' ha' => h a' (List.mem_cons_of_mem _ ha')) (by rw [List.length_append, List.length_singleton]; omega) ?_
      rw [List.filter_cons_of_pos hy, List.map_cons] at hq
      rw [List.append_assoc]
      exact hq
theorem lc_all {α : Type} {tg : List Nat} {t : En → (Bool → En → Prop) → Prop} {f : En → (D → En → Prop) → Prop} {en : En} {Q : D → En → Prop} (dm : α → D) (val : α → D) {xs : List α} (h : ∀ a ∈ xs, ∀ (Kn : En → Prop) (Ky : D → En → Prop), Ky (val a) en → bindW tg (dm a) en fun e1 => t e1 fun b e2 => if b = true then f e2 (fun y e3 => Ky y (offs e3 tg)) else Kn (offs e2 tg))
    (hl : xs.length ≤ 16777216) (hq : Q (.lst true (xs.map val)) en) : lcW tg tg t f (xs.map dm) en [] Q := by
  refine lc_mp dm (fun _ => true) val (fun a ha Kn Ky _ hy => h a ha Kn Ky (hy rfl)) (by simpa using hl) ?_
  rw [List.filter_eq_self.mpr (fun _ _ => rfl), List.nil_append]
  exact hq
theorem lc_inv {tg : List Nat} {t : En → (Bool → En → Prop) → Prop} {f : En → (D → En → Prop) → Prop} {Q : D → En → Prop} (I : List D → List D → En → Prop)
    (step : ∀ d ds acc en (Kn : En → Prop) (Ky : D → En → Prop), I (d :: ds) acc en → (∀ e, I ds acc e → Kn e) → (∀ y e, I ds (acc ++ [y]) e → Ky y e) → bindW tg d en fun e1 => t e1 fun b e2 => if b = true then f e2 (fun y e3 => Ky y (offs e3 tg)) else Kn (offs e2 tg))
    (hf : ∀ acc en, I [] acc en → Q (.lst true acc) en) : ∀ ds acc en, acc.length + ds.length ≤ 16777216 → I ds acc en → lcW tg tg t f ds en acc Q
  | [], acc, en, _, h => hf acc en h
  | d :: ds, acc, en, hl, h => by
    rw [List.length_cons] at hl
    rw [lcW]
    exact step d ds acc en (fun e => lcW tg tg t f ds e acc Q) (fun y e => acc.length < 16777216 ∧ lcW tg tg t f ds e (acc ++ [y]) Q) h (fun e he => lc_inv I step hf ds acc e (by omega) he) fun y e he => ⟨by omega, lc_inv I step hf ds (acc ++ [y]) e (by rw [List.length_append, List.length_singleton]; omega) he⟩
def rgI (n : Nat) : List Int := (List.range n).map fun i : Nat => (i : Int)
theorem rgI_len (n : Nat) : (rgI n).length = n := by simp [rgI]
theorem rgI_mem {n : Nat} {x : Int} : x ∈ rgI n ↔ 0 ≤ x ∧ x < n := by
  unfold rgI
  constructor
  · intro h
    obtain ⟨i, hi, rfl⟩ := List.mem_map.mp h
    have := List.mem_range.mp hi
    omega
  · rintro ⟨h1, h2⟩
    exact List.mem_map.mpr ⟨x.toNat, List.mem_range.mpr (by omega), by omega⟩
theorem rgI_nodup (n : Nat) : (rgI n).Nodup := List.Pairwise.map (R := fun a b : Nat => a ≠ b) _ (fun a b hab e => hab (by exact_mod_cast e)) List.nodup_range
theorem rgL_I (n : Nat) : rgL 0 (n : Int) = (rgI n).map D.int := by
  rw [rgL_nat]
  unfold rgI
  rw [List.map_map]
  rfl
def takeI (ds : List Int) (m : Int) : Int := match ds.getLast? with
  | none => 0
  | some a => a % m
theorem takeI_lt (ds : List Int) {m : Int} (hm : 0 < m) : 0 ≤ takeI ds m ∧ takeI ds m < m := by
  unfold takeI
  split
  · exact ⟨Int.le_refl 0, hm⟩
  · exact ⟨Int.emod_nonneg _ (by omega), Int.emod_lt_of_pos _ hm⟩
theorem rg_map (n : Nat) : rgL 0 (n : Int) = ((List.range n).map fun i : Nat => (i : Int)).map D.int := by
  unfold rgL
  rw [show ((n : Int) - 0).toNat = n by omega, List.map_map]
  refine List.map_congr_left fun i _ => ?_
  show D.int (0 + (i : Int)) = D.int (i : Int)
  rw [Int.zero_add]
theorem ixN_nat {n : Nat} {i : Int} (h0 : 0 ≤ i) (h1 : i < n) : ixN n i = some i.toNat := by
  unfold ixN
  rw [if_pos h0, if_pos h1]
theorem ev_fv {G : Gb} {i : Nat} {d : D} {en : En} {Q : D → En → Prop} {X : Xp} (h : (en[i]?).join = some d) (hq : Q (frz d) (en.set i (some (frz d)))) : ev G (.fv i) en Q X := by
  rw [ev, h]
  dsimp only
  split
  · next hz =>
    rw [frz_of _ hz] at hq
    have e : en.set i (some d) = en := by
      refine List.ext_getElem? fun j => ?_
      rw [List.getElem?_set]
      split
      · next e =>
        subst e
        cases hh : en[i]? with
        | none => rw [hh] at h; cases h
        | some d' =>
          rw [hh] at h
          rw [if_pos (List.getElem?_eq_some_iff.mp hh).1]
          cases d' with
          | none => cases h
          | some d' => cases h; rfl
      · rfl
    rwa [e] at hq
  · exact hq
theorem putA_v {en : En} {d : D} {rs : List R} {us : List (Option D)} : putA en (.v d :: rs) us = putA en rs us.tail := by
  cases us with
  | nil => cases rs with
    | nil => simp [putA]
    | cons r rs => cases r <;> simp [putA]
  | cons u us => simp [putA]
theorem ev_call_fv {G : Gb} {f : String} {F : FSp} {i : Nat} {d : D} {en : En} {Q : D → En → Prop} {X : Xp} (hF : G.fns f = some F) (h : (en[i]?).join = some d) (hq : F [frz d] (fun r _ => Q r (en.set i (some (frz d)))) fun c fs _ => X c fs (en.set i (some (frz d)))) : ev G (.call f (.cons (.fv i) .nil)) en Q X := by
  rw [ev, evr]
  unfold asR
  refine ev_fv h ?_
  dsimp only
  rw [evr, hF, callW_some (ds := [frz d]) (en2 := en.set i (some (frz d))) rfl]
  have e : ∀ us : List (Option D), putA (en.set i (some (frz d))) [R.v (frz d)] us = en.set i (some (frz d)) := fun us => by
    rw [putA_v]
    unfold putA
    rfl
  simp only [e]
  exact hq
theorem run_iff {G : Gb} {c : E} {a b : Ss} {en : En} {P : Pt} : run G (.iff c a b) en P = ev G c en (fun d e1 => ∃ t, d = .bl t ∧ if t = true then runs G a e1 P else runs G b e1 P) P.ex := by rw [run]
theorem run_expr {G : Gb} {e : E} {en : En} {P : Pt} : run G (.expr e) en P = ev G e en (fun _ e1 => P.nx e1) P.ex := by rw [run]
theorem ev_nt {G : Gb} {a : E} {en : En} {Q : D → En → Prop} {X : Xp} : ev G (.nt a) en Q X = ev G a en (fun x e1 => ∃ b, x = .bl b ∧ Q (.bl (!b)) e1) X := by rw [ev]
theorem ev_bop1 {G : Gb} {c : Bool} {a : E} {en : En} {Q : D → En → Prop} {X : Xp} : ev G (.bop c (.cons a .nil)) en Q X = ev G a en Q X := by rw [ev, evB]
theorem ev_bopc {G : Gb} {c : Bool} {a b : E} {es : Es} {en : En} {Q : D → En → Prop} {X : Xp} : ev G (.bop c (.cons a (.cons b es))) en Q X = ev G a en (fun x e1 => ∃ t, x = .bl t ∧ if t = c then ev G (.bop c (.cons b es)) e1 Q X else Q (.bl (!c)) e1) X := by
  rw [ev, evB]
  · simp only [ev]
  · intro h
    cases h
theorem ev_call {G : Gb} {f : String} {es : Es} {en : En} {Q : D → En → Prop} {X : Xp} : ev G (.call f es) en Q X = evr G es en (fun rs e1 => callW (G.fns f) rs e1 Q X) X := by rw [ev]
theorem evr_c {G : Gb} {a : E} {es : Es} {en : En} {Q : List R → En → Prop} {X : Xp} : evr G (.cons a es) en Q X = asR a (ev G a) en (fun d e1 => evr G es e1 (fun ds e2 => Q (d :: ds) e2) X) X := by rw [evr]
theorem evr_0 {G : Gb} {en : En} {Q : List R → En → Prop} {X : Xp} : evr G .nil en Q X = Q [] en := by rw [evr]
theorem ev_bin {G : Gb} {op : Operator} {a b : E} {en : En} {Q : D → En → Prop} {X : Xp} : ev G (.bin op a b) en Q X = asR a (ev G a) en (fun r1 e1 => asR b (ev G b) e1 (fun r2 e2 => match rv e2 r1, rv e2 r2 with
    | some x, some y => bopW op x y fun d => Q d e2
    | _, _ => False) X) X := by rw [ev] <;> rfl
theorem ev_cmp {G : Gb} {op : CmpOp} {a b : E} {en : En} {Q : D → En → Prop} {X : Xp} : ev G (.cmp op a b) en Q X = asR a (ev G a) en (fun r1 e1 => asR b (ev G b) e1 (fun r2 e2 => match rv e2 r1, rv e2 r2 with
    | some x, some y => cmpW op x y fun d => Q d e2
    | _, _ => False) X) X := by rw [ev] <;> rfl
theorem ev_idx {G : Gb} {a b : E} {en : En} {Q : D → En → Prop} {X : Xp} : ev G (.idx a b) en Q X = asR a (ev G a) en (fun r1 e1 => ev G b e1 (fun y e2 => match rv e2 r1 with
    | some x => ixW x y fun d => (isS r1 = true → fz d = true) ∧ Q d e2
    | none => False) X) X := by rw [ev] <;> rfl
theorem ev_slc {G : Gb} {a : E} {lo hi : Ox} {en : En} {Q : D → En → Prop} {X : Xp} : ev G (.slc a lo hi) en Q X = asR a (ev G a) en (fun r1 e1 => evO G lo e1 (fun l e2 => evO G hi e2 (fun h e3 => match rv e3 r1 with
    | some x => slW l h x fun d => Q d e3
    | none => False) X) X) X := by rw [ev] <;> rfl
theorem ev_blt {G : Gb} {f : Bf} {es : Es} {en : En} {Q : D → En → Prop} {X : Xp} : ev G (.blt f es) en Q X = evr G es en (fun rs e1 => match rvs e1 rs with
    | some ds => bltW f ds fun d => Q d e1
    | none => False) X := by rw [ev] <;> rfl
theorem ev_tup {G : Gb} {es : Es} {en : En} {Q : D → En → Prop} {X : Xp} : ev G (.tup es) en Q X = evs G es en (fun ds e1 => Q (.tup ds) e1) X := by rw [ev]
theorem ev_lst {G : Gb} {es : Es} {en : En} {Q : D → En → Prop} {X : Xp} : ev G (.lst es) en Q X = evs G es en (fun ds e1 => Q (.lst true ds) e1) X := by rw [ev]
theorem evs_c {G : Gb} {a : E} {es : Es} {en : En} {Q : List D → En → Prop} {X : Xp} : evs G (.cons a es) en Q X = ev G a en (fun d e1 => evs G es e1 (fun ds e2 => Q (d :: ds) e2) X) X := by rw [evs]
theorem evs_0 {G : Gb} {en : En} {Q : List D → En → Prop} {X : Xp} : evs G .nil en Q X = Q [] en := by rw [evs]
theorem ev_mut {G : Gb} {m : Mm} {i : Nat} {es : Es} {en : En} {Q : D → En → Prop} {X : Xp} : ev G (.mut m i es) en Q X = ((∃ ws, (en[i]?).join = some (.lst true ws)) ∧ evs G es en (fun ds e1 => match (e1[i]?).join with
    | some (.lst true xs) => mutW m xs ds fun ys d => Q d (e1.set i (some (.lst true ys)))
    | _ => False) X) := by rw [ev] <;> rfl
theorem ev_int {G : Gb} {n : Int} {en : En} {Q : D → En → Prop} {X : Xp} : ev G (.int n) en Q X = Q (.int n) en := by rw [ev]
theorem ev_str {G : Gb} {n : String} {en : En} {Q : D → En → Prop} {X : Xp} : ev G (.str n) en Q X = Q (.str (Str.ofString n)) en := by rw [ev]
theorem ev_non {G : Gb} {en : En} {Q : D → En → Prop} {X : Xp} : ev G .non en Q X = Q .non en := by rw [ev]
theorem ev_bl {G : Gb} {b : Bool} {en : En} {Q : D → En → Prop} {X : Xp} : ev G (.bl b) en Q X = Q (.bl b) en := by rw [ev]
theorem asR_vf {i : Nat} {d : D} {f : En → (D → En → Prop) → Xp → Prop} {en : En} {Q : R → En → Prop} {X : Xp} (h : (en[i]?).join = some d) (hf : fz d = true) : asR (.var i) f en Q X = Q (.v d) en := by
  unfold asR
  dsimp only
  rw [h]
  exact if_pos hf
theorem asR_vo {i : Nat} {d : D} {f : En → (D → En → Prop) → Xp → Prop} {en : En} {Q : R → En → Prop} {X : Xp} (h : (en[i]?).join = some d) (hf : fz d = false) : asR (.var i) f en Q X = Q (.s i) en := by
  unfold asR
  dsimp only
  rw [h]
  exact if_neg (by rw [hf]; exact Bool.false_ne_true)
theorem ixW_of {S d : D} {xs : List D} {i : Int} {k : D → Prop} (hI : itms S = some xs) (ha : atI xs i = some d) (hk : k d) : ixW S (.int i) k := by
  unfold ixW
  rw [hI]
  exact ⟨d, ha, hk⟩
def noVar : E → Bool
  | .var _ => false
  | _ => true
theorem asR_n {e : E} (h : noVar e = true) {f : En → (D → En → Prop) → Xp → Prop} {en : En} {Q : R → En → Prop} {X : Xp} : asR e f en Q X = f en (fun d e => Q (.v d) e) X := by
  cases e <;> first | rfl | cases h
theorem run_ret {G : Gb} {e : E} {en : En} {P : Pt} (h : noVar e = true) : run G (.ret e) en P = ev G e en P.rt P.ex := by
  cases e <;> first | (rw [run]; done) | (rw [run]; intro i h; cases h) | cases h
theorem asR_lst {es : Es} {f : En → (D → En → Prop) → Xp → Prop} {en : En} {Q : R → En → Prop} {X : Xp} : asR (.lst es) f en Q X = f en (fun d e => Q (.v d) e) X := rfl
/-- a field of what is told -/
theorem ev_fld {G : Gb} {i : Nat} {f : String} {en : En} {c : Str} {ns : List Str} {fs : List D} {d : D} {Q : D → En → Prop} {X : Xp} (h : (en[i]?).join = some (.ins false c ns fs)) (hf : fzs fs = true) (hg : G.fok c (Str.ofString f) = true) (hd : (ns.zip fs).lookup (Str.ofString f) = some d) (hq : Q d en) : ev G (.fld (.var i) f) en Q X := by
  have hz : fz (.ins false c ns fs) = true := by rw [fz, hf]; rfl
  rw [ev]
  unfold asR
  dsimp only
  rw [h]
  dsimp only
  rw [if_pos hz]
  exact ⟨hg, d, hd, fun h => (by cases h), hq⟩
end Pf

namespace Pf
open PySem PySem.Spec PyProof.Rows L2
abbrev top (i : Nat) : Stmt := PySem.Challenge.pw_landings_k86_sums_means_lots.main.body.getD i (.Pass ⟨0, 0, 0, 0⟩)
def inCls (i j : Nat) : Stmt := match top i with
  | .ClassDef _ _ _ b _ _ _ _ _ _ _ => b.getD j (.Pass ⟨0, 0, 0, 0⟩)
  | s => s
def exL : List (String × List Str) := [("LandingsError", []), ("BadNumber", [Str.ofString "name"]), ("TooMany", [Str.ofString "limit"]), ("BadSet", [Str.ofString "place"]), ("BadWeights", [Str.ofString "place"])]
def emL : List ((String × String) × Bool) := [(("LandingsError", "BadNumber"), false), (("LandingsError", "BadWeights"), false), (("BadNumber", "BadNumber"), true), (("BadNumber", "BadWeights"), false), (("TooMany", "BadNumber"), false), (("TooMany", "BadWeights"), false), (("BadSet", "BadNumber"), false), (("BadSet", "BadWeights"), false), (("BadWeights", "BadNumber"), false), (("BadWeights", "BadWeights"), true)]
def ciL : List (String × Int) := [("SETS_AT_MOST", 2000)]
def elL : List (String × Nat) := [("LandingsError", 0), ("BadNumber", 1), ("TooMany", 1), ("BadSet", 1), ("BadWeights", 1)]
def fkL : List (String × String) := [("Chance", "props"), ("Chance", "sums"), ("Chance", "top"), ("Chance", "weights")]
/-- is_whole -/
def m_is_whole : Ss := (.cons (.ret (.bop true (.cons (.isi (.var 0) ["int"]) (.cons (.nt (.isi (.var 0) ["bool"])) .nil)))) .nil)
def n_is_whole : List Str := [Str.ofString "value"]
/-- check_whole -/
def m_check_whole : Ss := (.cons (.iff (.nt (.call "is_whole" (.cons (.var 0) .nil))) (.cons (.raise "BadNumber" (.cons (.var 1) .nil)) .nil) .nil) (.cons (.iff (.bop true (.cons (.cmp .IsNot (.var 2) .non) (.cons (.cmp .Lt (.var 0) (.var 2)) .nil))) (.cons (.raise "BadNumber" (.cons (.var 1) .nil)) .nil) .nil) (.cons (.ret (.var 0)) .nil)))
def n_check_whole : List Str := [Str.ofString "value", Str.ofString "name", Str.ofString "low"]
/-- is_row -/
def m_is_row : Ss := (.cons (.ret (.isi (.var 0) ["list", "tuple"])) .nil)
def n_is_row : List Str := [Str.ofString "value"]
/-- _numbers_of -/
def m__numbers_of : Ss := (.cons (.iff (.nt (.call "is_row" (.cons (.fv 0) .nil))) (.cons (.raise "BadWeights" (.cons (.neg (.int 1)) .nil)) .nil) .nil) (.cons (.forr [1] (.rng (.cons (.blt .len (.cons (.fv 0) .nil)) .nil)) (.cons (.iff (.nt (.call "is_whole" (.cons (.idx (.fv 0) (.var 1)) .nil))) (.cons (.raise "BadWeights" (.cons (.var 1) .nil)) .nil) .nil) .nil)) (.cons (.ret (.blt .tuple1 (.cons (.fv 0) .nil))) .nil)))
def n__numbers_of : List Str := [Str.ofString "numbers", Str.ofString "at"]
/-- rising_sum -/
def m_rising_sum : Ss := (.cons (.asg 2 (.call "_numbers_of" (.cons (.fv 0) .nil))) (.cons (.expr (.call "check_whole" (.cons (.var 1) (.cons (.str "many") (.cons (.int 0) .nil))))) (.cons (.asg 3 (.bin .Add (.lst (.cons (.int 1) .nil)) (.bin .Mult (.lst (.cons (.int 0) .nil)) (.var 1)))) (.cons (.forr [4] (.it (.var 2)) (.cons (.forr [5] (.rng (.cons (.int 1) (.cons (.bin .Add (.var 1) (.int 1)) .nil))) (.cons (.put 3 (.var 5) (.bin .Add (.idx (.var 3) (.var 5)) (.bin .Mult (.var 4) (.idx (.var 3) (.bin .Sub (.var 5) (.int 1)))))) .nil)) .nil)) (.cons (.ret (.idx (.var 3) (.var 1))) .nil)))))
def n_rising_sum : List Str := [Str.ofString "numbers", Str.ofString "many", Str.ofString "held", Str.ofString "totals", Str.ofString "number", Str.ofString "at"]
/-- thrown_sum -/
def m_thrown_sum : Ss := (.cons (.expr (.call "check_whole" (.cons (.var 1) (.cons (.str "free") (.cons (.int 0) .nil))))) (.cons (.iff (.cmp .GtE (.var 1) (.blt .len (.cons (.fld (.var 0) "weights") .nil))) (.cons (.raise "BadNumber" (.cons (.str "free") .nil)) .nil) .nil) (.cons (.iff (.cmp .Eq (.fld (.var 0) "props") (.int 0)) (.cons (.ret (.int 0)) .nil) .nil) (.cons (.ret (.bin .Mult (.bin .Mult (.idx (.fld (.var 0) "weights") (.var 1)) (.idx (.fld (.var 0) "sums") (.int 0))) (.call "rising_sum" (.cons (.fld (.var 0) "sums") (.cons (.bin .Sub (.fld (.var 0) "props") (.int 1)) .nil))))) .nil))))
def n_thrown_sum : List Str := [Str.ofString "chance", Str.ofString "free"]
/-- lot_ways -/
def m_lot_ways : Ss := (.cons (.expr (.call "check_whole" (.cons (.var 0) (.cons (.str "things") (.cons (.int 0) .nil))))) (.cons (.expr (.call "check_whole" (.cons (.var 1) (.cons (.str "lots") (.cons (.int 0) .nil))))) (.cons (.iff (.cmp .Gt (.var 1) (.var 0)) (.cons (.ret (.int 0)) .nil) .nil) (.cons (.asg 2 (.bin .Add (.lst (.cons (.int 1) .nil)) (.bin .Mult (.lst (.cons (.int 0) .nil)) (.var 1)))) (.cons (.forr [3] (.rng (.cons (.var 0) .nil)) (.cons (.asg 2 (.bin .Add (.lst (.cons (.int 0) .nil)) (.lc [4] (.rng (.cons (.int 1) (.cons (.bin .Add (.var 1) (.int 1)) .nil))) .nil (.bin .Add (.idx (.var 2) (.bin .Sub (.var 4) (.int 1))) (.bin .Mult (.var 4) (.idx (.var 2) (.var 4))))))) .nil)) (.cons (.ret (.idx (.var 2) (.var 1))) .nil))))))
def n_lot_ways : List Str := [Str.ofString "things", Str.ofString "lots", Str.ofString "counts", Str.ofString "done", Str.ofString "at"]
/-- _law_door -/
def m__law_door : Ss := (.cons (.asg 3 .non) (.cons (.tri (.cons (.iff (.cmp .Eq (.var 0) (.int 0)) (.cons (.expr (.call "rising_sum" (.cons (.fv 1) (.cons (.fv 2) .nil)))) .nil) (.cons (.iff (.cmp .Eq (.var 0) (.int 1)) (.cons (.expr (.call "thrown_sum" (.cons (.fv 1) (.cons (.fv 2) .nil)))) .nil) (.cons (.expr (.call "lot_ways" (.cons (.fv 1) (.cons (.fv 2) .nil)))) .nil)) .nil)) .nil) (.cons "BadWeights" (some 4) (.asg 3 (.fld "place")) (.cons "BadNumber" (some 4) (.asg 3 (.fld "name")) .nil))) (.cons (.ret (.var 3)) .nil)))
def n__law_door : List Str := [Str.ofString "door", Str.ofString "one", Str.ofString "other", Str.ofString "told", Str.ofString "problem"]
/-- _law_whole -/
def m__law_whole : Ss := (.cons (.ret (.bop true (.cons (.isi (.var 0) ["int"]) (.cons (.nt (.isi (.var 0) ["bool"])) .nil)))) .nil)
def n__law_whole : List Str := [Str.ofString "value"]
/-- _law_same -/
def m__law_same : Ss := (.cons (.ret (.bop true (.cons (.call "_law_whole" (.cons (.var 0) .nil)) (.cons (.cmp .Eq (.var 0) (.var 1)) .nil)))) .nil)
def n__law_same : List Str := [Str.ofString "value", Str.ofString "due"]
/-- _law_take -/
def m__law_take : Ss := (.cons (.iff (.cmp .Eq (.blt .len (.cons (.var 0) .nil)) (.int 0)) (.cons (.ret (.int 0)) .nil) .nil) (.cons (.ret (.bin .Mod (.blt .int1 (.cons (.mut .pop0 0 .nil) .nil)) (.var 1))) .nil))
def n__law_take : List Str := [Str.ofString "draws", Str.ofString "many"]
/-- _law_refusals -/
def m__law_refusals : Ss := (.cons (.asg 4 (.bin .Add (.blt .list1 (.cons (.fv 3) .nil)) (.lst (.cons (.int 1) .nil)))) (.cons (.asg 5 (.call "_law_take" (.cons (.var 0) (.cons (.blt .len (.cons (.var 4) .nil)) .nil)))) (.cons (.put 4 (.var 5) .non) (.cons (.iff (.bop false (.cons (.cmp .NotEq (.call "_law_door" (.cons (.int 0) (.cons (.int 5) (.cons (.int 1) .nil)))) (.neg (.int 1))) (.cons (.nt (.call "_law_same" (.cons (.call "_law_door" (.cons (.int 0) (.cons (.var 4) (.cons (.neg (.int 1)) .nil)))) (.cons (.var 5) .nil)))) .nil))) (.cons (.ret (.bl false)) .nil) .nil) (.cons (.iff (.bop false (.cons (.cmp .NotEq (.call "_law_door" (.cons (.int 0) (.cons (.blt .list1 (.cons (.fv 3) .nil)) (.cons (.neg (.int 1)) .nil)))) (.str "many")) (.cons (.cmp .NotEq (.call "_law_door" (.cons (.int 0) (.cons (.blt .list1 (.cons (.fv 3) .nil)) (.cons (.bl false) .nil)))) (.str "many")) .nil))) (.cons (.ret (.bl false)) .nil) .nil) (.cons (.iff (.bop false (.cons (.cmp .NotEq (.call "_law_door" (.cons (.int 1) (.cons (.var 1) (.cons (.blt .len (.cons (.fv 2) .nil)) .nil)))) (.str "free")) (.cons (.cmp .NotEq (.call "_law_door" (.cons (.int 1) (.cons (.var 1) (.cons (.neg (.int 1)) .nil)))) (.str "free")) .nil))) (.cons (.ret (.bl false)) .nil) .nil) (.cons (.iff (.bop false (.cons (.cmp .NotEq (.call "_law_door" (.cons (.int 2) (.cons (.neg (.int 1)) (.cons (.neg (.int 1)) .nil)))) (.str "things")) (.cons (.cmp .NotEq (.call "_law_door" (.cons (.int 2) (.cons (.int 3) (.cons (.neg (.int 1)) .nil)))) (.str "lots")) .nil))) (.cons (.ret (.bl false)) .nil) .nil) (.cons (.ret (.cmp .Eq (.call "_law_door" (.cons (.int 2) (.cons (.bl true) (.cons (.int 1) .nil)))) (.str "things"))) .nil))))))))
def n__law_refusals : List Str := [Str.ofString "draws", Str.ofString "chance", Str.ofString "weights", Str.ofString "numbers", Str.ofString "wrong", Str.ofString "at"]
/-- _law_rising -/
def m__law_rising : Ss := (.cons (.asg 2 (.bin .Add (.lst (.cons (.int 1) .nil)) (.lc [3] (.rng (.cons (.var 1) .nil)) .nil (.int 0)))) (.cons (.forr [4] (.it (.fv 0)) (.cons (.asg 5 (.lst (.cons (.int 1) .nil))) (.cons (.forr [6] (.rng (.cons (.int 1) (.cons (.bin .Add (.var 1) (.int 1)) .nil))) (.cons (.expr (.mut .append 5 (.cons (.bin .Add (.idx (.var 2) (.var 6)) (.bin .Mult (.var 4) (.idx (.var 5) (.bin .Sub (.var 6) (.int 1))))) .nil))) .nil)) (.cons (.asg 2 (.blt .list1 (.cons (.var 5) .nil))) .nil)))) (.cons (.ret (.idx (.var 2) (.var 1))) .nil)))
def n__law_rising : List Str := [Str.ofString "numbers", Str.ofString "many", Str.ofString "totals", Str.ofString "turn", Str.ofString "number", Str.ofString "fresh", Str.ofString "at"]
/-- _law_lots -/
def m__law_lots : Ss := (.cons (.asg 2 (.bin .Add (.lst (.cons (.int 1) .nil)) (.lc [3] (.rng (.cons (.var 1) .nil)) .nil (.int 0)))) (.cons (.forr [4] (.rng (.cons (.var 0) .nil)) (.cons (.asg 5 (.lst (.cons (.int 0) .nil))) (.cons (.forr [6] (.rng (.cons (.int 1) (.cons (.bin .Add (.var 1) (.int 1)) .nil))) (.cons (.expr (.mut .append 5 (.cons (.bin .Add (.idx (.var 2) (.bin .Sub (.var 6) (.int 1))) (.bin .Mult (.var 6) (.idx (.var 2) (.var 6)))) .nil))) .nil)) (.cons (.asg 2 (.blt .list1 (.cons (.var 5) .nil))) .nil)))) (.cons (.ret (.idx (.var 2) (.var 1))) .nil)))
def n__law_lots : List Str := [Str.ofString "things", Str.ofString "lots", Str.ofString "counts", Str.ofString "turn", Str.ofString "thing", Str.ofString "fresh", Str.ofString "at"]
/-- empty_sum -/
def m_empty_sum : Ss := (.cons (.ret (.call "rising_sum" (.cons (.slc (.fld (.var 0) "sums") (.so (.int 1)) .no) (.cons (.fld (.var 0) "props") .nil)))) .nil)
def n_empty_sum : List Str := [Str.ofString "chance"]
/-- total_share -/
def m_total_share : Ss := (.cons (.ret (.call "rising_sum" (.cons (.fld (.var 0) "sums") (.cons (.fld (.var 0) "props") .nil)))) .nil)
def n_total_share : List Str := [Str.ofString "chance"]
/-- Chance.__init__ -/
def m_Chance_init : Ss := (.cons (.expr (.call "check_whole" (.cons (.var 1) (.cons (.str "top") (.cons (.int 1) .nil))))) (.cons (.expr (.call "check_whole" (.cons (.var 2) (.cons (.str "props") (.cons (.int 0) .nil))))) (.cons (.iff (.cmp .Gt (.var 2) (.var 1)) (.cons (.raise "BadNumber" (.cons (.str "props") .nil)) .nil) .nil) (.cons (.iff (.bop false (.cons (.nt (.call "is_row" (.cons (.fv 3) .nil))) (.cons (.cmp .NotEq (.blt .len (.cons (.fv 3) .nil)) (.bin .Add (.bin .Sub (.var 1) (.var 2)) (.int 1))) .nil))) (.cons (.raise "BadWeights" (.cons (.neg (.int 1)) .nil)) .nil) .nil) (.cons (.forr [4] (.rng (.cons (.blt .len (.cons (.fv 3) .nil)) .nil)) (.cons (.iff (.nt (.call "is_whole" (.cons (.idx (.fv 3) (.var 4)) .nil))) (.cons (.raise "BadWeights" (.cons (.var 4) .nil)) .nil) .nil) .nil)) (.cons (.setf 0 "top" (.var 1)) (.cons (.setf 0 "props" (.var 2)) (.cons (.setf 0 "weights" (.blt .tuple1 (.cons (.fv 3) .nil))) (.cons (.setf 0 "sums" (.blt .tuple1 (.cons (.lc [4] (.rng (.cons (.blt .len (.cons (.fv 3) .nil)) .nil)) .nil (.blt .sum (.cons (.slc (.fv 3) (.so (.var 4)) .no) .nil))) .nil))) .nil)))))))))
def n_Chance_init : List Str := [Str.ofString "self", Str.ofString "top", Str.ofString "props", Str.ofString "weights", Str.ofString "at"]
/-- _law_choices -/
def m__law_choices : Ss := (.cons (.asg 2 (.lst (.cons (.tup .nil) .nil))) (.cons (.forr [3] (.rng (.cons (.var 1) .nil)) (.cons (.asg 4 (.lst .nil)) (.cons (.forr [5] (.it (.var 2)) (.cons (.asg 6 (.int 0)) (.cons (.iff (.cmp .Gt (.blt .len (.cons (.var 5) .nil)) (.int 0)) (.cons (.asg 6 (.bin .Add (.idx (.var 5) (.neg (.int 1))) (.int 1))) .nil) .nil) (.cons (.forr [7] (.rng (.cons (.var 6) (.cons (.var 0) .nil))) (.cons (.expr (.mut .append 4 (.cons (.bin .Add (.var 5) (.tup (.cons (.var 7) .nil))) .nil))) .nil)) .nil)))) (.cons (.asg 2 (.blt .list1 (.cons (.var 4) .nil))) .nil)))) (.cons (.ret (.var 2)) .nil)))
def n__law_choices : List Str := [Str.ofString "top", Str.ofString "many", Str.ofString "rows", Str.ofString "turn", Str.ofString "longer", Str.ofString "row", Str.ofString "low", Str.ofString "place"]
/-- _set_of -/
def m__set_of : Ss := (.cons (.iff (.bop false (.cons (.nt (.call "is_row" (.cons (.fv 1) .nil))) (.cons (.cmp .NotEq (.blt .len (.cons (.fv 1) .nil)) (.fld (.var 0) "props")) .nil))) (.cons (.raise "BadSet" (.cons (.neg (.int 1)) .nil)) .nil) .nil) (.cons (.forr [2] (.rng (.cons (.blt .len (.cons (.fv 1) .nil)) .nil)) (.cons (.iff (.bop false (.cons (.nt (.call "is_whole" (.cons (.idx (.fv 1) (.var 2)) .nil))) (.cons (.cmp .Lt (.idx (.fv 1) (.var 2)) (.int 0)) (.cons (.cmp .GtE (.idx (.fv 1) (.var 2)) (.fld (.var 0) "top")) .nil)))) (.cons (.raise "BadSet" (.cons (.var 2) .nil)) .nil) .nil) (.cons (.iff (.cmp .In (.idx (.fv 1) (.var 2)) (.slc (.fv 1) .no (.so (.var 2)))) (.cons (.raise "BadSet" (.cons (.var 2) .nil)) .nil) .nil) .nil))) (.cons (.ret (.blt .tuple1 (.cons (.blt .sorted (.cons (.fv 1) .nil)) .nil))) .nil)))
def n__set_of : List Str := [Str.ofString "chance", Str.ofString "one", Str.ofString "at"]
/-- Chance.share -/
def m_Chance_share : Ss := (.cons (.asg 2 (.call "_set_of" (.cons (.var 0) (.cons (.fv 1) .nil)))) (.cons (.asg 3 (.int 1)) (.cons (.forr [4] (.rng (.cons (.blt .len (.cons (.var 2) .nil)) .nil)) (.cons (.asg 3 (.bin .Mult (.var 3) (.idx (.fld (.var 0) "sums") (.bin .Sub (.idx (.var 2) (.var 4)) (.var 4))))) .nil)) (.cons (.ret (.var 3)) .nil))))
def n_Chance_share : List Str := [Str.ofString "self", Str.ofString "one", Str.ofString "held", Str.ofString "result", Str.ofString "at"]
/-- _law_partings -/
def m__law_partings : Ss := (.cons (.asg 1 (.lst (.cons (.lst .nil) .nil))) (.cons (.forr [2] (.rng (.cons (.var 0) .nil)) (.cons (.asg 3 (.lst .nil)) (.cons (.forr [4] (.it (.var 1)) (.cons (.forr [5] (.rng (.cons (.bin .Add (.blt .len (.cons (.var 4) .nil)) (.int 1)) .nil)) (.cons (.iff (.cmp .Eq (.var 5) (.blt .len (.cons (.var 4) .nil))) (.cons (.expr (.mut .append 3 (.cons (.bin .Add (.var 4) (.lst (.cons (.var 2) .nil))) .nil))) .nil) (.cons (.expr (.mut .append 3 (.cons (.bin .Add (.bin .Add (.slc (.var 4) .no (.so (.var 5))) (.lst (.cons (.var 2) .nil))) (.slc (.var 4) (.so (.bin .Add (.var 5) (.int 1))) .no)) .nil))) .nil)) .nil)) .nil)) (.cons (.asg 1 (.blt .list1 (.cons (.fv 3) .nil))) .nil)))) (.cons (.ret (.lc [4] (.it (.var 1)) .nil (.blt .sorted (.cons (.var 4) .nil)))) .nil)))
def n__law_partings : List Str := [Str.ofString "things", Str.ofString "rows", Str.ofString "thing", Str.ofString "longer", Str.ofString "row", Str.ofString "lot"]
/-- _law_lots_told -/
def m__law_lots_told : Ss := (.cons (.asg 1 (.bin .Add (.int 1) (.call "_law_take" (.cons (.var 0) (.cons (.int 5) .nil))))) (.cons (.asg 2 (.call "_law_take" (.cons (.var 0) (.cons (.bin .Add (.var 1) (.int 1)) .nil)))) (.cons (.asg 3 (.new "Chance" (.cons (.var 1) (.cons (.var 2) (.cons (.lc [4] (.rng (.cons (.bin .Add (.bin .Sub (.var 1) (.var 2)) (.int 1)) .nil)) .nil (.int 1)) .nil))))) (.cons (.asg 5 (.call "_law_partings" (.cons (.bin .Add (.var 1) (.int 1)) .nil))) (.cons (.forr [6] (.it (.call "_law_choices" (.cons (.var 1) (.cons (.var 2) .nil)))) (.cons (.asg 7 (.lc [8] (.rng (.cons (.bin .Add (.var 1) (.int 1)) .nil)) (.cons (.cmp .NotIn (.var 8) (.var 6)) .nil) (.var 8))) (.cons (.asg 9 (.blt .len (.cons (.lc [10] (.it (.fv 5)) (.cons (.cmp .Eq (.var 10) (.fv 7)) .nil) (.var 10)) .nil))) (.cons (.iff (.nt (.call "_law_same" (.cons (.meth "Chance" "share" (.fv 3) (.cons (.var 6) .nil)) (.cons (.var 9) .nil)))) (.cons (.ret (.bl false)) .nil) .nil) .nil)))) (.cons (.asg 11 (.bin .Add (.int 1) (.call "_law_take" (.cons (.var 0) (.cons (.int 60) .nil))))) (.cons (.asg 2 (.call "_law_take" (.cons (.var 0) (.cons (.bin .Add (.var 11) (.int 1)) .nil)))) (.cons (.asg 3 (.new "Chance" (.cons (.var 11) (.cons (.var 2) (.cons (.lc [4] (.rng (.cons (.bin .Add (.bin .Sub (.var 11) (.var 2)) (.int 1)) .nil)) .nil (.int 1)) .nil))))) (.cons (.asg 9 (.call "_law_lots" (.cons (.bin .Add (.var 11) (.int 1)) (.cons (.bin .Add (.bin .Sub (.var 11) (.var 2)) (.int 1)) .nil)))) (.cons (.iff (.bop false (.cons (.nt (.call "_law_same" (.cons (.call "total_share" (.cons (.fv 3) .nil)) (.cons (.var 9) .nil)))) (.cons (.nt (.call "_law_same" (.cons (.call "lot_ways" (.cons (.bin .Add (.var 11) (.int 1)) (.cons (.bin .Add (.bin .Sub (.var 11) (.var 2)) (.int 1)) .nil))) (.cons (.var 9) .nil)))) .nil))) (.cons (.ret (.bl false)) .nil) .nil) (.cons (.asg 12 (.call "_law_take" (.cons (.var 0) (.cons (.int 13) .nil)))) (.cons (.asg 13 (.call "_law_take" (.cons (.var 0) (.cons (.int 15) .nil)))) (.cons (.iff (.cmp .Eq (.call "_law_take" (.cons (.var 0) (.cons (.int 16) .nil))) (.int 15)) (.cons (.asg 12 (.bin .Add (.int 100) (.call "_law_take" (.cons (.var 0) (.cons (.int 100) .nil))))) (.cons (.asg 13 (.bin .Add (.int 1) (.call "_law_take" (.cons (.var 0) (.cons (.int 100) .nil))))) (.cons (.asg 3 (.new "Chance" (.cons (.var 12) (.cons (.blt .max2 (.cons (.int 0) (.cons (.bin .Sub (.var 12) (.var 13)) .nil))) (.cons (.lc [4] (.rng (.cons (.bin .Add (.blt .min2 (.cons (.var 12) (.cons (.var 13) .nil))) (.int 1)) .nil)) .nil (.int 1)) .nil))))) (.cons (.asg 9 (.call "_law_lots" (.cons (.bin .Add (.var 12) (.int 1)) (.cons (.bin .Add (.blt .min2 (.cons (.var 12) (.cons (.var 13) .nil))) (.int 1)) .nil)))) (.cons (.iff (.bop false (.cons (.nt (.call "_law_same" (.cons (.call "total_share" (.cons (.fv 3) .nil)) (.cons (.var 9) .nil)))) (.cons (.nt (.call "_law_same" (.cons (.call "lot_ways" (.cons (.bin .Add (.var 12) (.int 1)) (.cons (.bin .Add (.blt .min2 (.cons (.var 12) (.cons (.var 13) .nil))) (.int 1)) .nil))) (.cons (.var 9) .nil)))) .nil))) (.cons (.ret (.bl false)) .nil) .nil) (.cons (.asg 7 (.call "_law_lots" (.cons (.var 12) (.cons (.blt .min2 (.cons (.var 12) (.cons (.var 13) .nil))) .nil)))) (.cons (.iff (.bop false (.cons (.nt (.call "_law_same" (.cons (.call "empty_sum" (.cons (.fv 3) .nil)) (.cons (.fv 7) .nil)))) (.cons (.nt (.call "_law_same" (.cons (.call "thrown_sum" (.cons (.fv 3) (.cons (.int 0) .nil))) (.cons (.bin .Sub (.var 9) (.fv 7)) .nil)))) .nil))) (.cons (.ret (.bl false)) .nil) .nil) .nil))))))) .nil) (.cons (.ret (.call "_law_same" (.cons (.call "lot_ways" (.cons (.var 12) (.cons (.var 13) .nil))) (.cons (.call "_law_lots" (.cons (.var 12) (.cons (.var 13) .nil))) .nil)))) .nil))))))))))))))
def n__law_lots_told : List Str := [Str.ofString "draws", Str.ofString "top", Str.ofString "props", Str.ofString "chance", Str.ofString "turn", Str.ofString "greatest", Str.ofString "one", Str.ofString "bare", Str.ofString "place", Str.ofString "due", Str.ofString "row", Str.ofString "high", Str.ofString "things", Str.ofString "lots"]
/-- _law_onward -/
def m__law_onward : Ss := (.cons (.asg 3 (.lc [4] (.it (.fv 2)) (.cons (.cmp .Gt (.var 4) (.int 0)) .nil) (.bin .Sub (.var 4) (.int 1)))) (.cons (.iff (.cmp .Eq (.blt .len (.cons (.fv 3) .nil)) (.blt .len (.cons (.fv 2) .nil))) (.cons (.ret (.lst (.cons (.tup (.cons (.blt .tuple1 (.cons (.fv 3) .nil)) (.cons (.blt .sum (.cons (.fv 1) .nil)) .nil))) .nil))) .nil) .nil) (.cons (.asg 5 (.lst .nil)) (.cons (.asg 6 (.int 0)) (.cons (.forr [4] (.rng (.cons (.var 0) .nil)) (.cons (.iff (.cmp .NotIn (.var 4) (.fv 3)) (.cons (.expr (.mut .append 5 (.cons (.tup (.cons (.blt .tuple1 (.cons (.blt .sorted (.cons (.bin .Add (.fv 3) (.lst (.cons (.var 4) .nil))) .nil)) .nil)) (.cons (.idx (.fv 1) (.var 6)) .nil))) .nil))) (.cons (.aug 6 .Add (.int 1)) .nil)) .nil) .nil)) (.cons (.ret (.blt .sortD (.cons (.var 5) .nil))) .nil))))))
def n__law_onward : List Str := [Str.ofString "top", Str.ofString "weights", Str.ofString "one", Str.ofString "kept", Str.ofString "place", Str.ofString "found", Str.ofString "free"]
/-- _law_means -/
def m__law_means : Ss := (.cons (.asg 4 (.blt .len (.cons (.idx (.fv 3) (.int 0)) .nil))) (.cons (.asg 5 (.int 0)) (.cons (.asg 6 (.int 0)) (.cons (.forr [7] (.it (.fv 3)) (.cons (.asg 8 (.meth "Chance" "share" (.var 0) (.cons (.blt .list1 (.cons (.fv 7) .nil)) .nil))) (.cons (.asg 9 (.lc [10] (.it (.fv 7)) (.cons (.cmp .Gt (.var 10) (.int 0)) .nil) (.bin .Sub (.var 10) (.int 1)))) (.cons (.forr [11] (.it (.call "_law_onward" (.cons (.fld (.var 0) "top") (.cons (.fv 1) (.cons (.fv 7) .nil))))) (.cons (.asg 12 (.int 0)) (.cons (.asg 13 (.var 4)) (.cons (.iff (.cmp .In (.int 0) (.fv 7)) (.cons (.asg 12 (.bin .Sub (.bin .Add (.int 1) (.blt .sum (.cons (.idx (.var 11) (.int 0)) .nil))) (.blt .sum (.cons (.fv 9) .nil)))) (.cons (.asg 13 (.blt .len (.cons (.lc [10] (.it (.fv 7)) (.cons (.cmp .Gt (.var 10) (.var 12)) .nil) (.var 10)) .nil))) .nil)) .nil) (.cons (.aug 5 .Add (.bin .Mult (.bin .Mult (.var 8) (.idx (.var 11) (.int 1))) (.var 12))) (.cons (.aug 6 .Add (.bin .Mult (.bin .Mult (.var 8) (.idx (.var 11) (.int 1))) (.var 13))) .nil)))))) .nil)))) (.cons (.iff (.cmp .NotEq (.var 5) (.bin .Mult (.bin .Mult (.var 4) (.idx (.fv 2) (.int 0))) (.call "total_share" (.cons (.var 0) .nil)))) (.cons (.ret (.bl false)) .nil) .nil) (.cons (.asg 14 (.int 0)) (.cons (.iff (.cmp .Gt (.var 4) (.int 0)) (.cons (.asg 14 (.call "rising_sum" (.cons (.blt .list1 (.cons (.fv 2) .nil)) (.cons (.bin .Sub (.var 4) (.int 1)) .nil)))) .nil) .nil) (.cons (.ret (.cmp .Eq (.var 6) (.bin .Mult (.bin .Mult (.blt .sum (.cons (.lc [15] (.rng (.cons (.blt .len (.cons (.fv 1) .nil)) .nil)) .nil (.bin .Mult (.var 15) (.idx (.fv 1) (.var 15)))) .nil)) (.idx (.fv 2) (.int 0))) (.var 14)))) .nil))))))))
def n__law_means : List Str := [Str.ofString "chance", Str.ofString "weights", Str.ofString "tails", Str.ofString "listed", Str.ofString "props", Str.ofString "highs", Str.ofString "behind", Str.ofString "one", Str.ofString "told", Str.ofString "kept", Str.ofString "place", Str.ofString "pair", Str.ofString "height", Str.ofString "later", Str.ofString "fewer", Str.ofString "at"]
/-- _law_sums -/
def m__law_sums : Ss := (.cons (.asg 5 (.blt .len (.cons (.idx (.fv 3) (.int 0)) .nil))) (.cons (.asg 6 (.int 0)) (.cons (.asg 7 (.int 0)) (.cons (.forr [8] (.rng (.cons (.blt .len (.cons (.fv 3) .nil)) .nil)) (.cons (.iff (.cmp .In (.int 0) (.idx (.fv 3) (.var 8))) (.cons (.aug 7 .Add (.idx (.fv 4) (.var 8))) .nil) (.cons (.aug 6 .Add (.idx (.fv 4) (.var 8))) .nil)) .nil)) (.cons (.iff (.bop false (.cons (.nt (.call "_law_same" (.cons (.call "empty_sum" (.cons (.var 0) .nil)) (.cons (.var 6) .nil)))) (.cons (.cmp .NotEq (.var 6) (.call "_law_rising" (.cons (.slc (.fv 2) (.so (.int 1)) .no) (.cons (.var 5) .nil)))) .nil))) (.cons (.ret (.bl false)) .nil) .nil) (.cons (.asg 9 (.int 0)) (.cons (.iff (.cmp .Gt (.var 5) (.int 0)) (.cons (.asg 9 (.call "_law_rising" (.cons (.fv 2) (.cons (.bin .Sub (.var 5) (.int 1)) .nil)))) .nil) .nil) (.cons (.forr [10] (.rng (.cons (.blt .len (.cons (.fv 1) .nil)) .nil)) (.cons (.asg 11 (.call "thrown_sum" (.cons (.var 0) (.cons (.var 10) .nil)))) (.cons (.iff (.bop false (.cons (.nt (.call "_law_same" (.cons (.var 11) (.cons (.bin .Mult (.idx (.fv 1) (.var 10)) (.var 7)) .nil)))) (.cons (.cmp .NotEq (.var 11) (.bin .Mult (.bin .Mult (.idx (.fv 1) (.var 10)) (.idx (.fv 2) (.int 0))) (.var 9))) .nil))) (.cons (.ret (.bl false)) .nil) .nil) .nil))) (.cons (.ret (.bl true)) .nil)))))))))
def n__law_sums : List Str := [Str.ofString "chance", Str.ofString "weights", Str.ofString "tails", Str.ofString "listed", Str.ofString "shares", Str.ofString "props", Str.ofString "bare", Str.ofString "thrown", Str.ofString "at", Str.ofString "fewer", Str.ofString "free", Str.ofString "told"]
/-- _law_share -/
def m__law_share : Ss := (.cons (.asg 2 (.int 1)) (.cons (.forr [3] (.rng (.cons (.blt .len (.cons (.fv 1) .nil)) .nil)) (.cons (.asg 2 (.bin .Mult (.var 2) (.idx (.fv 0) (.bin .Sub (.idx (.fv 1) (.var 3)) (.var 3))))) .nil)) (.cons (.ret (.var 2)) .nil)))
def n__law_share : List Str := [Str.ofString "tails", Str.ofString "one", Str.ofString "total", Str.ofString "at"]
/-- _law_tails -/
def m__law_tails : Ss := (.cons (.ret (.lc [1] (.rng (.cons (.blt .len (.cons (.fv 0) .nil)) .nil)) .nil (.blt .sum (.cons (.slc (.fv 0) (.so (.var 1)) .no) .nil)))) .nil)
def n__law_tails : List Str := [Str.ofString "weights", Str.ofString "at"]
/-- _law_great -/
def m__law_great : Ss := (.cons (.asg 3 (.int 0)) (.cons (.iff (.cmp .Lt (.var 1) (.blt .len (.cons (.var 0) .nil))) (.cons (.asg 3 (.blt .int1 (.cons (.idx (.var 0) (.var 1)) .nil))) .nil) .nil) (.cons (.ret (.bin .Sub (.bin .Mod (.blt .int1 (.cons (.var 3) .nil)) (.bin .Add (.bin .Mult (.int 2) (.var 2)) (.int 1))) (.var 2))) .nil)))
def n__law_great : List Str := [Str.ofString "script", Str.ofString "at", Str.ofString "limit", Str.ofString "cell"]
/-- _law_draws -/
def m__law_draws : Ss := (.cons (.asg 1 (.lst .nil)) (.cons (.forr [2] (.rng (.cons (.blt .min2 (.cons (.blt .len (.cons (.var 0) .nil)) (.cons (.int 63) .nil))) .nil)) (.cons (.asg 3 (.blt .int1 (.cons (.idx (.var 0) (.var 2)) .nil))) (.cons (.asg 4 (.int 0)) (.cons (.iff (.cmp .Lt (.var 3) (.int 0)) (.cons (.asg 3 (.neg (.var 3))) (.cons (.asg 4 (.int 1)) .nil)) .nil) (.cons (.iff (.cmp .GtE (.var 3) (.bin .Pow (.int 10) (.int 18))) (.cons (.forr [5] (.rng (.cons (.int 48) .nil)) (.cons (.iff (.cmp .Gt (.var 3) (.int 0)) (.cons (.expr (.mut .append 1 (.cons (.bin .Mod (.blt .int1 (.cons (.var 3) .nil)) (.int 30)) .nil))) (.cons (.asg 3 (.bin .FloorDiv (.var 3) (.int 30))) .nil)) .nil) .nil)) .nil) (.cons (.asg 6 (.bin .Mod (.blt .int1 (.cons (.bin .Add (.bin .Add (.bin .Add (.bin .Mult (.var 3) (.int 7919)) (.bin .Mult (.var 2) (.int 104729))) (.bin .Mult (.var 4) (.int 31))) (.int 5)) .nil)) (.int 999983))) (.cons (.forr [5] (.rng (.cons (.int 6) .nil)) (.cons (.asg 6 (.bin .Mod (.blt .int1 (.cons (.bin .Add (.bin .Add (.bin .Add (.bin .Mult (.var 6) (.var 6)) (.bin .Mult (.var 5) (.int 613))) (.bin .Mult (.var 2) (.int 17))) (.int 1)) .nil)) (.int 1000003))) (.cons (.expr (.mut .append 1 (.cons (.var 6) .nil))) .nil))) .nil))) .nil))))) (.cons (.expr (.mut .reverse 1 .nil)) (.cons (.ret (.var 1)) .nil))))
def n__law_draws : List Str := [Str.ofString "script", Str.ofString "draws", Str.ofString "at", Str.ofString "cell", Str.ofString "odd", Str.ofString "turn", Str.ofString "number"]
/-- law -/
def m_law : Ss := (.cons (.asg 1 (.call "_law_draws" (.cons (.var 0) .nil))) (.cons (.asg 2 (.bin .Add (.int 1) (.call "_law_take" (.cons (.var 1) (.cons (.int 7) .nil))))) (.cons (.asg 3 (.call "_law_take" (.cons (.var 1) (.cons (.bin .Add (.var 2) (.int 1)) .nil)))) (.cons (.asg 4 (.bin .Add (.bin .Sub (.var 2) (.var 3)) (.int 1))) (.cons (.iff (.cmp .Eq (.call "_law_take" (.cons (.var 1) (.cons (.int 4) .nil))) (.int 3)) (.cons (.asg 5 (.lc [6] (.rng (.cons (.var 4) .nil)) .nil (.call "_law_great" (.cons (.var 0) (.cons (.var 6) (.cons (.bin .Pow (.int 10) (.int 12)) .nil)))))) .nil) (.cons (.asg 5 (.lc [6] (.rng (.cons (.var 4) .nil)) .nil (.bin .Sub (.call "_law_take" (.cons (.var 1) (.cons (.int 9) .nil))) (.int 4)))) .nil)) (.cons (.asg 7 (.new "Chance" (.cons (.var 2) (.cons (.var 3) (.cons (.blt .list1 (.cons (.fv 5) .nil)) .nil))))) (.cons (.asg 8 (.call "_law_tails" (.cons (.fv 5) .nil))) (.cons (.asg 9 (.call "_law_choices" (.cons (.var 2) (.cons (.var 3) .nil)))) (.cons (.asg 10 (.lc [11] (.it (.fv 9)) .nil (.call "_law_share" (.cons (.fv 8) (.cons (.var 11) .nil))))) (.cons (.iff (.nt (.call "_law_sums" (.cons (.fv 7) (.cons (.fv 5) (.cons (.fv 8) (.cons (.fv 9) (.cons (.fv 10) .nil))))))) (.cons (.ret (.bl false)) .nil) .nil) (.cons (.iff (.bop false (.cons (.nt (.call "_law_means" (.cons (.fv 7) (.cons (.fv 5) (.cons (.fv 8) (.cons (.fv 9) .nil)))))) (.cons (.nt (.call "_law_lots_told" (.cons (.var 1) .nil))) .nil))) (.cons (.ret (.bl false)) .nil) .nil) (.cons (.asg 12 (.lc [13] (.rng (.cons (.call "_law_take" (.cons (.var 1) (.cons (.int 41) .nil))) .nil)) .nil (.bin .Sub (.call "_law_take" (.cons (.var 1) (.cons (.int 7) .nil))) (.int 3)))) (.cons (.asg 14 (.call "_law_take" (.cons (.var 1) (.cons (.int 41) .nil)))) (.cons (.asg 15 (.blt .list1 (.cons (.fv 12) .nil))) (.cons (.iff (.bop false (.cons (.nt (.call "_law_same" (.cons (.call "rising_sum" (.cons (.fv 15) (.cons (.var 14) .nil))) (.cons (.call "_law_rising" (.cons (.fv 12) (.cons (.var 14) .nil))) .nil)))) (.cons (.cmp .NotEq (.fv 15) (.fv 12)) .nil))) (.cons (.ret (.bl false)) .nil) .nil) (.cons (.iff (.nt (.call "_law_same" (.cons (.call "rising_sum" (.cons (.tup .nil) (.cons (.var 14) .nil))) (.cons (.call "_law_rising" (.cons (.lst .nil) (.cons (.var 14) .nil))) .nil)))) (.cons (.ret (.bl false)) .nil) .nil) (.cons (.ret (.call "_law_refusals" (.cons (.var 1) (.cons (.fv 7) (.cons (.fv 5) (.cons (.fv 12) .nil)))))) .nil)))))))))))))))))
def n_law : List Str := [Str.ofString "script", Str.ofString "draws", Str.ofString "top", Str.ofString "props", Str.ofString "many", Str.ofString "weights", Str.ofString "at", Str.ofString "chance", Str.ofString "tails", Str.ofString "listed", Str.ofString "shares", Str.ofString "one", Str.ofString "numbers", Str.ofString "turn", Str.ofString "factors", Str.ofString "handed"]
def fs0 : List (String × FSp) := []
def ms0 : List ((String × String) × FSp) := []
def s_is_whole : FSp := semF (mkH fs0 ms0 fkL exL emL ciL) 1 1 [0] m_is_whole
def fs1 : List (String × FSp) := ("is_whole", s_is_whole) :: fs0
def s_check_whole : FSp := semF (mkH fs1 ms0 fkL exL emL ciL) 3 3 [0, 1, 2] m_check_whole
def fs2 : List (String × FSp) := ("check_whole", s_check_whole) :: fs1
def s_is_row : FSp := semF (mkH fs2 ms0 fkL exL emL ciL) 1 1 [0] m_is_row
def fs3 : List (String × FSp) := ("is_row", s_is_row) :: fs2
def s__numbers_of : FSp := semF (mkH fs3 ms0 fkL exL emL ciL) 2 1 [0] m__numbers_of
def fs4 : List (String × FSp) := ("_numbers_of", s__numbers_of) :: fs3
def s_rising_sum : FSp := semF (mkH fs4 ms0 fkL exL emL ciL) 6 2 [0, 1] m_rising_sum
def fs5 : List (String × FSp) := ("rising_sum", s_rising_sum) :: fs4
def s_thrown_sum : FSp := semF (mkH fs5 ms0 fkL exL emL ciL) 2 2 [0, 1] m_thrown_sum
def fs6 : List (String × FSp) := ("thrown_sum", s_thrown_sum) :: fs5
def s_lot_ways : FSp := semF (mkH fs6 ms0 fkL exL emL ciL) 5 2 [0, 1] m_lot_ways
def fs7 : List (String × FSp) := ("lot_ways", s_lot_ways) :: fs6
def s__law_door : FSp := semF (mkH fs7 ms0 fkL exL emL ciL) 5 3 [0, 1, 2] m__law_door
def fs8 : List (String × FSp) := ("_law_door", s__law_door) :: fs7
def s__law_whole : FSp := semF (mkH fs8 ms0 fkL exL emL ciL) 1 1 [0] m__law_whole
def fs9 : List (String × FSp) := ("_law_whole", s__law_whole) :: fs8
def s__law_same : FSp := semF (mkH fs9 ms0 fkL exL emL ciL) 2 2 [0, 1] m__law_same
def fs10 : List (String × FSp) := ("_law_same", s__law_same) :: fs9
def s__law_take : FSp := semF (mkH fs10 ms0 fkL exL emL ciL) 2 2 [0, 1] m__law_take
def fs11 : List (String × FSp) := ("_law_take", s__law_take) :: fs10
def s__law_refusals : FSp := semF (mkH fs11 ms0 fkL exL emL ciL) 6 4 [0, 1, 2, 3] m__law_refusals
def fs12 : List (String × FSp) := ("_law_refusals", s__law_refusals) :: fs11
def s__law_rising : FSp := semF (mkH fs12 ms0 fkL exL emL ciL) 7 2 [0, 1] m__law_rising
def fs13 : List (String × FSp) := ("_law_rising", s__law_rising) :: fs12
def s__law_lots : FSp := semF (mkH fs13 ms0 fkL exL emL ciL) 7 2 [0, 1] m__law_lots
def fs14 : List (String × FSp) := ("_law_lots", s__law_lots) :: fs13
def s_empty_sum : FSp := semF (mkH fs14 ms0 fkL exL emL ciL) 1 1 [0] m_empty_sum
def fs15 : List (String × FSp) := ("empty_sum", s_empty_sum) :: fs14
def s_total_share : FSp := semF (mkH fs15 ms0 fkL exL emL ciL) 1 1 [0] m_total_share
def fs16 : List (String × FSp) := ("total_share", s_total_share) :: fs15
def s_Chance_init : FSp := semF (mkH fs16 ms0 fkL exL emL ciL) 5 4 [0, 1, 2, 3] m_Chance_init
def ms1 : List ((String × String) × FSp) := (("Chance", "__init__"), s_Chance_init) :: ms0
def s__law_choices : FSp := semF (mkH fs16 ms1 fkL exL emL ciL) 8 2 [0, 1] m__law_choices
def fs17 : List (String × FSp) := ("_law_choices", s__law_choices) :: fs16
def s__set_of : FSp := semF (mkH fs17 ms1 fkL exL emL ciL) 3 2 [0, 1] m__set_of
def fs18 : List (String × FSp) := ("_set_of", s__set_of) :: fs17
def s_Chance_share : FSp := semF (mkH fs18 ms1 fkL exL emL ciL) 5 2 [0, 1] m_Chance_share
def ms2 : List ((String × String) × FSp) := (("Chance", "share"), s_Chance_share) :: ms1
def s__law_partings : FSp := semF (mkH fs18 ms2 fkL exL emL ciL) 6 1 [0] m__law_partings
def fs19 : List (String × FSp) := ("_law_partings", s__law_partings) :: fs18
def s__law_lots_told : FSp := semF (mkH fs19 ms2 fkL exL emL ciL) 14 1 [0] m__law_lots_told
def fs20 : List (String × FSp) := ("_law_lots_told", s__law_lots_told) :: fs19
def s__law_onward : FSp := semF (mkH fs20 ms2 fkL exL emL ciL) 7 3 [0, 1, 2] m__law_onward
def fs21 : List (String × FSp) := ("_law_onward", s__law_onward) :: fs20
def s__law_means : FSp := semF (mkH fs21 ms2 fkL exL emL ciL) 16 4 [0, 1, 2, 3] m__law_means
def fs22 : List (String × FSp) := ("_law_means", s__law_means) :: fs21
def s__law_sums : FSp := semF (mkH fs22 ms2 fkL exL emL ciL) 12 5 [0, 1, 2, 3, 4] m__law_sums
def fs23 : List (String × FSp) := ("_law_sums", s__law_sums) :: fs22
def s__law_share : FSp := semF (mkH fs23 ms2 fkL exL emL ciL) 4 2 [0, 1] m__law_share
def fs24 : List (String × FSp) := ("_law_share", s__law_share) :: fs23
def s__law_tails : FSp := semF (mkH fs24 ms2 fkL exL emL ciL) 2 1 [0] m__law_tails
def fs25 : List (String × FSp) := ("_law_tails", s__law_tails) :: fs24
def s__law_great : FSp := semF (mkH fs25 ms2 fkL exL emL ciL) 4 3 [0, 1, 2] m__law_great
def fs26 : List (String × FSp) := ("_law_great", s__law_great) :: fs25
def s__law_draws : FSp := semF (mkH fs26 ms2 fkL exL emL ciL) 7 1 [0] m__law_draws
def fs27 : List (String × FSp) := ("_law_draws", s__law_draws) :: fs26
def s_law : FSp := semF (mkH fs27 ms2 fkL exL emL ciL) 16 1 [0] m_law
def fs28 : List (String × FSp) := ("law", s_law) :: fs27
def dfn (nm : Str × Option Str) (x : Str) (ql : Str) (s : Stmt) : He.DefD := ⟨nm, x, ql, defArgs s, defBody s, defScope s, [], []⟩
def fnL : List He.DefD := [dfn ("is_whole", none) "is_whole" "is_whole" (top 9), dfn ("check_whole", none) "check_whole" "check_whole" (top 11), dfn ("is_row", none) "is_row" "is_row" (top 10), dfn ("_numbers_of", none) "_numbers_of" "_numbers_of" (top 13), dfn ("rising_sum", none) "rising_sum" "rising_sum" (top 14), dfn ("thrown_sum", none) "thrown_sum" "thrown_sum" (top 17), dfn ("lot_ways", none) "lot_ways" "lot_ways" (top 18), dfn ("_law_door", none) "_law_door" "_law_door" (top 40), dfn ("_law_whole", none) "_law_whole" "_law_whole" (top 28), dfn ("_law_same", none) "_law_same" "_law_same" (top 33), dfn ("_law_take", none) "_law_take" "_law_take" (top 26), dfn ("_law_refusals", none) "_law_refusals" "_law_refusals" (top 41), dfn ("_law_rising", none) "_law_rising" "_law_rising" (top 34), dfn ("_law_lots", none) "_law_lots" "_law_lots" (top 35), dfn ("empty_sum", none) "empty_sum" "empty_sum" (top 16), dfn ("total_share", none) "total_share" "total_share" (top 15), dfn ("Chance", some "__init__") "__init__" "Chance.__init__" (inCls 23 0), dfn ("_law_choices", none) "_law_choices" "_law_choices" (top 30), dfn ("_set_of", none) "_set_of" "_set_of" (top 22), dfn ("Chance", some "share") "share" "Chance.share" (inCls 23 4), dfn ("_law_partings", none) "_law_partings" "_law_partings" (top 38), dfn ("_law_lots_told", none) "_law_lots_told" "_law_lots_told" (top 39), dfn ("_law_onward", none) "_law_onward" "_law_onward" (top 32), dfn ("_law_means", none) "_law_means" "_law_means" (top 37), dfn ("_law_sums", none) "_law_sums" "_law_sums" (top 36), dfn ("_law_share", none) "_law_share" "_law_share" (top 31), dfn ("_law_tails", none) "_law_tails" "_law_tails" (top 29), dfn ("_law_great", none) "_law_great" "_law_great" (top 27), dfn ("_law_draws", none) "_law_draws" "_law_draws" (top 25), dfn ("law", none) "law" "law" (top 42), dfn ("BadNumber", some "__init__") "__init__" "BadNumber.__init__" (inCls 4 0), dfn ("TooMany", some "__init__") "__init__" "TooMany.__init__" (inCls 5 0), dfn ("BadSet", some "__init__") "__init__" "BadSet.__init__" (inCls 6 0), dfn ("BadWeights", some "__init__") "__init__" "BadWeights.__init__" (inCls 7 0)]
def faL : List He.Fa := bnames.map (fun x => .free (Str.ofString x)) ++ [.glo "is_whole", .glo "check_whole", .glo "is_row", .glo "_numbers_of", .glo "rising_sum", .glo "thrown_sum", .glo "lot_ways", .glo "_law_door", .glo "_law_whole", .glo "_law_same", .glo "_law_take", .glo "_law_refusals", .glo "_law_rising", .glo "_law_lots", .glo "empty_sum", .glo "total_share", .glo "_law_choices", .glo "_set_of", .glo "_law_partings", .glo "_law_lots_told", .glo "_law_onward", .glo "_law_means", .glo "_law_sums", .glo "_law_share", .glo "_law_tails", .glo "_law_great", .glo "_law_draws", .glo "law", .int "SETS_AT_MOST" 2000, .glo "Chance", .cls "Chance", .mkr "Chance", .meth "Chance" "__init__", .meth "Chance" "share", .noat "Chance" "props", .noat "Chance" "sums", .noat "Chance" "top", .noat "Chance" "weights"] ++ emL.map (fun p => .exm (Str.ofString p.1.1) (Str.ofString p.1.2) p.2)
def exK (K : PySem.W.Frag) : Bool := exL.all (fun p => exB K (Str.ofString p.1) p.2) && noLst K
abbrev RR : PySem.W.OpenRow := PySem.W.OpenLaw.row PySem.Challenge.rw_landings_k86_sums_means_lots
abbrev hk : PySem.W.Hook := He.hookX 4 faL fnL [] [] exK
def ob (s : PySem.W.SharedT) : He.AlX := He.obsX 4 faL fnL [] [] exK (HandSHeadRun.getT s)
theorem ob_eq (s : PySem.W.SharedT) : ob s = hk.obs s.abs := He.obsX_eq (HandSHeadRun.getT_eq s)
end Pf

namespace Pf
open PySem PySem.Spec PyProof.Rows L2
theorem hrun (w : World) : HandSHeadRun.RunEqI RR (PySem.W.view RR.prog [0, 42]) hk ob 20000 ([("_wall" : PySem.Str), ("LandingsError" : PySem.Str), ("BadNumber" : PySem.Str), ("TooMany" : PySem.Str), ("BadSet" : PySem.Str), ("BadWeights" : PySem.Str), ("is_whole" : PySem.Str), ("is_row" : PySem.Str), ("check_whole" : PySem.Str), ("_numbers_of" : PySem.Str), ("rising_sum" : PySem.Str), ("total_share" : PySem.Str), ("empty_sum" : PySem.Str), ("thrown_sum" : PySem.Str), ("lot_ways" : PySem.Str), ("SETS_AT_MOST" : PySem.Str), ("_all_sets" : PySem.Str), ("_set_of" : PySem.Str), ("Chance" : PySem.Str), ("_law_draws" : PySem.Str), ("_law_take" : PySem.Str), ("_law_great" : PySem.Str), ("_law_whole" : PySem.Str), ("_law_tails" : PySem.Str), ("_law_choices" : PySem.Str), ("_law_share" : PySem.Str), ("_law_onward" : PySem.Str), ("_law_same" : PySem.Str), ("_law_rising" : PySem.Str), ("_law_lots" : PySem.Str), ("_law_sums" : PySem.Str), ("_law_means" : PySem.Str), ("_law_partings" : PySem.Str), ("_law_lots_told" : PySem.Str), ("_law_door" : PySem.Str), ("_law_refusals" : PySem.Str)] : List PySem.Str) w := by
  delta HandSHeadRun.RunEqI; kernel_rfl
end Pf

namespace Pf
open PySem PySem.Spec PyProof.Rows L2
section
variable {P : Program} {w : World} {K : PySem.W.Frag} {mg : Str → Option Value} {base h : Heap}
theorem sc_is_whole : FnScope n_is_whole [Str.ofString "value"] (defScope (top 9)) := ⟨rfl, rfl, rfl, by decide +kernel, by decide +kernel, by decide +kernel, by decide +kernel⟩
theorem ck_is_whole : chkTs' n_is_whole (fs0.map (·.1)) elL [0] m_is_whole (defScope (top 9)) (defBody (top 9)) = true := by decide +kernel
theorem sc_check_whole : FnScope n_check_whole [Str.ofString "value", Str.ofString "name", Str.ofString "low"] (defScope (top 11)) := ⟨rfl, rfl, rfl, by decide +kernel, by decide +kernel, by decide +kernel, by decide +kernel⟩
theorem ck_check_whole : chkTs' n_check_whole (fs1.map (·.1)) elL [0, 1, 2] m_check_whole (defScope (top 11)) (defBody (top 11)) = true := by decide +kernel
theorem sc_is_row : FnScope n_is_row [Str.ofString "value"] (defScope (top 10)) := ⟨rfl, rfl, rfl, by decide +kernel, by decide +kernel, by decide +kernel, by decide +kernel⟩
theorem ck_is_row : chkTs' n_is_row (fs2.map (·.1)) elL [0] m_is_row (defScope (top 10)) (defBody (top 10)) = true := by decide +kernel
theorem sc__numbers_of : FnScope n__numbers_of [Str.ofString "numbers"] (defScope (top 13)) := ⟨rfl, rfl, rfl, by decide +kernel, by decide +kernel, by decide +kernel, by decide +kernel⟩
theorem ck__numbers_of : chkTs' n__numbers_of (fs3.map (·.1)) elL [0] m__numbers_of (defScope (top 13)) (defBody (top 13)) = true := by decide +kernel
theorem sc_rising_sum : FnScope n_rising_sum [Str.ofString "numbers", Str.ofString "many"] (defScope (top 14)) := ⟨rfl, rfl, rfl, by decide +kernel, by decide +kernel, by decide +kernel, by decide +kernel⟩
theorem ck_rising_sum : chkTs' n_rising_sum (fs4.map (·.1)) elL [0, 1] m_rising_sum (defScope (top 14)) (defBody (top 14)) = true := by decide +kernel
theorem sc_thrown_sum : FnScope n_thrown_sum [Str.ofString "chance", Str.ofString "free"] (defScope (top 17)) := ⟨rfl, rfl, rfl, by decide +kernel, by decide +kernel, by decide +kernel, by decide +kernel⟩
theorem ck_thrown_sum : chkTs' n_thrown_sum (fs5.map (·.1)) elL [0, 1] m_thrown_sum (defScope (top 17)) (defBody (top 17)) = true := by decide +kernel
theorem sc_lot_ways : FnScope n_lot_ways [Str.ofString "things", Str.ofString "lots"] (defScope (top 18)) := ⟨rfl, rfl, rfl, by decide +kernel, by decide +kernel, by decide +kernel, by decide +kernel⟩
theorem ck_lot_ways : chkTs' n_lot_ways (fs6.map (·.1)) elL [0, 1] m_lot_ways (defScope (top 18)) (defBody (top 18)) = true := by decide +kernel
theorem sc__law_door : FnScope n__law_door [Str.ofString "door", Str.ofString "one", Str.ofString "other"] (defScope (top 40)) := ⟨rfl, rfl, rfl, by decide +kernel, by decide +kernel, by decide +kernel, by decide +kernel⟩
theorem ck__law_door : chkTs' n__law_door (fs7.map (·.1)) elL [0, 1, 2] m__law_door (defScope (top 40)) (defBody (top 40)) = true := by decide +kernel
theorem sc__law_whole : FnScope n__law_whole [Str.ofString "value"] (defScope (top 28)) := ⟨rfl, rfl, rfl, by decide +kernel, by decide +kernel, by decide +kernel, by decide +kernel⟩
theorem ck__law_whole : chkTs' n__law_whole (fs8.map (·.1)) elL [0] m__law_whole (defScope (top 28)) (defBody (top 28)) = true := by decide +kernel
theorem sc__law_same : FnScope n__law_same [Str.ofString "value", Str.ofString "due"] (defScope (top 33)) := ⟨rfl, rfl, rfl, by decide +kernel, by decide +kernel, by decide +kernel, by decide +kernel⟩
theorem ck__law_same : chkTs' n__law_same (fs9.map (·.1)) elL [0, 1] m__law_same (defScope (top 33)) (defBody (top 33)) = true := by decide +kernel
theorem sc__law_take : FnScope n__law_take [Str.ofString "draws", Str.ofString "many"] (defScope (top 26)) := ⟨rfl, rfl, rfl, by decide +kernel, by decide +kernel, by decide +kernel, by decide +kernel⟩
theorem ck__law_take : chkTs' n__law_take (fs10.map (·.1)) elL [0, 1] m__law_take (defScope (top 26)) (defBody (top 26)) = true := by decide +kernel
theorem sc__law_refusals : FnScope n__law_refusals [Str.ofString "draws", Str.ofString "chance", Str.ofString "weights", Str.ofString "numbers"] (defScope (top 41)) := ⟨rfl, rfl, rfl, by decide +kernel, by decide +kernel, by decide +kernel, by decide +kernel⟩
theorem ck__law_refusals : chkTs' n__law_refusals (fs11.map (·.1)) elL [0, 1, 2, 3] m__law_refusals (defScope (top 41)) (defBody (top 41)) = true := by decide +kernel
theorem sc__law_rising : FnScope n__law_rising [Str.ofString "numbers", Str.ofString "many"] (defScope (top 34)) := ⟨rfl, rfl, rfl, by decide +kernel, by decide +kernel, by decide +kernel, by decide +kernel⟩
theorem ck__law_rising : chkTs' n__law_rising (fs12.map (·.1)) elL [0, 1] m__law_rising (defScope (top 34)) (defBody (top 34)) = true := by decide +kernel
theorem sc__law_lots : FnScope n__law_lots [Str.ofString "things", Str.ofString "lots"] (defScope (top 35)) := ⟨rfl, rfl, rfl, by decide +kernel, by decide +kernel, by decide +kernel, by decide +kernel⟩
theorem ck__law_lots : chkTs' n__law_lots (fs13.map (·.1)) elL [0, 1] m__law_lots (defScope (top 35)) (defBody (top 35)) = true := by decide +kernel
theorem sc_empty_sum : FnScope n_empty_sum [Str.ofString "chance"] (defScope (top 16)) := ⟨rfl, rfl, rfl, by decide +kernel, by decide +kernel, by decide +kernel, by decide +kernel⟩
theorem ck_empty_sum : chkTs' n_empty_sum (fs14.map (·.1)) elL [0] m_empty_sum (defScope (top 16)) (defBody (top 16)) = true := by decide +kernel
theorem sc_total_share : FnScope n_total_share [Str.ofString "chance"] (defScope (top 15)) := ⟨rfl, rfl, rfl, by decide +kernel, by decide +kernel, by decide +kernel, by decide +kernel⟩
theorem ck_total_share : chkTs' n_total_share (fs15.map (·.1)) elL [0] m_total_share (defScope (top 15)) (defBody (top 15)) = true := by decide +kernel
theorem sc_Chance_init : FnScope n_Chance_init [Str.ofString "self", Str.ofString "top", Str.ofString "props", Str.ofString "weights"] (defScope (inCls 23 0)) := ⟨rfl, rfl, rfl, by decide +kernel, by decide +kernel, by decide +kernel, by decide +kernel⟩
theorem ck_Chance_init : chkTs' n_Chance_init (fs16.map (·.1)) elL [0, 1, 2, 3] m_Chance_init (defScope (inCls 23 0)) (defBody (inCls 23 0)) = true := by decide +kernel
theorem sc__law_choices : FnScope n__law_choices [Str.ofString "top", Str.ofString "many"] (defScope (top 30)) := ⟨rfl, rfl, rfl, by decide +kernel, by decide +kernel, by decide +kernel, by decide +kernel⟩
theorem ck__law_choices : chkTs' n__law_choices (fs16.map (·.1)) elL [0, 1] m__law_choices (defScope (top 30)) (defBody (top 30)) = true := by decide +kernel
theorem sc__set_of : FnScope n__set_of [Str.ofString "chance", Str.ofString "one"] (defScope (top 22)) := ⟨rfl, rfl, rfl, by decide +kernel, by decide +kernel, by decide +kernel, by decide +kernel⟩
theorem ck__set_of : chkTs' n__set_of (fs17.map (·.1)) elL [0, 1] m__set_of (defScope (top 22)) (defBody (top 22)) = true := by decide +kernel
theorem sc_Chance_share : FnScope n_Chance_share [Str.ofString "self", Str.ofString "one"] (defScope (inCls 23 4)) := ⟨rfl, rfl, rfl, by decide +kernel, by decide +kernel, by decide +kernel, by decide +kernel⟩
theorem ck_Chance_share : chkTs' n_Chance_share (fs18.map (·.1)) elL [0, 1] m_Chance_share (defScope (inCls 23 4)) (defBody (inCls 23 4)) = true := by decide +kernel
theorem sc__law_partings : FnScope n__law_partings [Str.ofString "things"] (defScope (top 38)) := ⟨rfl, rfl, rfl, by decide +kernel, by decide +kernel, by decide +kernel, by decide +kernel⟩
theorem ck__law_partings : chkTs' n__law_partings (fs18.map (·.1)) elL [0] m__law_partings (defScope (top 38)) (defBody (top 38)) = true := by decide +kernel
theorem sc__law_lots_told : FnScope n__law_lots_told [Str.ofString "draws"] (defScope (top 39)) := ⟨rfl, rfl, rfl, by decide +kernel, by decide +kernel, by decide +kernel, by decide +kernel⟩
theorem ck__law_lots_told : chkTs' n__law_lots_told (fs19.map (·.1)) elL [0] m__law_lots_told (defScope (top 39)) (defBody (top 39)) = true := by decide +kernel
theorem sc__law_onward : FnScope n__law_onward [Str.ofString "top", Str.ofString "weights", Str.ofString "one"] (defScope (top 32)) := ⟨rfl, rfl, rfl, by decide +kernel, by decide +kernel, by decide +kernel, by decide +kernel⟩
theorem ck__law_onward : chkTs' n__law_onward (fs20.map (·.1)) elL [0, 1, 2] m__law_onward (defScope (top 32)) (defBody (top 32)) = true := by decide +kernel
theorem sc__law_means : FnScope n__law_means [Str.ofString "chance", Str.ofString "weights", Str.ofString "tails", Str.ofString "listed"] (defScope (top 37)) := ⟨rfl, rfl, rfl, by decide +kernel, by decide +kernel, by decide +kernel, by decide +kernel⟩
theorem ck__law_means : chkTs' n__law_means (fs21.map (·.1)) elL [0, 1, 2, 3] m__law_means (defScope (top 37)) (defBody (top 37)) = true := by decide +kernel
theorem sc__law_sums : FnScope n__law_sums [Str.ofString "chance", Str.ofString "weights", Str.ofString "tails", Str.ofString "listed", Str.ofString "shares"] (defScope (top 36)) := ⟨rfl, rfl, rfl, by decide +kernel, by decide +kernel, by decide +kernel, by decide +kernel⟩
theorem ck__law_sums : chkTs' n__law_sums (fs22.map (·.1)) elL [0, 1, 2, 3, 4] m__law_sums (defScope (top 36)) (defBody (top 36)) = true := by decide +kernel
theorem sc__law_share : FnScope n__law_share [Str.ofString "tails", Str.ofString "one"] (defScope (top 31)) := ⟨rfl, rfl, rfl, by decide +kernel, by decide +kernel, by decide +kernel, by decide +kernel⟩
theorem ck__law_share : chkTs' n__law_share (fs23.map (·.1)) elL [0, 1] m__law_share (defScope (top 31)) (defBody (top 31)) = true := by decide +kernel
theorem sc__law_tails : FnScope n__law_tails [Str.ofString "weights"] (defScope (top 29)) := ⟨rfl, rfl, rfl, by decide +kernel, by decide +kernel, by decide +kernel, by decide +kernel⟩
theorem ck__law_tails : chkTs' n__law_tails (fs24.map (·.1)) elL [0] m__law_tails (defScope (top 29)) (defBody (top 29)) = true := by decide +kernel
theorem sc__law_great : FnScope n__law_great [Str.ofString "script", Str.ofString "at", Str.ofString "limit"] (defScope (top 27)) := ⟨rfl, rfl, rfl, by decide +kernel, by decide +kernel, by decide +kernel, by decide +kernel⟩
theorem ck__law_great : chkTs' n__law_great (fs25.map (·.1)) elL [0, 1, 2] m__law_great (defScope (top 27)) (defBody (top 27)) = true := by decide +kernel
theorem sc__law_draws : FnScope n__law_draws [Str.ofString "script"] (defScope (top 25)) := ⟨rfl, rfl, rfl, by decide +kernel, by decide +kernel, by decide +kernel, by decide +kernel⟩
theorem ck__law_draws : chkTs' n__law_draws (fs26.map (·.1)) elL [0] m__law_draws (defScope (top 25)) (defBody (top 25)) = true := by decide +kernel
theorem sc_law : FnScope n_law [Str.ofString "script"] (defScope (top 42)) := ⟨rfl, rfl, rfl, by decide +kernel, by decide +kernel, by decide +kernel, by decide +kernel⟩
theorem ck_law : chkTs' n_law (fs27.map (·.1)) elL [0] m_law (defScope (top 42)) (defBody (top 42)) = true := by decide +kernel
theorem in_BadNumber (F : He.SaysD faL fnL K) (hx : exK K = true) : ∃ fd ps, FnOk P w K mg base (L2.CX P w) 1 (He.ma K (He.ga K "BadNumber") "__init__") fd ps (iniSp (He.ga K "BadNumber") [Str.ofString "name"]) ∧ Binds K fd ps [] := by
  obtain ⟨fd, D⟩ := F.def_ 30 (d := dfn ("BadNumber", some "__init__") "__init__" "BadNumber.__init__" (inCls 4 0)) rfl
  have hb := List.all_eq_true.mp (and2 hx).1 ("BadNumber", [Str.ofString "name"]) (by decide +kernel)
  obtain ⟨T, nd, hno⟩ := exB_oex hb rfl
  have S : FnScope [Str.ofString "self", Str.ofString "name"] [Str.ofString "self", Str.ofString "name"] (defScope (inCls 4 0)) := ⟨rfl, rfl, rfl, by decide +kernel, by decide +kernel, by decide +kernel, by decide +kernel⟩
  exact ⟨fd, _, ini_fn (N := [Str.ofString "self", Str.ofString "name"]) D S T nd hno (by intro e; cases e) rfl (by decide) (by decide +kernel), FunD.bindsN (ps := [Str.ofString "self", Str.ofString "name"]) D fun _ _ _ _ _ _ us hl => match us, hl with | [_, _], _ => rfl⟩
theorem in_TooMany (F : He.SaysD faL fnL K) (hx : exK K = true) : ∃ fd ps, FnOk P w K mg base (L2.CX P w) 1 (He.ma K (He.ga K "TooMany") "__init__") fd ps (iniSp (He.ga K "TooMany") [Str.ofString "limit"]) ∧ Binds K fd ps [] := by
  obtain ⟨fd, D⟩ := F.def_ 31 (d := dfn ("TooMany", some "__init__") "__init__" "TooMany.__init__" (inCls 5 0)) rfl
  have hb := List.all_eq_true.mp (and2 hx).1 ("TooMany", [Str.ofString "limit"]) (by decide +kernel)
  obtain ⟨T, nd, hno⟩ := exB_oex hb rfl
  have S : FnScope [Str.ofString "self", Str.ofString "limit"] [Str.ofString "self", Str.ofString "limit"] (defScope (inCls 5 0)) := ⟨rfl, rfl, rfl, by decide +kernel, by decide +kernel, by decide +kernel, by decide +kernel⟩
  exact ⟨fd, _, ini_fn (N := [Str.ofString "self", Str.ofString "limit"]) D S T nd hno (by intro e; cases e) rfl (by decide) (by decide +kernel), FunD.bindsN (ps := [Str.ofString "self", Str.ofString "limit"]) D fun _ _ _ _ _ _ us hl => match us, hl with | [_, _], _ => rfl⟩
theorem in_BadSet (F : He.SaysD faL fnL K) (hx : exK K = true) : ∃ fd ps, FnOk P w K mg base (L2.CX P w) 1 (He.ma K (He.ga K "BadSet") "__init__") fd ps (iniSp (He.ga K "BadSet") [Str.ofString "place"]) ∧ Binds K fd ps [] := by
  obtain ⟨fd, D⟩ := F.def_ 32 (d := dfn ("BadSet", some "__init__") "__init__" "BadSet.__init__" (inCls 6 0)) rfl
  have hb := List.all_eq_true.mp (and2 hx).1 ("BadSet", [Str.ofString "place"]) (by decide +kernel)
  obtain ⟨T, nd, hno⟩ := exB_oex hb rfl
  have S : FnScope [Str.ofString "self", Str.ofString "place"] [Str.ofString "self", Str.ofString "place"] (defScope (inCls 6 0)) := ⟨rfl, rfl, rfl, by decide +kernel, by decide +kernel, by decide +kernel, by decide +kernel⟩
  exact ⟨fd, _, ini_fn (N := [Str.ofString "self", Str.ofString "place"]) D S T nd hno (by intro e; cases e) rfl (by decide) (by decide +kernel), FunD.bindsN (ps := [Str.ofString "self", Str.ofString "place"]) D fun _ _ _ _ _ _ us hl => match us, hl with | [_, _], _ => rfl⟩
theorem in_BadWeights (F : He.SaysD faL fnL K) (hx : exK K = true) : ∃ fd ps, FnOk P w K mg base (L2.CX P w) 1 (He.ma K (He.ga K "BadWeights") "__init__") fd ps (iniSp (He.ga K "BadWeights") [Str.ofString "place"]) ∧ Binds K fd ps [] := by
  obtain ⟨fd, D⟩ := F.def_ 33 (d := dfn ("BadWeights", some "__init__") "__init__" "BadWeights.__init__" (inCls 7 0)) rfl
  have hb := List.all_eq_true.mp (and2 hx).1 ("BadWeights", [Str.ofString "place"]) (by decide +kernel)
  obtain ⟨T, nd, hno⟩ := exB_oex hb rfl
  have S : FnScope [Str.ofString "self", Str.ofString "place"] [Str.ofString "self", Str.ofString "place"] (defScope (inCls 7 0)) := ⟨rfl, rfl, rfl, by decide +kernel, by decide +kernel, by decide +kernel, by decide +kernel⟩
  exact ⟨fd, _, ini_fn (N := [Str.ofString "self", Str.ofString "place"]) D S T nd hno (by intro e; cases e) rfl (by decide) (by decide +kernel), FunD.bindsN (ps := [Str.ofString "self", Str.ofString "place"]) D fun _ _ _ _ _ _ us hl => match us, hl with | [_, _], _ => rfl⟩
theorem g_0 (X : K.In h) (G : h.Ns mainGlobals mg) (F : He.SaysD faL fnL K) (hx : exK K = true) : GOk (mkH fs0 ms0 fkL exL emL ciL) (He.ga K) 2 P w K mg base where
  fn := fun x F h => by cases h
  fre := fun x hx => He.free_ok X G (F.facts (List.mem_append_left _ (List.mem_append_left _ (List.mem_map.mpr ⟨x, hx, rfl⟩))))
  mth := fun c m F h => by cases h
  mkc := fun c h => by cases h
  exc := fun c ns hc => by
    have hm := lk_mem hc
    refine ExF.of X G (List.all_eq_true.mp (and2 hx).1 (c, ns) hm) fun hne => ?_
    simp only [exL, List.mem_cons, List.not_mem_nil, or_false, Prod.mk.injEq] at hm
    rcases hm with ⟨rfl, rfl⟩ | ⟨rfl, rfl⟩ | ⟨rfl, rfl⟩ | ⟨rfl, rfl⟩ | ⟨rfl, rfl⟩
    · exact absurd rfl hne
    · exact in_BadNumber F hx
    · exact in_TooMany F hx
    · exact in_BadSet F hx
    · exact in_BadWeights F hx
  exm := fun c c' b hc => by
    have hm := lk_mem hc
    exact He.exm_ok (F.facts (List.mem_append_right _ (List.mem_map.mpr ⟨((c, c'), b), hm, rfl⟩)))
  fok := fun c f hc => by
    obtain ⟨p, hm, hp⟩ := List.any_eq_true.mp (show (fkL.any fun p => c == Str.ofString p.1 && f == Str.ofString p.2) = true from hc)
    obtain ⟨h1, h2⟩ := and2 hp
    have e1 := eq_of_beq h1
    have e2 := eq_of_beq h2
    subst e1 e2
    simp only [fkL, List.mem_cons, List.not_mem_nil, or_false] at hm
    rcases hm with rfl | rfl | rfl | rfl
    · exact ⟨He.cls_ok (F.fact 48 (f := .cls "Chance") rfl), He.noat_ok (F.fact 52 (f := .noat "Chance" "props") rfl)⟩
    · exact ⟨He.cls_ok (F.fact 48 (f := .cls "Chance") rfl), He.noat_ok (F.fact 53 (f := .noat "Chance" "sums") rfl)⟩
    · exact ⟨He.cls_ok (F.fact 48 (f := .cls "Chance") rfl), He.noat_ok (F.fact 54 (f := .noat "Chance" "top") rfl)⟩
    · exact ⟨He.cls_ok (F.fact 48 (f := .cls "Chance") rfl), He.noat_ok (F.fact 55 (f := .noat "Chance" "weights") rfl)⟩
  cint := fun x n hc => by
    have hm := lk_mem hc
    simp only [ciL, List.mem_cons, List.not_mem_nil, or_false, Prod.mk.injEq] at hm
    rcases hm with ⟨rfl, rfl⟩
    · exact ⟨He.int_ok X G (F.fact 46 (f := .int "SETS_AT_MOST" 2000) rfl), by decide⟩
theorem law_fn (X : K.In h) (G : h.Ns mainGlobals mg) (F : He.SaysD faL fnL K) (hx : exK K = true) : ∃ fd, FunD K "law" "law" (defArgs (top 42)) (defBody (top 42)) (defScope (top 42)) [] [] (He.ga K "law") fd ∧ ∀ base : Heap, FnOk P w K mg base (L2.CX P w) 34 (He.ga K "law") fd ["script"] (spOf K (He.ga K) (mkH fs27 ms2 fkL exL emL ciL) s_law) := by
  obtain ⟨fd0, D0⟩ := F.def_ 0 (d := dfn ("is_whole", none) "is_whole" "is_whole" (top 9)) rfl
  obtain ⟨fd1, D1⟩ := F.def_ 1 (d := dfn ("check_whole", none) "check_whole" "check_whole" (top 11)) rfl
  obtain ⟨fd2, D2⟩ := F.def_ 2 (d := dfn ("is_row", none) "is_row" "is_row" (top 10)) rfl
  obtain ⟨fd3, D3⟩ := F.def_ 3 (d := dfn ("_numbers_of", none) "_numbers_of" "_numbers_of" (top 13)) rfl
  obtain ⟨fd4, D4⟩ := F.def_ 4 (d := dfn ("rising_sum", none) "rising_sum" "rising_sum" (top 14)) rfl
  obtain ⟨fd5, D5⟩ := F.def_ 5 (d := dfn ("thrown_sum", none) "thrown_sum" "thrown_sum" (top 17)) rfl
  obtain ⟨fd6, D6⟩ := F.def_ 6 (d := dfn ("lot_ways", none) "lot_ways" "lot_ways" (top 18)) rfl
  obtain ⟨fd7, D7⟩ := F.def_ 7 (d := dfn ("_law_door", none) "_law_door" "_law_door" (top 40)) rfl
  obtain ⟨fd8, D8⟩ := F.def_ 8 (d := dfn ("_law_whole", none) "_law_whole" "_law_whole" (top 28)) rfl
  obtain ⟨fd9, D9⟩ := F.def_ 9 (d := dfn ("_law_same", none) "_law_same" "_law_same" (top 33)) rfl
  obtain ⟨fd10, D10⟩ := F.def_ 10 (d := dfn ("_law_take", none) "_law_take" "_law_take" (top 26)) rfl
  obtain ⟨fd11, D11⟩ := F.def_ 11 (d := dfn ("_law_refusals", none) "_law_refusals" "_law_refusals" (top 41)) rfl
  obtain ⟨fd12, D12⟩ := F.def_ 12 (d := dfn ("_law_rising", none) "_law_rising" "_law_rising" (top 34)) rfl
  obtain ⟨fd13, D13⟩ := F.def_ 13 (d := dfn ("_law_lots", none) "_law_lots" "_law_lots" (top 35)) rfl
  obtain ⟨fd14, D14⟩ := F.def_ 14 (d := dfn ("empty_sum", none) "empty_sum" "empty_sum" (top 16)) rfl
  obtain ⟨fd15, D15⟩ := F.def_ 15 (d := dfn ("total_share", none) "total_share" "total_share" (top 15)) rfl
  obtain ⟨fd16, D16⟩ := F.def_ 16 (d := dfn ("Chance", some "__init__") "__init__" "Chance.__init__" (inCls 23 0)) rfl
  obtain ⟨fd17, D17⟩ := F.def_ 17 (d := dfn ("_law_choices", none) "_law_choices" "_law_choices" (top 30)) rfl
  obtain ⟨fd18, D18⟩ := F.def_ 18 (d := dfn ("_set_of", none) "_set_of" "_set_of" (top 22)) rfl
  obtain ⟨fd19, D19⟩ := F.def_ 19 (d := dfn ("Chance", some "share") "share" "Chance.share" (inCls 23 4)) rfl
  obtain ⟨fd20, D20⟩ := F.def_ 20 (d := dfn ("_law_partings", none) "_law_partings" "_law_partings" (top 38)) rfl
  obtain ⟨fd21, D21⟩ := F.def_ 21 (d := dfn ("_law_lots_told", none) "_law_lots_told" "_law_lots_told" (top 39)) rfl
  obtain ⟨fd22, D22⟩ := F.def_ 22 (d := dfn ("_law_onward", none) "_law_onward" "_law_onward" (top 32)) rfl
  obtain ⟨fd23, D23⟩ := F.def_ 23 (d := dfn ("_law_means", none) "_law_means" "_law_means" (top 37)) rfl
  obtain ⟨fd24, D24⟩ := F.def_ 24 (d := dfn ("_law_sums", none) "_law_sums" "_law_sums" (top 36)) rfl
  obtain ⟨fd25, D25⟩ := F.def_ 25 (d := dfn ("_law_share", none) "_law_share" "_law_share" (top 31)) rfl
  obtain ⟨fd26, D26⟩ := F.def_ 26 (d := dfn ("_law_tails", none) "_law_tails" "_law_tails" (top 29)) rfl
  obtain ⟨fd27, D27⟩ := F.def_ 27 (d := dfn ("_law_great", none) "_law_great" "_law_great" (top 27)) rfl
  obtain ⟨fd28, D28⟩ := F.def_ 28 (d := dfn ("_law_draws", none) "_law_draws" "_law_draws" (top 25)) rfl
  obtain ⟨fd29, D29⟩ := F.def_ 29 (d := dfn ("law", none) "law" "law" (top 42)) rfl
  refine ⟨fd29, D29, fun base => ?_⟩
  have h0 := g_0 (P := P) (w := w) (base := base) X G F hx
  have h1 : GOk (mkH fs1 ms0 fkL exL emL ciL) (He.ga K) 3 P w K mg base := h0.addF D0 sc_is_whole (fun _ _ _ _ _ _ us hl => match us, hl with | [_], _ => rfl) ck_is_whole rfl rfl (He.glo_ok X G (F.fact 18 (f := .glo "is_whole") rfl)) (by decide)
  have h2 : GOk (mkH fs2 ms0 fkL exL emL ciL) (He.ga K) 4 P w K mg base := h1.addF D1 sc_check_whole (fun _ _ _ _ _ _ us hl => match us, hl with | [_, _, _], _ => rfl) ck_check_whole rfl rfl (He.glo_ok X G (F.fact 19 (f := .glo "check_whole") rfl)) (by decide)
  have h3 : GOk (mkH fs3 ms0 fkL exL emL ciL) (He.ga K) 5 P w K mg base := h2.addF D2 sc_is_row (fun _ _ _ _ _ _ us hl => match us, hl with | [_], _ => rfl) ck_is_row rfl rfl (He.glo_ok X G (F.fact 20 (f := .glo "is_row") rfl)) (by decide)
  have h4 : GOk (mkH fs4 ms0 fkL exL emL ciL) (He.ga K) 6 P w K mg base := h3.addF D3 sc__numbers_of (fun _ _ _ _ _ _ us hl => match us, hl with | [_], _ => rfl) ck__numbers_of rfl rfl (He.glo_ok X G (F.fact 21 (f := .glo "_numbers_of") rfl)) (by decide)
  have h5 : GOk (mkH fs5 ms0 fkL exL emL ciL) (He.ga K) 7 P w K mg base := h4.addF D4 sc_rising_sum (fun _ _ _ _ _ _ us hl => match us, hl with | [_, _], _ => rfl) ck_rising_sum rfl rfl (He.glo_ok X G (F.fact 22 (f := .glo "rising_sum") rfl)) (by decide)
  have h6 : GOk (mkH fs6 ms0 fkL exL emL ciL) (He.ga K) 8 P w K mg base := h5.addF D5 sc_thrown_sum (fun _ _ _ _ _ _ us hl => match us, hl with | [_, _], _ => rfl) ck_thrown_sum rfl rfl (He.glo_ok X G (F.fact 23 (f := .glo "thrown_sum") rfl)) (by decide)
  have h7 : GOk (mkH fs7 ms0 fkL exL emL ciL) (He.ga K) 9 P w K mg base := h6.addF D6 sc_lot_ways (fun _ _ _ _ _ _ us hl => match us, hl with | [_, _], _ => rfl) ck_lot_ways rfl rfl (He.glo_ok X G (F.fact 24 (f := .glo "lot_ways") rfl)) (by decide)
  have h8 : GOk (mkH fs8 ms0 fkL exL emL ciL) (He.ga K) 10 P w K mg base := h7.addF D7 sc__law_door (fun _ _ _ _ _ _ us hl => match us, hl with | [_, _, _], _ => rfl) ck__law_door rfl rfl (He.glo_ok X G (F.fact 25 (f := .glo "_law_door") rfl)) (by decide)
  have h9 : GOk (mkH fs9 ms0 fkL exL emL ciL) (He.ga K) 11 P w K mg base := h8.addF D8 sc__law_whole (fun _ _ _ _ _ _ us hl => match us, hl with | [_], _ => rfl) ck__law_whole rfl rfl (He.glo_ok X G (F.fact 26 (f := .glo "_law_whole") rfl)) (by decide)
  have h10 : GOk (mkH fs10 ms0 fkL exL emL ciL) (He.ga K) 12 P w K mg base := h9.addF D9 sc__law_same (fun _ _ _ _ _ _ us hl => match us, hl with | [_, _], _ => rfl) ck__law_same rfl rfl (He.glo_ok X G (F.fact 27 (f := .glo "_law_same") rfl)) (by decide)
  have h11 : GOk (mkH fs11 ms0 fkL exL emL ciL) (He.ga K) 13 P w K mg base := h10.addF D10 sc__law_take (fun _ _ _ _ _ _ us hl => match us, hl with | [_, _], _ => rfl) ck__law_take rfl rfl (He.glo_ok X G (F.fact 28 (f := .glo "_law_take") rfl)) (by decide)
  have h12 : GOk (mkH fs12 ms0 fkL exL emL ciL) (He.ga K) 14 P w K mg base := h11.addF D11 sc__law_refusals (fun _ _ _ _ _ _ us hl => match us, hl with | [_, _, _, _], _ => rfl) ck__law_refusals rfl rfl (He.glo_ok X G (F.fact 29 (f := .glo "_law_refusals") rfl)) (by decide)
  have h13 : GOk (mkH fs13 ms0 fkL exL emL ciL) (He.ga K) 15 P w K mg base := h12.addF D12 sc__law_rising (fun _ _ _ _ _ _ us hl => match us, hl with | [_, _], _ => rfl) ck__law_rising rfl rfl (He.glo_ok X G (F.fact 30 (f := .glo "_law_rising") rfl)) (by decide)
  have h14 : GOk (mkH fs14 ms0 fkL exL emL ciL) (He.ga K) 16 P w K mg base := h13.addF D13 sc__law_lots (fun _ _ _ _ _ _ us hl => match us, hl with | [_, _], _ => rfl) ck__law_lots rfl rfl (He.glo_ok X G (F.fact 31 (f := .glo "_law_lots") rfl)) (by decide)
  have h15 : GOk (mkH fs15 ms0 fkL exL emL ciL) (He.ga K) 17 P w K mg base := h14.addF D14 sc_empty_sum (fun _ _ _ _ _ _ us hl => match us, hl with | [_], _ => rfl) ck_empty_sum rfl rfl (He.glo_ok X G (F.fact 32 (f := .glo "empty_sum") rfl)) (by decide)
  have h16 : GOk (mkH fs16 ms0 fkL exL emL ciL) (He.ga K) 18 P w K mg base := h15.addF D15 sc_total_share (fun _ _ _ _ _ _ us hl => match us, hl with | [_], _ => rfl) ck_total_share rfl rfl (He.glo_ok X G (F.fact 33 (f := .glo "total_share") rfl)) (by decide)
  have h17 : GOk (mkH fs16 ms1 fkL exL emL ciL) (He.ga K) 20 P w K mg base := h16.addM (cn := "Chance") (mn := "__init__") D16 sc_Chance_init (fun _ _ _ _ _ _ us hl => match us, hl with | [_, _, _, _], _ => rfl) ck_Chance_init rfl rfl (He.cls_ok (F.fact 48 (f := .cls "Chance") rfl)) (He.meth_ok (F.fact 50 (f := .meth "Chance" "__init__") rfl)) (fun _ => ⟨He.glo_ok X G (F.fact 47 (f := .glo "Chance") rfl), (He.mkr_ok (F.fact 49 (f := .mkr "Chance") rfl)).makes, (He.mkr_ok (F.fact 49 (f := .mkr "Chance") rfl)).kp, by decide⟩)
  have h18 : GOk (mkH fs17 ms1 fkL exL emL ciL) (He.ga K) 21 P w K mg base := h17.addF D17 sc__law_choices (fun _ _ _ _ _ _ us hl => match us, hl with | [_, _], _ => rfl) ck__law_choices rfl rfl (He.glo_ok X G (F.fact 34 (f := .glo "_law_choices") rfl)) (by decide)
  have h19 : GOk (mkH fs18 ms1 fkL exL emL ciL) (He.ga K) 22 P w K mg base := h18.addF D18 sc__set_of (fun _ _ _ _ _ _ us hl => match us, hl with | [_, _], _ => rfl) ck__set_of rfl rfl (He.glo_ok X G (F.fact 35 (f := .glo "_set_of") rfl)) (by decide)
  have h20 : GOk (mkH fs18 ms2 fkL exL emL ciL) (He.ga K) 24 P w K mg base := h19.addM (cn := "Chance") (mn := "share") D19 sc_Chance_share (fun _ _ _ _ _ _ us hl => match us, hl with | [_, _], _ => rfl) ck_Chance_share rfl rfl (He.cls_ok (F.fact 48 (f := .cls "Chance") rfl)) (He.meth_ok (F.fact 51 (f := .meth "Chance" "share") rfl)) (fun e => absurd e (by decide))
  have h21 : GOk (mkH fs19 ms2 fkL exL emL ciL) (He.ga K) 25 P w K mg base := h20.addF D20 sc__law_partings (fun _ _ _ _ _ _ us hl => match us, hl with | [_], _ => rfl) ck__law_partings rfl rfl (He.glo_ok X G (F.fact 36 (f := .glo "_law_partings") rfl)) (by decide)
  have h22 : GOk (mkH fs20 ms2 fkL exL emL ciL) (He.ga K) 26 P w K mg base := h21.addF D21 sc__law_lots_told (fun _ _ _ _ _ _ us hl => match us, hl with | [_], _ => rfl) ck__law_lots_told rfl rfl (He.glo_ok X G (F.fact 37 (f := .glo "_law_lots_told") rfl)) (by decide)
  have h23 : GOk (mkH fs21 ms2 fkL exL emL ciL) (He.ga K) 27 P w K mg base := h22.addF D22 sc__law_onward (fun _ _ _ _ _ _ us hl => match us, hl with | [_, _, _], _ => rfl) ck__law_onward rfl rfl (He.glo_ok X G (F.fact 38 (f := .glo "_law_onward") rfl)) (by decide)
  have h24 : GOk (mkH fs22 ms2 fkL exL emL ciL) (He.ga K) 28 P w K mg base := h23.addF D23 sc__law_means (fun _ _ _ _ _ _ us hl => match us, hl with | [_, _, _, _], _ => rfl) ck__law_means rfl rfl (He.glo_ok X G (F.fact 39 (f := .glo "_law_means") rfl)) (by decide)
  have h25 : GOk (mkH fs23 ms2 fkL exL emL ciL) (He.ga K) 29 P w K mg base := h24.addF D24 sc__law_sums (fun _ _ _ _ _ _ us hl => match us, hl with | [_, _, _, _, _], _ => rfl) ck__law_sums rfl rfl (He.glo_ok X G (F.fact 40 (f := .glo "_law_sums") rfl)) (by decide)
  have h26 : GOk (mkH fs24 ms2 fkL exL emL ciL) (He.ga K) 30 P w K mg base := h25.addF D25 sc__law_share (fun _ _ _ _ _ _ us hl => match us, hl with | [_, _], _ => rfl) ck__law_share rfl rfl (He.glo_ok X G (F.fact 41 (f := .glo "_law_share") rfl)) (by decide)
  have h27 : GOk (mkH fs25 ms2 fkL exL emL ciL) (He.ga K) 31 P w K mg base := h26.addF D26 sc__law_tails (fun _ _ _ _ _ _ us hl => match us, hl with | [_], _ => rfl) ck__law_tails rfl rfl (He.glo_ok X G (F.fact 42 (f := .glo "_law_tails") rfl)) (by decide)
  have h28 : GOk (mkH fs26 ms2 fkL exL emL ciL) (He.ga K) 32 P w K mg base := h27.addF D27 sc__law_great (fun _ _ _ _ _ _ us hl => match us, hl with | [_, _, _], _ => rfl) ck__law_great rfl rfl (He.glo_ok X G (F.fact 43 (f := .glo "_law_great") rfl)) (by decide)
  have h29 : GOk (mkH fs27 ms2 fkL exL emL ciL) (He.ga K) 33 P w K mg base := h28.addF D28 sc__law_draws (fun _ _ _ _ _ _ us hl => match us, hl with | [_], _ => rfl) ck__law_draws rfl rfl (He.glo_ok X G (F.fact 44 (f := .glo "_law_draws") rfl)) (by decide)
  exact fn_ok D29 sc_law h29 (fun f hf => lk_some hf) (fun q hq => el_ok rfl q hq) ck_law (by decide)
end
theorem law_all {P : Program} {w : World} {K : PySem.W.Frag} {mg : Str → Option Value} {h : Heap} {f : Addr} (X : K.In h) (G : h.Ns mainGlobals mg) (hfa : mg ("law" : Str) = some (.ref f)) (c : He.SaysX faL fnL [] [] exK w h K) :
    ∃ fd : FuncData, (∀ (s : Shared) (v : Value), BindsTo s fd ⟨[v], []⟩ [("script", v)]) ∧ noLst K = true ∧ ∀ base : Heap, FnOk P w K mg base CX0 34 f fd ["script"] (fun vs H Q _ => spOf K (He.ga K) (mkH fs27 ms2 fkL exL emL ciL) s_law vs H Q E0) := by
  have F : He.SaysD faL fnL K := congrArg Prod.fst c.t
  obtain ⟨fd, D, hF⟩ := law_fn (P := P) (w := w) X G F c.more
  have e := hfa.symm.trans (He.glo_ok X G (F.fact 45 (f := .glo "law") rfl))
  cases e
  have b := FunD.bindsA (ps := ["script"]) D fun _ _ _ _ _ _ us hl => match us, hl with | [_], _ => rfl
  exact ⟨fd, fun s v => b s [v] rfl, (and2 c.more).2, fun base => quiet (hF base)⟩
end Pf

namespace Pf
open PySem PySem.Spec PyProof.Rows L2
theorem e_excs {fs : List (String × FSp)} {ms : List ((String × String) × FSp)} {c : String} : (mkH fs ms fkL exL emL ciL).excs c = exL.lookup c := rfl
theorem e_exm {fs : List (String × FSp)} {ms : List ((String × String) × FSp)} {a b : String} : (mkH fs ms fkL exL emL ciL).exm a b = emL.lookup (a, b) := rfl
theorem e_fok {fs : List (String × FSp)} {ms : List ((String × String) × FSp)} {c f : Str} : (mkH fs ms fkL exL emL ciL).fok c f = fkL.any fun p => c == Str.ofString p.1 && f == Str.ofString p.2 := rfl
theorem x_num : exL.lookup "BadNumber" = some [Str.ofString "name"] := by decide
theorem x_wei : exL.lookup "BadWeights" = some [Str.ofString "place"] := by decide
theorem w_is_whole {d : D} (hT : isiT d = true) : Ret s_is_whole [d] (.bl (whole d)) [some d] := by
  intro q x h
  unfold s_is_whole semF m_is_whole
  refine ⟨rfl, ?_⟩
  cases d <;> simp [runs, run, ev, evs, evr, evB, evTs, evO, evSrc, asR, rv, rvs, isS, bindW, setN, offs, takeA, putA, callW, bopW, cmpW, addW, subW, mulW, fdivW, modW, powW, intW, eqW, inW, isW, isNon, negW, ixW, slW, lenW, bltW, intsW, isLst, itms, isiT, isiB, mutW, fz, frz, fzs, frzs, fzs_append, dat, dats, deq, deqs, Pf.flat, back, hnd, uv, uvs, offO, e_excs, e_exm, sq_none, sortI_len, whole] at hT h ⊢ <;> first | exact h | (split <;> exact h)
theorem w_law_whole {d : D} (hT : isiT d = true) : Ret s__law_whole [d] (.bl (whole d)) [some d] := by
  intro q x h
  unfold s__law_whole semF m__law_whole
  refine ⟨rfl, ?_⟩
  cases d <;> simp [runs, run, ev, evs, evr, evB, evTs, evO, evSrc, asR, rv, rvs, isS, bindW, setN, offs, takeA, putA, callW, bopW, cmpW, addW, subW, mulW, fdivW, modW, powW, intW, eqW, inW, isW, isNon, negW, ixW, slW, lenW, bltW, intsW, isLst, itms, isiT, isiB, mutW, fz, frz, fzs, frzs, fzs_append, dat, dats, deq, deqs, Pf.flat, back, hnd, uv, uvs, offO, e_excs, e_exm, sq_none, sortI_len, whole] at hT h ⊢ <;> first | exact h | (split <;> exact h)
theorem w_is_row {d : D} (hT : isiT d = true) : Ret s_is_row [d] (.bl (isRow d)) [some d] := by
  intro q x h
  unfold s_is_row semF m_is_row
  refine ⟨rfl, ?_⟩
  cases d <;> simp [runs, run, ev, evs, evr, evB, evTs, evO, evSrc, asR, rv, rvs, isS, bindW, setN, offs, takeA, putA, callW, bopW, cmpW, addW, subW, mulW, fdivW, modW, powW, intW, eqW, inW, isW, isNon, negW, ixW, slW, lenW, bltW, intsW, isLst, itms, isiT, isiB, mutW, fz, frz, fzs, frzs, fzs_append, dat, dats, deq, deqs, Pf.flat, back, hnd, uv, uvs, offO, e_excs, e_exm, sq_none, sortI_len, isRow] at hT h ⊢ <;> first | exact h | (split <;> exact h)
theorem w_check_whole {v low : Int} {nm : Str} (h0 : low ≤ v) : Ret s_check_whole [.int v, .str nm, .int low] (.int v) [some (.int v), some (.str nm), some (.int low)] := by
  intro q x h
  have f1 : (mkH fs1 ms0 fkL exL emL ciL).fns "is_whole" = some s_is_whole := rfl
  unfold s_check_whole semF m_check_whole
  refine ⟨rfl, ?_⟩
  (first | rw [runs_c] | rw [runs_1] | rw [runs_0])
  try simp [run, ev, evs, evr, evB, evTs, evO, evSrc, asR, rv, rvs, isS, bindW, setN, offs, takeA, putA, callW, bopW, cmpW, addW, subW, mulW, fdivW, modW, powW, intW, eqW, inW, isW, isNon, negW, ixW, slW, lenW, bltW, intsW, isLst, itms, isiT, isiB, mutW, fz, frz, fzs, frzs, fzs_append, dat, dats, deq, deqs, Pf.flat, back, hnd, uv, uvs, offO, e_excs, e_exm, sq_none, sortI_len]
  simp only [f1]
  refine w_is_whole rfl _ _ ?_
  simp [whole, putA]
  (first | rw [runs_c] | rw [runs_1] | rw [runs_0])
  try simp [run, ev, evs, evr, evB, evTs, evO, evSrc, asR, rv, rvs, isS, bindW, setN, offs, takeA, putA, callW, bopW, cmpW, addW, subW, mulW, fdivW, modW, powW, intW, eqW, inW, isW, isNon, negW, ixW, slW, lenW, bltW, intsW, isLst, itms, isiT, isiB, mutW, fz, frz, fzs, frzs, fzs_append, dat, dats, deq, deqs, Pf.flat, back, hnd, uv, uvs, offO, e_excs, e_exm, sq_none, sortI_len]
  (first | rw [runs_c] | rw [runs_1] | rw [runs_0])
  try simp [run, ev, evs, evr, evB, evTs, evO, evSrc, asR, rv, rvs, isS, bindW, setN, offs, takeA, putA, callW, bopW, cmpW, addW, subW, mulW, fdivW, modW, powW, intW, eqW, inW, isW, isNon, negW, ixW, slW, lenW, bltW, intsW, isLst, itms, isiT, isiB, mutW, fz, frz, fzs, frzs, fzs_append, dat, dats, deq, deqs, Pf.flat, back, hnd, uv, uvs, offO, e_excs, e_exm, sq_none, sortI_len]
  rw [if_neg (by omega)]
  try rw [runs_0]
  dsimp only
  (first | rw [runs_c] | rw [runs_1] | rw [runs_0])
  try simp [run, ev, evs, evr, evB, evTs, evO, evSrc, asR, rv, rvs, isS, bindW, setN, offs, takeA, putA, callW, bopW, cmpW, addW, subW, mulW, fdivW, modW, powW, intW, eqW, inW, isW, isNon, negW, ixW, slW, lenW, bltW, intsW, isLst, itms, isiT, isiB, mutW, fz, frz, fzs, frzs, fzs_append, dat, dats, deq, deqs, Pf.flat, back, hnd, uv, uvs, offO, e_excs, e_exm, sq_none, sortI_len]
  exact h
theorem w_check_whole_low {v low : Int} {nm : Str} (h0 : v < low) : Exc s_check_whole [.int v, .str nm, .int low] "BadNumber" [.str nm] [some (.int v), some (.str nm), some (.int low)] := by
  intro q x h
  have f1 : (mkH fs1 ms0 fkL exL emL ciL).fns "is_whole" = some s_is_whole := rfl
  unfold s_check_whole semF m_check_whole
  refine ⟨rfl, ?_⟩
  (first | rw [runs_c] | rw [runs_1] | rw [runs_0])
  try simp [run, ev, evs, evr, evB, evTs, evO, evSrc, asR, rv, rvs, isS, bindW, setN, offs, takeA, putA, callW, bopW, cmpW, addW, subW, mulW, fdivW, modW, powW, intW, eqW, inW, isW, isNon, negW, ixW, slW, lenW, bltW, intsW, isLst, itms, isiT, isiB, mutW, fz, frz, fzs, frzs, fzs_append, dat, dats, deq, deqs, Pf.flat, back, hnd, uv, uvs, offO, e_excs, e_exm, sq_none, sortI_len]
  simp only [f1]
  refine w_is_whole rfl _ _ ?_
  simp [whole, putA]
  (first | rw [runs_c] | rw [runs_1] | rw [runs_0])
  try simp [run, ev, evs, evr, evB, evTs, evO, evSrc, asR, rv, rvs, isS, bindW, setN, offs, takeA, putA, callW, bopW, cmpW, addW, subW, mulW, fdivW, modW, powW, intW, eqW, inW, isW, isNon, negW, ixW, slW, lenW, bltW, intsW, isLst, itms, isiT, isiB, mutW, fz, frz, fzs, frzs, fzs_append, dat, dats, deq, deqs, Pf.flat, back, hnd, uv, uvs, offO, e_excs, e_exm, sq_none, sortI_len]
  (first | rw [runs_c] | rw [runs_1] | rw [runs_0])
  try simp [run, ev, evs, evr, evB, evTs, evO, evSrc, asR, rv, rvs, isS, bindW, setN, offs, takeA, putA, callW, bopW, cmpW, addW, subW, mulW, fdivW, modW, powW, intW, eqW, inW, isW, isNon, negW, ixW, slW, lenW, bltW, intsW, isLst, itms, isiT, isiB, mutW, fz, frz, fzs, frzs, fzs_append, dat, dats, deq, deqs, Pf.flat, back, hnd, uv, uvs, offO, e_excs, e_exm, sq_none, sortI_len]
  rw [if_pos h0]
  (first | rw [runs_c] | rw [runs_1] | rw [runs_0])
  try simp [run, ev, evs, evr, evB, evTs, evO, evSrc, asR, rv, rvs, isS, bindW, setN, offs, takeA, putA, callW, bopW, cmpW, addW, subW, mulW, fdivW, modW, powW, intW, eqW, inW, isW, isNon, negW, ixW, slW, lenW, bltW, intsW, isLst, itms, isiT, isiB, mutW, fz, frz, fzs, frzs, fzs_append, dat, dats, deq, deqs, Pf.flat, back, hnd, uv, uvs, offO, e_excs, e_exm, sq_none, sortI_len]
  exact ⟨⟨_, rfl, rfl⟩, h⟩
theorem w_check_bad {low : Int} {nm : Str} {d : D} (hb : badN low d) : Exc s_check_whole [d, .str nm, .int low] "BadNumber" [.str nm] [some d, some (.str nm), some (.int low)] := by
  obtain ⟨hT, hf, hv⟩ := hb
  cases hd : whole d with
  | true =>
    cases d <;> simp [whole] at hd
    exact w_check_whole_low (hv _ rfl)
  | false =>
    intro q x h
    have f1 : (mkH fs1 ms0 fkL exL emL ciL).fns "is_whole" = some s_is_whole := rfl
    unfold s_check_whole semF m_check_whole
    refine ⟨rfl, ?_⟩
    rw [runs_c]; simp [run, ev, evs, evr, evB, evTs, evO, evSrc, asR, rv, rvs, isS, bindW, setN, offs, takeA, putA, callW, bopW, cmpW, addW, subW, mulW, fdivW, modW, powW, intW, eqW, inW, isW, isNon, negW, ixW, slW, lenW, bltW, intsW, isLst, itms, isiT, isiB, mutW, fz, frz, fzs, frzs, fzs_append, dat, dats, deq, deqs, Pf.flat, back, hnd, uv, uvs, offO, e_excs, e_exm, sq_none, sortI_len, f1, hf]
    refine w_is_whole hT _ _ ?_
    simp [hd, putA]
    (first | rw [runs_c] | rw [runs_1] | rw [runs_0])
    try simp [run, ev, evs, evr, evB, evTs, evO, evSrc, asR, rv, rvs, isS, bindW, setN, offs, takeA, putA, callW, bopW, cmpW, addW, subW, mulW, fdivW, modW, powW, intW, eqW, inW, isW, isNon, negW, ixW, slW, lenW, bltW, intsW, isLst, itms, isiT, isiB, mutW, fz, frz, fzs, frzs, fzs_append, dat, dats, deq, deqs, Pf.flat, back, hnd, uv, uvs, offO, e_excs, e_exm, sq_none, sortI_len]
    exact ⟨⟨_, rfl, rfl⟩, h⟩
theorem w_take (ds : List Int) {m : Int} (hm : 0 < m) : Ret s__law_take [.lst true (ds.map .int), .int m] (.int (takeI ds m)) [some (.lst true (ds.dropLast.map .int)), some (.int m)] := by
  intro q x h
  unfold s__law_take semF m__law_take
  refine ⟨rfl, ?_⟩
  rcases List.eq_nil_or_concat ds with rfl | ⟨ys, a, rfl⟩
  · simp [runs, run, ev, evs, evr, evB, evTs, evO, evSrc, asR, rv, rvs, isS, bindW, setN, offs, takeA, putA, callW, bopW, cmpW, addW, subW, mulW, fdivW, modW, powW, intW, eqW, inW, isW, isNon, negW, ixW, slW, lenW, bltW, intsW, isLst, itms, isiT, isiB, mutW, fz, frz, fzs, frzs, fzs_append, dat, dats, deq, deqs, Pf.flat, back, hnd, uv, uvs, offO, e_excs, e_exm, sq_none, sortI_len]
    exact h
  · simp [takeI] at h
    simp [runs, run, ev, evs, evr, evB, evTs, evO, evSrc, asR, rv, rvs, isS, bindW, setN, offs, takeA, putA, callW, bopW, cmpW, addW, subW, mulW, fdivW, modW, powW, intW, eqW, inW, isW, isNon, negW, ixW, slW, lenW, bltW, intsW, isLst, itms, isiT, isiB, mutW, fz, frz, fzs, frzs, fzs_append, dat, dats, deq, deqs, Pf.flat, back, hnd, uv, uvs, offO, e_excs, e_exm, sq_none, sortI_len]
    rw [if_neg (by omega)]
    exact ⟨hm, h⟩
theorem w_same {a b : Int} : Ret s__law_same [.int a, .int b] (.bl (decide (a = b))) [some (.int a), some (.int b)] := by
  intro q x h
  have f1 : (mkH fs9 ms0 fkL exL emL ciL).fns "_law_whole" = some s__law_whole := rfl
  unfold s__law_same semF m__law_same
  refine ⟨rfl, ?_⟩
  (first | rw [runs_c] | rw [runs_1] | rw [runs_0])
  try simp [run, ev, evs, evr, evB, evTs, evO, evSrc, asR, rv, rvs, isS, bindW, setN, offs, takeA, putA, callW, bopW, cmpW, addW, subW, mulW, fdivW, modW, powW, intW, eqW, inW, isW, isNon, negW, ixW, slW, lenW, bltW, intsW, isLst, itms, isiT, isiB, mutW, fz, frz, fzs, frzs, fzs_append, dat, dats, deq, deqs, Pf.flat, back, hnd, uv, uvs, offO, e_excs, e_exm, sq_none, sortI_len]
  simp only [f1]
  refine w_law_whole rfl _ _ ?_
  simp [whole, putA, run, ev, evs, evr, evB, evTs, evO, evSrc, asR, rv, rvs, isS, bindW, setN, offs, takeA, putA, callW, bopW, cmpW, addW, subW, mulW, fdivW, modW, powW, intW, eqW, inW, isW, isNon, negW, ixW, slW, lenW, bltW, intsW, isLst, itms, isiT, isiB, mutW, fz, frz, fzs, frzs, fzs_append, dat, dats, deq, deqs, Pf.flat, back, hnd, uv, uvs, offO, e_excs, e_exm, sq_none, sortI_len]
  exact h
/-- a number of the script's, or 0 -/
def greatI (ns : List Int) (i : Nat) (l : Int) : Int := (ns.getD i 0) % (2 * l + 1) - l
theorem greatI_le (ns : List Int) (i : Nat) {l : Int} (hl : 0 ≤ l) : -l ≤ greatI ns i l ∧ greatI ns i l ≤ l := by
  unfold greatI
  have h1 := Int.emod_nonneg (ns.getD i 0) (show 2 * l + 1 ≠ 0 by omega)
  have h2 := Int.emod_lt_of_pos (ns.getD i 0) (show 0 < 2 * l + 1 by omega)
  omega
theorem w_great {ns : List Int} {i : Nat} {l : Int} (hl : 0 ≤ l) : Ret s__law_great [.lst false (ns.map .int), .int i, .int l] (.int (greatI ns i l)) [some (.lst false (ns.map .int)), some (.int i), some (.int l)] := by
  intro q x h
  unfold s__law_great semF m__law_great
  refine ⟨rfl, ?_⟩
  (first | rw [runs_c] | rw [runs_1] | rw [runs_0])
  try simp [run, ev, evs, evr, evB, evTs, evO, evSrc, asR, rv, rvs, isS, bindW, setN, offs, takeA, putA, callW, bopW, cmpW, addW, subW, mulW, fdivW, modW, powW, intW, eqW, inW, isW, isNon, negW, ixW, slW, lenW, bltW, intsW, isLst, itms, isiT, isiB, mutW, fz, frz, fzs, frzs, fzs_append, dat, dats, deq, deqs, Pf.flat, back, hnd, uv, uvs, offO, e_excs, e_exm, sq_none, sortI_len]
  rw [runs_c]; simp [run, ev, evs, evr, evB, evTs, evO, evSrc, asR, rv, rvs, isS, bindW, setN, offs, takeA, putA, callW, bopW, cmpW, addW, subW, mulW, fdivW, modW, powW, intW, eqW, inW, isW, isNon, negW, ixW, slW, lenW, bltW, intsW, isLst, itms, isiT, isiB, mutW, fz, frz, fzs, frzs, fzs_append, dat, dats, deq, deqs, Pf.flat, back, hnd, uv, uvs, offO, e_excs, e_exm, sq_none, sortI_len]
  by_cases hi : i < ns.length
  · rw [if_pos (by omega)]
    (first | rw [runs_c] | rw [runs_1] | rw [runs_0])
    try simp [run, ev, evs, evr, evB, evTs, evO, evSrc, asR, rv, rvs, isS, bindW, setN, offs, takeA, putA, callW, bopW, cmpW, addW, subW, mulW, fdivW, modW, powW, intW, eqW, inW, isW, isNon, negW, ixW, slW, lenW, bltW, intsW, isLst, itms, isiT, isiB, mutW, fz, frz, fzs, frzs, fzs_append, dat, dats, deq, deqs, Pf.flat, back, hnd, uv, uvs, offO, e_excs, e_exm, sq_none, sortI_len]
    refine ⟨_, atI_int hi, ?_⟩
    simp [run, ev, evs, evr, evB, evTs, evO, evSrc, asR, rv, rvs, isS, bindW, setN, offs, takeA, putA, callW, bopW, cmpW, addW, subW, mulW, fdivW, modW, powW, intW, eqW, inW, isW, isNon, negW, ixW, slW, lenW, bltW, intsW, isLst, itms, isiT, isiB, mutW, fz, frz, fzs, frzs, fzs_append, dat, dats, deq, deqs, Pf.flat, back, hnd, uv, uvs, offO, e_excs, e_exm, sq_none, sortI_len]
    (first | rw [runs_c] | rw [runs_1] | rw [runs_0])
    try simp [run, ev, evs, evr, evB, evTs, evO, evSrc, asR, rv, rvs, isS, bindW, setN, offs, takeA, putA, callW, bopW, cmpW, addW, subW, mulW, fdivW, modW, powW, intW, eqW, inW, isW, isNon, negW, ixW, slW, lenW, bltW, intsW, isLst, itms, isiT, isiB, mutW, fz, frz, fzs, frzs, fzs_append, dat, dats, deq, deqs, Pf.flat, back, hnd, uv, uvs, offO, e_excs, e_exm, sq_none, sortI_len]
    refine ⟨by omega, ?_⟩
    rw [show greatI ns i l = ns[i] % (2 * l + 1) - l by unfold greatI; rw [List.getD_eq_getElem?_getD, List.getElem?_eq_getElem hi, Option.getD_some]] at h
    exact h
  · rw [if_neg (by omega)]
    try rw [runs_0]
    dsimp only
    (first | rw [runs_c] | rw [runs_1] | rw [runs_0])
    try simp [run, ev, evs, evr, evB, evTs, evO, evSrc, asR, rv, rvs, isS, bindW, setN, offs, takeA, putA, callW, bopW, cmpW, addW, subW, mulW, fdivW, modW, powW, intW, eqW, inW, isW, isNon, negW, ixW, slW, lenW, bltW, intsW, isLst, itms, isiT, isiB, mutW, fz, frz, fzs, frzs, fzs_append, dat, dats, deq, deqs, Pf.flat, back, hnd, uv, uvs, offO, e_excs, e_exm, sq_none, sortI_len]
    refine ⟨by omega, ?_⟩
    rw [show greatI ns i l = 0 % (2 * l + 1) - l by unfold greatI; rw [List.getD_eq_getElem?_getD, List.getElem?_eq_none (by omega), Option.getD_none]] at h
    simpa using h
end Pf

namespace Pf
open PySem PySem.Spec PyProof.Rows L2
/-! ### sums of products with repetition -/
def updR (a : Int) (f : Nat → Int) : Nat → Int
  | 0 => f 0
  | k + 1 => f (k + 1) + a * updR a f k
def delR : Nat → Int
  | 0 => 1
  | _ + 1 => 0
def riseF (f : Nat → Int) (l : List Int) : Nat → Int := l.foldl (fun f a => updR a f) f
def rise (l : List Int) : Nat → Int := riseF delR l
theorem upd_comm (a b : Int) (f : Nat → Int) : ∀ k, updR a (updR b f) k = updR b (updR a f) k
  | 0 => rfl
  | 1 => by
    simp only [updR]
    omega
  | k + 2 => by
    have h1 := upd_comm a b f (k + 1)
    have h0 := upd_comm a b f k
    have e1 : updR a (updR b f) (k + 2) = f (k + 2) + b * updR b f (k + 1) + a * updR a (updR b f) (k + 1) := rfl
    have e2 : updR b (updR a f) (k + 2) = f (k + 2) + a * updR a f (k + 1) + b * updR b (updR a f) (k + 1) := rfl
    have x1 : updR a (updR b f) (k + 1) = updR b f (k + 1) + a * updR a (updR b f) k := rfl
    have y1 : updR b (updR a f) (k + 1) = updR a f (k + 1) + b * updR b (updR a f) k := rfl
    rw [e1, e2]
    have p1 : updR b f (k + 1) = updR a (updR b f) (k + 1) - a * updR a (updR b f) k := by omega
    have p2 : updR a f (k + 1) = updR b (updR a f) (k + 1) - b * updR b (updR a f) k := by omega
    rw [p1, p2, h1, h0, Int.mul_sub, Int.mul_sub, ← Int.mul_assoc, ← Int.mul_assoc, Int.mul_comm b a]
    omega
theorem riseF_upd (a : Int) : ∀ (l : List Int) (f : Nat → Int), riseF (updR a f) l = updR a (riseF f l)
  | [], _ => rfl
  | b :: l, f => by
    show riseF (updR b (updR a f)) l = updR a (riseF (updR b f) l)
    rw [show updR b (updR a f) = updR a (updR b f) from funext fun k => upd_comm b a f k]
    exact riseF_upd a l _
theorem rise_cons (a : Int) (l : List Int) : rise (a :: l) = updR a (rise l) := riseF_upd a l delR
theorem rise_0 : ∀ l : List Int, rise l 0 = 1
  | [] => rfl
  | a :: l => by rw [rise_cons]; exact rise_0 l
theorem rise_nil (k : Nat) : rise [] (k + 1) = 0 := rfl
/-- numbers of sets of lots -/
def stir : Nat → Nat → Int
  | 0, 0 => 1
  | 0, _ + 1 => 0
  | _ + 1, 0 => 0
  | m + 1, k + 1 => stir m k + ((k : Int) + 1) * stir m (k + 1)
theorem stir_hi : ∀ (m k : Nat), m < k → stir m k = 0
  | _, 0, h => by omega
  | 0, _ + 1, _ => rfl
  | m + 1, k + 1, h => by
    rw [stir, stir_hi m k (by omega), stir_hi m (k + 1) (by omega)]
    omega
theorem stir_eq : ∀ m : Nat, stir m m = 1
  | 0 => rfl
  | m + 1 => by rw [stir, stir_eq m, stir_hi m (m + 1) (by omega)]; omega
def dnI : Nat → List Int
  | 0 => []
  | n + 1 => ((n : Int) + 1) :: dnI n
theorem rise_dn : ∀ (n p : Nat), rise (dnI n) p = stir (n + p) n
  | n, 0 => by rw [rise_0, Nat.add_zero, stir_eq]
  | 0, p + 1 => by
    rw [Nat.zero_add]
    rfl
  | n + 1, p + 1 => by
    have h1 := rise_dn n (p + 1)
    have h2 := rise_dn (n + 1) p
    rw [dnI, rise_cons] at h2 ⊢
    rw [updR, h1, h2, show n + 1 + (p + 1) = (n + (p + 1)) + 1 by omega, stir, show n + 1 + p = n + (p + 1) by omega]
termination_by n p => n + p
theorem updR_le {a : Int} {f : Nat → Int} {A B : Nat} (ha : a.natAbs ≤ A) (hf : ∀ k, (f k).natAbs ≤ B ^ k) : ∀ k, (updR a f k).natAbs ≤ (A + B) ^ k
  | 0 => by
    have := hf 0
    simpa [updR] using this
  | k + 1 => by
    have ih := updR_le ha hf k
    have h := hf (k + 1)
    have h2 : B ^ k ≤ (A + B) ^ k := Nat.pow_le_pow_left (by omega) k
    have t := Int.natAbs_add_le (f (k + 1)) (a * updR a f k)
    rw [Int.natAbs_mul] at t
    have m1 : a.natAbs * (updR a f k).natAbs ≤ A * (A + B) ^ k := Nat.mul_le_mul ha ih
    have m2 : B ^ k * B ≤ (A + B) ^ k * B := Nat.mul_le_mul_right B h2
    show (f (k + 1) + a * updR a f k).natAbs ≤ _
    rw [Nat.pow_succ] at h ⊢
    rw [Nat.mul_add, Nat.mul_comm ((A + B) ^ k) A]
    omega
theorem rise_le : ∀ (l : List Int) (k : Nat), (rise l k).natAbs ≤ ((l.map Int.natAbs).sum) ^ k
  | [], 0 => by simp [rise, riseF, delR]
  | [], k + 1 => by simp [rise_nil]
  | a :: l, k => by
    rw [rise_cons, List.map_cons, List.sum_cons]
    exact updR_le (Nat.le_refl _) (rise_le l) k
/-! ### polynomials -/
abbrev Pl := List (Int × List Nat)
def evM (t : Nat → Int) (m : List Nat) : Int := m.foldl (fun a i => a * t i) 1
theorem evM_fold (t : Nat → Int) : ∀ (m : List Nat) (c : Int), m.foldl (fun a i => a * t i) c = c * evM t m
  | [], c => by simp [evM]
  | i :: m, c => by
    have e : evM t (i :: m) = m.foldl (fun a i => a * t i) (1 * t i) := rfl
    rw [e, List.foldl_cons, evM_fold t m, evM_fold t m (1 * t i), Int.one_mul, Int.mul_assoc]
theorem evM_cons (t : Nat → Int) (i : Nat) (m : List Nat) : evM t (i :: m) = t i * evM t m := by
  have e : evM t (i :: m) = m.foldl (fun a i => a * t i) (1 * t i) := rfl
  rw [e, evM_fold, Int.one_mul]
def evP (t : Nat → Int) : Pl → Int
  | [] => 0
  | c :: P => c.1 * evM t c.2 + evP t P
theorem evP_app (t : Nat → Int) : ∀ P Q : Pl, evP t (P ++ Q) = evP t P + evP t Q
  | [], Q => by rw [List.nil_append, evP]; omega
  | c :: P, Q => by rw [List.cons_append, evP, evP, evP_app t P Q]; omega
def insN (i : Nat) : List Nat → List Nat
  | [] => [i]
  | j :: m => if i ≤ j then i :: j :: m else j :: insN i m
theorem evM_ins (t : Nat → Int) (i : Nat) : ∀ m, evM t (insN i m) = t i * evM t m
  | [] => by rw [insN, evM_cons]
  | j :: m => by
    rw [insN]
    split
    · rw [evM_cons]
    · rw [evM_cons, evM_cons, evM_ins t i m, ← Int.mul_assoc, ← Int.mul_assoc, Int.mul_comm (t j)]
def mulV (i : Nat) (P : Pl) : Pl := P.map fun c => (c.1, insN i c.2)
theorem evP_mulV (t : Nat → Int) (i : Nat) : ∀ P, evP t (mulV i P) = t i * evP t P
  | [] => by simp [mulV, evP]
  | c :: P => by
    have h := evP_mulV t i P
    unfold mulV at h ⊢
    rw [List.map_cons, evP, evP, h, evM_ins, Int.mul_add, ← Int.mul_assoc, ← Int.mul_assoc, Int.mul_comm c.1]
def mulC (a : Int) (P : Pl) : Pl := P.map fun c => (a * c.1, c.2)
theorem evP_mulC (t : Nat → Int) (a : Int) : ∀ P, evP t (mulC a P) = a * evP t P
  | [] => by simp [mulC, evP]
  | c :: P => by
    have h := evP_mulC t a P
    unfold mulC at h ⊢
    rw [List.map_cons, evP, evP, h, Int.mul_add, Int.mul_assoc]
def ltM : List Nat → List Nat → Bool
  | _, [] => false
  | [], _ :: _ => true
  | a :: l, b :: m => if a = b then ltM l m else Nat.blt a b
def addT (c : Int) (m : List Nat) : Pl → Pl
  | [] => [(c, m)]
  | d :: P => if m = d.2 then (c + d.1, m) :: P else if ltM m d.2 then (c, m) :: d :: P else d :: addT c m P
theorem evP_addT (t : Nat → Int) (c : Int) (m : List Nat) : ∀ P, evP t (addT c m P) = c * evM t m + evP t P
  | [] => rfl
  | d :: P => by
    rw [addT]
    split
    · next h =>
      subst h
      rw [evP, evP]
      show (c + d.1) * evM t d.2 + evP t P = c * evM t d.2 + (d.1 * evM t d.2 + evP t P)
      rw [Int.add_mul]
      omega
    · split
      · rfl
      · rw [evP, evP, evP_addT t c m P]
        omega
def normP (P : Pl) : Pl := P.foldr (fun c Q => addT c.1 c.2 Q) []
theorem evP_norm (t : Nat → Int) : ∀ P, evP t (normP P) = evP t P
  | [] => rfl
  | c :: P => by
    show evP t (addT c.1 c.2 (normP P)) = _
    rw [evP_addT, evP_norm t P, evP]
def eqP (P Q : Pl) : Bool := (normP (P ++ mulC (-1) Q)).all fun c => decide (c.1 = 0)
theorem evP_zero (t : Nat → Int) : ∀ P : Pl, (P.all fun c => decide (c.1 = 0)) = true → evP t P = 0
  | [], _ => rfl
  | c :: P, h => by
    rw [List.all_cons, Bool.and_eq_true] at h
    rw [evP, of_decide_eq_true h.1, evP_zero t P h.2]
    omega
theorem eqP_ok {P Q : Pl} (h : eqP P Q = true) (t : Nat → Int) : evP t P = evP t Q := by
  have e := evP_zero t _ h
  rw [evP_norm, evP_app, evP_mulC] at e
  omega
def updP (i : Nat) (f : Nat → Pl) : Nat → Pl
  | 0 => f 0
  | k + 1 => f (k + 1) ++ mulV i (updP i f k)
def delP : Nat → Pl
  | 0 => [(1, [])]
  | _ + 1 => []
def riseP (l : List Nat) : Nat → Pl := l.foldl (fun f a => updP a f) delP
theorem evP_upd (t : Nat → Int) (i : Nat) {f : Nat → Pl} {g : Nat → Int} (h : ∀ k, evP t (f k) = g k) : ∀ k, evP t (updP i f k) = updR (t i) g k
  | 0 => h 0
  | k + 1 => by rw [updP, evP_app, evP_mulV, evP_upd t i h k, h, updR]
theorem evP_riseF (t : Nat → Int) : ∀ (l : List Nat) (f : Nat → Pl) (g : Nat → Int), (∀ k, evP t (f k) = g k) → ∀ k, evP t (l.foldl (fun f a => updP a f) f k) = riseF g (l.map t) k
  | [], f, g, h, k => h k
  | i :: l, f, g, h, k => evP_riseF t l (updP i f) (updR (t i) g) (evP_upd t i h) k
theorem evP_rise (t : Nat → Int) (l : List Nat) (k : Nat) : evP t (riseP l k) = rise (l.map t) k :=
  evP_riseF t l delP delR (fun k => by cases k <;> simp [delP, delR, evP, evM]) k
end Pf

namespace Pf
open PySem PySem.Spec PyProof.Rows L2
/-! ### rows of sums -/
def FI (F : Nat → Int) (m : Nat) : List Int := (List.range (m + 1)).map F
def FL (F : Nat → Int) (m : Nat) : D := .lst true ((FI F m).map .int)
theorem FI_len (F : Nat → Int) (m : Nat) : ((FI F m).map D.int).length = m + 1 := by simp [FI]
theorem FI_at (F : Nat → Int) {m i : Nat} (h : i ≤ m) : atI ((FI F m).map D.int) (i : Int) = some (.int (F i)) := by
  rw [atI_nat (by rw [FI_len]; omega)]
  simp [FI]
theorem FI_congr {F F' : Nat → Int} {m : Nat} (h : ∀ i, i ≤ m → F i = F' i) : FI F m = FI F' m := by
  unfold FI
  refine List.map_congr_left fun i hi => h i ?_
  have := List.mem_range.mp hi
  omega
theorem FI_del (m : Nat) : FI delR m = 1 :: List.replicate m 0 := by
  refine List.ext_getElem (by simp [FI]) fun i h1 h2 => ?_
  cases i with
  | zero => simp [FI, delR]
  | succ i => simp [FI, delR]
theorem rgL_1 (n : Nat) : rgL 1 ((n : Int) + 1) = (List.range' 1 n).map fun i : Nat => D.int (i : Int) := by
  unfold rgL
  rw [show ((n : Int) + 1 - 1).toNat = n by omega, List.range'_eq_map_range, List.map_map]
  refine List.map_congr_left fun i _ => ?_
  simp
def mixF (f : Nat → Int) (a : Int) (s j : Nat) : Int := if j < s then updR a f j else f j
theorem mix_set (f : Nat → Int) (a : Int) (s m : Nat) (h : s + 1 ≤ m) : ((FI (mixF f a (s + 1)) m).map D.int).set (s + 1) (.int (f (s + 1) + a * updR a f s)) = (FI (mixF f a (s + 2)) m).map D.int := by
  refine List.ext_getElem (by simp [FI]) fun i h1 h2 => ?_
  rw [List.getElem_set]
  simp only [FI, List.getElem_map, List.getElem_range]
  split
  · next e =>
    subst e
    unfold mixF
    rw [if_pos (by omega)]
    rfl
  · next e =>
    unfold mixF
    by_cases hi : i < s + 1
    · rw [if_pos hi, if_pos (by omega)]
    · rw [if_neg hi, if_neg (by omega)]
theorem rs_in {f : Nat → Int} {a : Int} {m : Nat} {A B : Option D} {fin : En → Prop} {rt : D → En → Prop} {bk : En → Prop} {ex : Xp} (ha : -(2 ^ 64) < a ∧ a < 2 ^ 64) (hf : ∀ y, fin [A, some (.int m), B, some (FL (updR a f) m), some (.int a), y]) : ∀ (n s : Nat) (y : Option D), s + n = m →
    frW [5] (fun e2 K => runs (mkH fs4 ms0 fkL exL emL ciL) (bodyF (nthS 0 (bodyF (nthS 3 m_rising_sum)))) e2 { nx := K, rt := rt, bk := bk, ct := K, ex := ex }) fin ((List.range' (s + 1) n).map fun i : Nat => D.int (i : Int)) [A, some (.int m), B, some (FL (mixF f a (s + 1)) m), some (.int a), y]
  | 0, s, y, hs => by
    have : FL (mixF f a (s + 1)) m = FL (updR a f) m := by
      unfold FL
      rw [FI_congr (F' := updR a f) fun i hi => by unfold mixF; rw [if_pos (by omega)]]
    rw [this]
    exact hf y
  | n + 1, s, y, hs => by
    rw [List.range'_succ, List.map_cons, frW]
    simp only [bindW, List.set_cons_succ, List.set_cons_zero, m_rising_sum, nthS, bodyF]
    have ih := rs_in (rt := rt) (bk := bk) (ex := ex) ha hf n (s + 1) (some (.int ((s + 1 : Nat) : Int))) (by omega)
    simp only [m_rising_sum, nthS, bodyF] at ih
    have a1 := FI_at (mixF f a (s + 1)) (m := m) (i := s + 1) (by omega)
    have a2 := FI_at (mixF f a (s + 1)) (m := m) (i := s) (by omega)
    have v1 : mixF f a (s + 1) (s + 1) = f (s + 1) := by unfold mixF; rw [if_neg (by omega)]
    have v2 : mixF f a (s + 1) s = updR a f s := by unfold mixF; rw [if_pos (by omega)]
    rw [v1] at a1
    rw [v2] at a2
    have st := mix_set f a s m (by omega)
    have hz := FI_len (mixF f a (s + 1)) m
    unfold FL at ih ⊢
    rw [← st] at ih
    generalize (FI (mixF f a (s + 1)) m).map D.int = Z at a1 a2 hz ih ⊢
    have e1 : (((s + 1 : Nat) : Int)) - 1 = (s : Int) := by omega
    rw [runs_1]
    simp only [run, ev, asR, rv, bopW, addW, subW, mulW, ixW, itms, isS, List.getElem?_cons_succ, List.getElem?_cons_zero, Option.join_some, fz]
    simp only [if_true, if_neg Bool.false_ne_true, Bool.false_eq_true, if_false, List.getElem?_cons_succ, List.getElem?_cons_zero, Option.join_some, itms, e1]
    refine ⟨_, a1, fun _ => rfl, _, a2, fun _ => rfl, .inl ha, ⟨_, rfl⟩, s + 1, ?_, ?_⟩
    · rw [hz]
      exact ixN_nat (by omega) (by omega)
    · exact ih
theorem mix_1 (f : Nat → Int) (a : Int) (m : Nat) : FL (mixF f a 1) m = FL f m := by
  unfold FL
  rw [FI_congr (F' := f) fun i _ => by
    unfold mixF
    split
    · next h =>
      obtain rfl : i = 0 := by omega
      rfl
    · rfl]
theorem rs_out {m : Nat} {A B : Option D} {fin : En → Prop} {rt : D → En → Prop} {bk : En → Prop} {ex : Xp} (hm : m ≤ 100000) : ∀ (l : List Int) (f : Nat → Int) (y4 y5 : Option D), (∀ a ∈ l, -(2 ^ 64) < a ∧ a < 2 ^ 64) → (∀ y4 y5, fin [A, some (.int m), B, some (FL (riseF f l) m), y4, y5]) →
    frW [4] (fun e2 K => runs (mkH fs4 ms0 fkL exL emL ciL) (bodyF (nthS 3 m_rising_sum)) e2 { nx := K, rt := rt, bk := bk, ct := K, ex := ex }) fin (l.map .int) [A, some (.int m), B, some (FL f m), y4, y5]
  | [], f, y4, y5, _, hf => hf y4 y5
  | a :: l, f, y4, y5, hl, hf => by
    rw [List.map_cons, frW]
    simp only [bindW, List.set_cons_succ, List.set_cons_zero]
    have ih := fun y => rs_out (rt := rt) (bk := bk) (ex := ex) hm l (updR a f) (some (.int a)) y (fun b hb => hl b (List.mem_cons_of_mem _ hb)) hf
    have inn := fun bk' => rs_in (rt := rt) (bk := bk') (ex := ex) (A := A) (B := B) (f := f) (hl a List.mem_cons_self) ih m 0 y5 (by omega)
    simp only [Nat.zero_add, mix_1] at inn
    simp only [m_rising_sum, nthS, bodyF, FL] at inn ⊢
    rw [runs_1, run_forr]
    simp [evSrc, evs, ev, asR, rv, bopW, addW, FL]
    rw [rgL_1]
    refine ⟨by omega, ?_⟩
    exact inn _
theorem num_loop {S : D} {xs : List Int} {fin : En → Prop} {rt : D → En → Prop} {bk : En → Prop} {ex : Xp} (hS : fz S = true) (hI : itms S = some (xs.map .int)) (hf : ∀ y, fin [some S, y]) : ∀ (n s : Nat) (y : Option D), s + n = xs.length →
    frW [1] (fun e2 K => runs (mkH fs3 ms0 fkL exL emL ciL) (bodyF (nthS 1 m__numbers_of)) e2 { nx := K, rt := rt, bk := bk, ct := K, ex := ex }) fin ((List.range' s n).map fun i : Nat => D.int (i : Int)) [some S, y]
  | 0, s, y, hs => hf y
  | n + 1, s, y, hs => by
    have ih := num_loop (rt := rt) (bk := bk) (ex := ex) hS hI hf n (s + 1) (some (.int (s : Int))) (by omega)
    rw [List.range'_succ, List.map_cons, frW]
    simp only [bindW, List.set_cons_succ, List.set_cons_zero]
    have f2 : (mkH fs3 ms0 fkL exL emL ciL).fns "is_whole" = some s_is_whole := rfl
    simp only [m__numbers_of, nthS, bodyF] at ih ⊢
    have a1 := atI_int (xs := xs) (i := s) (by omega)
    rw [runs_1]
    simp [run, ev, evr, asR, rv, hS, ixW, hI, a1, f2, isS, callW, takeA]
    refine w_is_whole rfl _ _ ?_
    simp [whole, putA, runs_0]
    exact ih
theorem rgL_0 (n : Nat) : rgL 0 (n : Int) = (List.range' 0 n).map fun i : Nat => D.int (i : Int) := by
  rw [rgL_nat, List.range_eq_range']
theorem w_numbers_of {S : D} {xs : List Int} (hS : fz S = true) (hT : isRow S = true) (hI : itms S = some (xs.map .int)) (hl : xs.length ≤ 100000) : Ret s__numbers_of [S] (.tup (xs.map .int)) [some S] := by
  intro q x h
  have f1 : (mkH fs3 ms0 fkL exL emL ciL).fns "is_row" = some s_is_row := rfl
  unfold s__numbers_of semF
  refine ⟨rfl, ?_⟩
  have e0 : m__numbers_of = .cons (nthS 0 m__numbers_of) (.cons (nthS 1 m__numbers_of) (.cons (nthS 2 m__numbers_of) .nil)) := rfl
  have hz : isiT S = true := by cases S <;> simp [isRow] at hT <;> rfl
  rw [e0, runs_c]
  have e1 : nthS 0 m__numbers_of = .iff (.nt (.call "is_row" (.cons (.fv 0) .nil))) (.cons (.raise "BadWeights" (.cons (.neg (.int 1)) .nil)) .nil) .nil := rfl
  rw [e1]
  simp [run, ev, evr, asR, f1, callW, takeA, hS]
  refine w_is_row hz _ _ ?_
  simp [hT, putA, runs_0]
  rw [runs_c]
  have e2 : nthS 1 m__numbers_of = .forr [1] (.rng (.cons (.blt .len (.cons (.fv 0) .nil)) .nil)) (bodyF (nthS 1 m__numbers_of)) := rfl
  rw [e2, run_forr]
  have hlen : ∀ k, lenW S k = k (.int xs.length) := fun k => by
    cases S with
    | tup ys =>
      cases hI
      simp [lenW]
    | lst o ys =>
      cases hI
      simp [lenW]
    | _ => cases hI
  simp [evSrc, evs, ev, evr, asR, rvs, rv, hS, bltW, hlen]
  rw [rgL_0]
  refine ⟨by omega, ?_⟩
  refine num_loop hS hI (fun y => ?_) xs.length 0 none (by omega)
  rw [runs_1]
  have e3 : nthS 2 m__numbers_of = .ret (.blt .tuple1 (.cons (.fv 0) .nil)) := rfl
  rw [e3]
  simp [run, ev, evr, asR, rvs, rv, hS, bltW, hI, back]
  exact h
theorem flat_rep (m : Nat) (z : Int) : (List.replicate m [D.int z]).flatten = (List.replicate m z).map D.int := by
  induction m with
  | zero => rfl
  | succ m ih => rw [List.replicate_succ, List.flatten_cons, ih, List.replicate_succ, List.map_cons]; rfl
theorem FL_del (m : Nat) : D.lst true (D.int 1 :: List.replicate m (D.int 0)) = FL delR m := by
  unfold FL
  rw [FI_del, List.map_cons, List.map_replicate]
theorem fzs_rep (m : Nat) (z : Int) : fzs (List.replicate m (D.int z)) = true := by
  induction m with
  | zero => rfl
  | succ m ih => rw [List.replicate_succ, fzs, ih]; rfl
theorem w_rising {S0 S : D} {xs : List Int} {m : Nat} (h0 : frz S0 = S) (hT : isRow S = true) (hI : itms S = some (xs.map .int)) (hl : xs.length ≤ 100000) (hm : m ≤ 100000) (hx : ∀ a ∈ xs, -(2 ^ 64) < a ∧ a < 2 ^ 64) : Ret s_rising_sum [S0, .int m] (.int (rise xs m)) [some S, some (.int m)] := by
  intro q x h
  have hS : fz S = true := by rw [← h0]; exact fz_frz S0
  have f1 : (mkH fs4 ms0 fkL exL emL ciL).fns "_numbers_of" = some s__numbers_of := rfl
  have f2 : (mkH fs4 ms0 fkL exL emL ciL).fns "check_whole" = some s_check_whole := rfl
  unfold s_rising_sum semF
  refine ⟨rfl, ?_⟩
  have e0 : m_rising_sum = .cons (.asg 2 (.call "_numbers_of" (.cons (.fv 0) .nil))) (.cons (nthS 1 m_rising_sum) (.cons (nthS 2 m_rising_sum) (.cons (nthS 3 m_rising_sum) (.cons (.ret (.idx (.var 3) (.var 1))) .nil)))) := rfl
  rw [e0, runs_c, run_asg]
  refine ev_call_fv f1 (d := S0) rfl ?_
  rw [h0]
  refine w_numbers_of hS hT hI hl _ _ ?_
  simp only [List.map_cons, List.map_nil, List.cons_append, List.nil_append, List.set_cons_zero, List.set_cons_succ, List.replicate]
  rw [runs_c]
  have e1 : nthS 1 m_rising_sum = .expr (.call "check_whole" (.cons (.var 1) (.cons (.str "many") (.cons (.int 0) .nil)))) := rfl
  rw [e1]
  simp [run, ev, evr, asR, f2, callW, takeA, fz]
  refine w_check_whole (by omega) _ _ ?_
  simp only [putA_v]
  unfold putA
  rw [runs_c]
  have e2 : nthS 2 m_rising_sum = .asg 3 (.bin .Add (.lst (.cons (.int 1) .nil)) (.bin .Mult (.lst (.cons (.int 0) .nil)) (.var 1))) := rfl
  rw [e2]
  simp [run, ev, evs, asR, rv, bopW, addW, mulW, fz, fzs]
  refine ⟨by omega, ⟨fzs_rep m 0, by omega⟩, ?_⟩
  rw [FL_del, runs_c]
  have e3 : nthS 3 m_rising_sum = .forr [4] (.it (.var 2)) (bodyF (nthS 3 m_rising_sum)) := rfl
  rw [e3, run_forr]
  simp [evSrc, ev, itms]
  refine rs_out hm xs delR none none hx fun y4 y5 => ?_
  rw [runs_1]
  have a1 := FI_at (riseF delR xs) (m := m) (i := m) (Nat.le_refl m)
  unfold FL
  generalize (FI (riseF delR xs) m).map D.int = Z at a1 ⊢
  simp [run, ev, asR, rv, ixW, itms, fz, a1, back]
  exact h
end Pf

namespace Pf
open PySem PySem.Spec PyProof.Rows L2
def lotE : E := .lc [4] (.rng (.cons (.int 1) (.cons (.bin .Add (.var 1) (.int 1)) .nil))) .nil (.bin .Add (.idx (.var 2) (.bin .Sub (.var 4) (.int 1))) (.bin .Mult (.var 4) (.idx (.var 2) (.var 4))))
theorem stir_row (d m : Nat) : FI (stir (d + 1)) m = 0 :: (List.range' 1 m).map fun i : Nat => stir d (i - 1) + (i : Int) * stir d i := by
  unfold FI
  rw [List.range_eq_range', List.range'_succ, List.map_cons]
  congr 1
  refine List.map_congr_left fun i hi => ?_
  have := (List.mem_range'_1.mp hi).1
  obtain ⟨j, rfl⟩ : ∃ j, i = j + 1 := ⟨i - 1, by omega⟩
  rw [stir, Nat.add_sub_cancel]
  push_cast
  rfl
theorem lot_lc {d m : Nat} {A y : Option D} {Q : D → En → Prop} {X : Xp} (hm : m ≤ 100000) (hQ : Q (.lst true (((List.range' 1 m).map fun i : Nat => stir d (i - 1) + (i : Int) * stir d i).map .int)) [A, some (.int m), some (FL (stir d) m), y, none]) :
    ev (mkH fs6 ms0 fkL exL emL ciL) lotE [A, some (.int m), some (FL (stir d) m), y, none] Q X := by
  unfold lotE
  rw [ev_lc]
  simp [evSrc, evs, ev, asR, rv, bopW, addW]
  refine ⟨by omega, ?_⟩
  rw [rgL_1]
  simp only [offs, List.set_cons_succ, List.set_cons_zero]
  refine lc_all (fun i : Nat => D.int (i : Int)) (fun i : Nat => D.int (stir d (i - 1) + (i : Int) * stir d i)) (fun i hi Kn Ky hy => ?_) (by rw [List.length_range']; omega) (by rw [List.map_map] at hQ; exact hQ)
  have h1 := (List.mem_range'_1.mp hi).1
  have h2 := (List.mem_range'_1.mp hi).2
  simp only [bindW, List.set_cons_succ, List.set_cons_zero]
  have a1 := FI_at (stir d) (m := m) (i := i - 1) (by omega)
  have a2 := FI_at (stir d) (m := m) (i := i) (by omega)
  have e1 : (i : Int) - 1 = ((i - 1 : Nat) : Int) := by omega
  unfold FL at hy ⊢
  generalize (FI (stir d) m).map D.int = Z at a1 a2 hy ⊢
  simp [evTs, ev, asR, rv, bopW, addW, subW, mulW, ixW, itms, fz, a1, a2, e1, isS]
  exact ⟨.inl ⟨by omega, by omega⟩, hy⟩
theorem lot_loop {m : Nat} {A : Option D} {fin : En → Prop} {rt : D → En → Prop} {bk : En → Prop} {ex : Xp} (hm : m ≤ 100000) : ∀ (n d : Nat) (s : Nat) (y : Option D), (∀ y, fin [A, some (.int m), some (FL (stir (d + n)) m), y, none]) →
    frW [3] (fun e2 K => runs (mkH fs6 ms0 fkL exL emL ciL) (bodyF (nthS 4 m_lot_ways)) e2 { nx := K, rt := rt, bk := bk, ct := K, ex := ex }) fin ((List.range' s n).map fun i : Nat => D.int (i : Int)) [A, some (.int m), some (FL (stir d) m), y, none]
  | 0, d, s, y, hf => hf y
  | n + 1, d, s, y, hf => by
    have ih := lot_loop (rt := rt) (bk := bk) (ex := ex) (fin := fin) (A := A) hm n (d + 1) (s + 1) (some (.int (s : Int))) (fun y => by rw [show d + 1 + n = d + (n + 1) by omega]; exact hf y)
    rw [List.range'_succ, List.map_cons, frW]
    simp only [bindW, List.set_cons_succ, List.set_cons_zero]
    have e : bodyF (nthS 4 m_lot_ways) = .cons (.asg 2 (.bin .Add (.lst (.cons (.int 0) .nil)) lotE)) .nil := rfl
    rw [e] at ih ⊢
    rw [runs_1, run_asg]
    have hA : ∀ (f : En → (D → En → Prop) → Xp → Prop) en Q X, asR lotE f en Q X = f en (fun d en' => Q (.v d) en') X := fun _ _ _ _ => rfl
    have hE := fun Q X => lot_lc (d := d) (A := A) (y := some (.int (s : Int))) (Q := Q) (X := X) hm
    generalize lotE = E0 at ih hA hE ⊢
    simp [ev, evs, asR_lst, hA]
    refine hE _ _ ?_
    unfold FL at ih
    rw [stir_row, List.map_cons] at ih
    simp [rv, bopW, addW, fzs, fz, -List.map_map]
    exact ⟨by omega, ih⟩
theorem w_lot_ways {n m : Nat} (hm : m ≤ 100000) (hn : n ≤ 100000) : Ret s_lot_ways [.int n, .int m] (.int (stir n m)) [some (.int n), some (.int m)] := by
  intro q x h
  have f2 : (mkH fs6 ms0 fkL exL emL ciL).fns "check_whole" = some s_check_whole := rfl
  unfold s_lot_ways semF
  refine ⟨rfl, ?_⟩
  have e0 : m_lot_ways = .cons (nthS 0 m_lot_ways) (.cons (nthS 1 m_lot_ways) (.cons (nthS 2 m_lot_ways) (.cons (nthS 3 m_lot_ways) (.cons (nthS 4 m_lot_ways) (.cons (nthS 5 m_lot_ways) .nil))))) := rfl
  have n0 : nthS 0 m_lot_ways = .expr (.call "check_whole" (.cons (.var 0) (.cons (.str "things") (.cons (.int 0) .nil)))) := rfl
  have n1 : nthS 1 m_lot_ways = .expr (.call "check_whole" (.cons (.var 1) (.cons (.str "lots") (.cons (.int 0) .nil)))) := rfl
  have n2 : nthS 2 m_lot_ways = .iff (.cmp .Gt (.var 1) (.var 0)) (.cons (.ret (.int 0)) .nil) .nil := rfl
  have n3 : nthS 3 m_lot_ways = .asg 2 (.bin .Add (.lst (.cons (.int 1) .nil)) (.bin .Mult (.lst (.cons (.int 0) .nil)) (.var 1))) := rfl
  have n4 : nthS 4 m_lot_ways = .forr [3] (.rng (.cons (.var 0) .nil)) (bodyF (nthS 4 m_lot_ways)) := rfl
  have n5 : nthS 5 m_lot_ways = .ret (.idx (.var 2) (.var 1)) := rfl
  rw [e0, runs_c, n0]
  simp [run, ev, evr, asR, f2, callW, takeA, fz]
  refine w_check_whole (by omega) _ _ ?_
  simp only [putA_v]
  unfold putA
  rw [runs_c, n1]
  simp [run, ev, evr, asR, f2, callW, takeA, fz]
  refine w_check_whole (by omega) _ _ ?_
  simp only [putA_v]
  unfold putA
  rw [runs_c, n2]
  simp [run, ev, asR, rv, cmpW, intW, fz]
  by_cases hnm : n < m
  · rw [if_pos hnm]
    rw [stir_hi n m hnm] at h
    rw [runs_1]
    simp [run, ev, back]
    exact h
  · rw [if_neg hnm, runs_0]
    dsimp only
    rw [runs_c, n3]
    simp [run, ev, evs, asR, rv, bopW, addW, mulW, fz, fzs]
    refine ⟨by omega, ⟨fzs_rep m 0, by omega⟩, ?_⟩
    have ed : FL delR m = FL (stir 0) m := by
      unfold FL
      rw [FI_congr fun i _ => (by cases i <;> rfl : delR i = stir 0 i)]
    rw [FL_del, ed, runs_c, n4, run_forr]
    simp [evSrc, evs, ev, fz]
    refine ⟨by omega, ?_⟩
    rw [rgL_0]
    refine lot_loop hm n 0 0 none fun y => ?_
    rw [runs_1, n5, Nat.zero_add]
    have a1 := FI_at (stir n) (m := m) (i := m) (Nat.le_refl m)
    unfold FL
    generalize (FI (stir n) m).map D.int = Z at a1 ⊢
    simp [run, ev, asR, rv, ixW, itms, fz, a1, back]
    exact h
end Pf

namespace Pf
open PySem PySem.Spec PyProof.Rows L2
theorem FI_succ (F : Nat → Int) (s : Nat) : FI F (s + 1) = FI F s ++ [F (s + 1)] := by
  unfold FI
  rw [List.range_succ, List.map_append]
  rfl
theorem FI_0 (F : Nat → Int) : FI F 0 = [F 0] := rfl
theorem map_zero (m : Nat) : ((List.range' 0 m).map fun _ => D.int 0) = List.replicate m (D.int 0) := by
  refine List.ext_getElem (by simp) fun i h1 h2 => by simp
/-- [0 for turn in range(i)] -/
theorem lc_zero {G : Gb} {i j : Nat} {m : Nat} {en : En} {Q : D → En → Prop} {X : Xp} (hm : m ≤ 100000) (h : (en[i]?).join = some (.int m)) (hj : en.set j none = en) (hl : j < en.length) (hQ : Q (.lst true (List.replicate m (.int 0))) en) : ev G (.lc [j] (.rng (.cons (.var i) .nil)) .nil (.int 0)) en Q X := by
  rw [ev_lc]
  have hi : ev G (.var i) = ev G (.var i) := rfl
  simp only [evSrc, evs]
  rw [ev_vf h rfl]
  refine ⟨by omega, ?_⟩
  rw [rgL_0]
  simp only [offs]
  rw [hj]
  refine lc_all (fun i : Nat => D.int (i : Int)) (fun _ : Nat => D.int 0) (fun a ha Kn Ky hy => ?_) (by rw [List.length_range']; omega) (by rw [map_zero]; exact hQ)
  simp only [bindW, evTs, ev, offs, List.set_set, hj, if_true]
  exact hy
/-! ### _law_rising -/
theorem lr_in {f : Nat → Int} {a : Int} {m : Nat} {A C : Option D} {fin : En → Prop} {rt : D → En → Prop} {bk : En → Prop} {ex : Xp} (hm : m ≤ 100000) (ha : -(2 ^ 64) < a ∧ a < 2 ^ 64) (hf : ∀ y, fin [A, some (.int m), some (FL f m), C, some (.int a), some (FL (updR a f) m), y]) : ∀ (n s : Nat) (y : Option D), s + n = m →
    frW [6] (fun e2 K => runs (mkH fs12 ms0 fkL exL emL ciL) (bodyF (nthS 1 (bodyF (nthS 1 m__law_rising)))) e2 { nx := K, rt := rt, bk := bk, ct := K, ex := ex }) fin ((List.range' (s + 1) n).map fun i : Nat => D.int (i : Int)) [A, some (.int m), some (FL f m), C, some (.int a), some (FL (updR a f) s), y]
  | 0, s, y, hs => by
    obtain rfl : s = m := by omega
    exact hf y
  | n + 1, s, y, hs => by
    have ih := lr_in (rt := rt) (bk := bk) (ex := ex) hm ha hf n (s + 1) (some (.int ((s + 1 : Nat) : Int))) (by omega)
    rw [List.range'_succ, List.map_cons, frW]
    simp only [bindW, List.set_cons_succ, List.set_cons_zero]
    have a1 := FI_at f (m := m) (i := s + 1) (by omega)
    have a2 := FI_at (updR a f) (m := s) (i := s) (Nat.le_refl s)
    have hz := FI_len (updR a f) s
    have e1 : (((s + 1 : Nat) : Int)) - 1 = (s : Int) := by omega
    have e2 : FL (updR a f) (s + 1) = .lst true ((FI (updR a f) s).map .int ++ [.int (f (s + 1) + a * updR a f s)]) := by
      unfold FL
      rw [FI_succ, List.map_append]
      rfl
    rw [e2] at ih
    have eb : bodyF (nthS 1 (bodyF (nthS 1 m__law_rising))) = .cons (.expr (.mut .append 5 (.cons (.bin .Add (.idx (.var 2) (.var 6)) (.bin .Mult (.var 4) (.idx (.var 5) (.bin .Sub (.var 6) (.int 1))))) .nil))) .nil := rfl
    rw [eb] at ih ⊢
    unfold FL at ih ⊢
    generalize (FI (updR a f) s).map D.int = Z at a2 hz ih ⊢
    generalize (FI f m).map D.int = Y at a1 ih ⊢
    rw [runs_1]
    simp only [run, ev, evs, asR, rv, bopW, addW, subW, mulW, ixW, itms, isS, mutW, List.getElem?_cons_succ, List.getElem?_cons_zero, Option.join_some, fz]
    simp only [if_true, if_neg Bool.false_ne_true, Bool.false_eq_true, if_false, List.getElem?_cons_succ, List.getElem?_cons_zero, Option.join_some, itms, e1]
    refine ⟨⟨_, rfl⟩, _, a1, fun _ => rfl, _, a2, fun _ => rfl, .inl ha, by omega, ?_⟩
    exact ih
theorem lr_out {m : Nat} {A C : Option D} {fin : En → Prop} {rt : D → En → Prop} {bk : En → Prop} {ex : Xp} (hm : m ≤ 100000) : ∀ (l : List Int) (f : Nat → Int) (y4 y5 y6 : Option D), (∀ a ∈ l, -(2 ^ 64) < a ∧ a < 2 ^ 64) → (∀ k, f 0 = k → k = 1) → (∀ y4 y5 y6, fin [A, some (.int m), some (FL (riseF f l) m), C, y4, y5, y6]) →
    frW [4] (fun e2 K => runs (mkH fs12 ms0 fkL exL emL ciL) (bodyF (nthS 1 m__law_rising)) e2 { nx := K, rt := rt, bk := bk, ct := K, ex := ex }) fin (l.map .int) [A, some (.int m), some (FL f m), C, y4, y5, y6]
  | [], f, y4, y5, y6, _, _, hf => hf y4 y5 y6
  | a :: l, f, y4, y5, y6, hl, h1, hf => by
    rw [List.map_cons, frW]
    simp only [bindW, List.set_cons_succ, List.set_cons_zero]
    have ih := fun y5 y6 => lr_out (rt := rt) (bk := bk) (ex := ex) (A := A) (C := C) hm l (updR a f) (some (.int a)) y5 y6 (fun b hb => hl b (List.mem_cons_of_mem _ hb)) h1 hf
    have eb : bodyF (nthS 1 m__law_rising) = .cons (.asg 5 (.lst (.cons (.int 1) .nil))) (.cons (.forr [6] (.rng (.cons (.int 1) (.cons (.bin .Add (.var 1) (.int 1)) .nil))) (bodyF (nthS 1 (bodyF (nthS 1 m__law_rising))))) (.cons (.asg 2 (.blt .list1 (.cons (.var 5) .nil))) .nil)) := rfl
    rw [eb] at ih ⊢
    rw [runs_c, run_asg]
    simp only [ev, evs, List.set_cons_succ, List.set_cons_zero]
    rw [runs_c, run_forr]
    simp [evSrc, evs, ev, asR, rv, bopW, addW, FL]
    rw [rgL_1]
    refine ⟨by omega, ?_⟩
    have e5 : D.lst true [D.int 1] = FL (updR a f) 0 := by
      unfold FL
      rw [FI_0, show updR a f 0 = 1 from h1 _ rfl]
      rfl
    rw [e5]
    refine lr_in (A := A) (C := C) (f := f) hm (hl a List.mem_cons_self) (fun y => ?_) m 0 y6 (by omega)
    rw [runs_1]
    have ih2 := ih (some (FL (updR a f) m)) y
    unfold FL at ih2 ⊢
    simp [run, ev, evr, asR, rvs, rv, bltW, itms, fz, -List.map_map]
    simpa using ih2
theorem w_law_rising {S0 S : D} {xs : List Int} {m : Nat} (h0 : frz S0 = S) (hI : itms S = some (xs.map .int)) (hm : m ≤ 100000) (hx : ∀ a ∈ xs, -(2 ^ 64) < a ∧ a < 2 ^ 64) : Ret s__law_rising [S0, .int m] (.int (rise xs m)) [some S, some (.int m)] := by
  intro q x h
  unfold s__law_rising semF
  refine ⟨rfl, ?_⟩
  have e0 : m__law_rising = .cons (.asg 2 (.bin .Add (.lst (.cons (.int 1) .nil)) (.lc [3] (.rng (.cons (.var 1) .nil)) .nil (.int 0)))) (.cons (.forr [4] (.it (.fv 0)) (bodyF (nthS 1 m__law_rising))) (.cons (.ret (.idx (.var 2) (.var 1))) .nil)) := rfl
  rw [e0, runs_c, run_asg]
  have hE := fun Q X => lc_zero (G := mkH fs12 ms0 fkL exL emL ciL) (i := 1) (j := 3) (m := m) (en := [some S0, some (.int m), none, none, none, none, none]) (Q := Q) (X := X) hm rfl rfl (by simp)
  have hA : ∀ (f : En → (D → En → Prop) → Xp → Prop) en Q X, asR (.lc [3] (.rng (.cons (.var 1) .nil)) .nil (.int 0)) f en Q X = f en (fun d en' => Q (.v d) en') X := fun _ _ _ _ => rfl
  generalize (E.lc [3] (.rng (.cons (.var 1) .nil)) .nil (.int 0)) = E0 at hE hA ⊢
  simp [ev, evs, asR_lst, hA]
  refine hE _ _ ?_
  simp [rv, bopW, addW, fzs, fz]
  refine ⟨⟨fzs_rep m 0, by omega⟩, ?_⟩
  rw [FL_del, runs_c, run_forr, src_it]
  refine ev_fv (d := S0) rfl ?_
  rw [h0]
  refine ⟨_, hI, ?_⟩
  rw [frzs_of _ (by simp)]
  refine lr_out hm xs delR none none none hx (fun k hk => hk.symm) fun y4 y5 y6 => ?_
  dsimp only
  rw [runs_1]
  have a1 := FI_at (riseF delR xs) (m := m) (i := m) (Nat.le_refl m)
  unfold FL
  generalize (FI (riseF delR xs) m).map D.int = Z at a1 ⊢
  simp [run, ev, asR, rv, ixW, itms, fz, a1, back]
  exact h
/-! ### _law_lots -/
theorem ll_in {d : Nat} {m : Nat} {A C T : Option D} {fin : En → Prop} {rt : D → En → Prop} {bk : En → Prop} {ex : Xp} (hm : m ≤ 100000) (hf : ∀ y, fin [A, some (.int m), some (FL (stir d) m), C, T, some (FL (stir (d + 1)) m), y]) : ∀ (n s : Nat) (y : Option D), s + n = m →
    frW [6] (fun e2 K => runs (mkH fs13 ms0 fkL exL emL ciL) (bodyF (nthS 1 (bodyF (nthS 1 m__law_lots)))) e2 { nx := K, rt := rt, bk := bk, ct := K, ex := ex }) fin ((List.range' (s + 1) n).map fun i : Nat => D.int (i : Int)) [A, some (.int m), some (FL (stir d) m), C, T, some (FL (stir (d + 1)) s), y]
  | 0, s, y, hs => by
    obtain rfl : s = m := by omega
    exact hf y
  | n + 1, s, y, hs => by
    have ih := ll_in (rt := rt) (bk := bk) (ex := ex) hm hf n (s + 1) (some (.int ((s + 1 : Nat) : Int))) (by omega)
    rw [List.range'_succ, List.map_cons, frW]
    simp only [bindW, List.set_cons_succ, List.set_cons_zero]
    have a1 := FI_at (stir d) (m := m) (i := s + 1) (by omega)
    have a2 := FI_at (stir d) (m := m) (i := s) (by omega)
    have hz := FI_len (stir (d + 1)) s
    have e1 : (((s + 1 : Nat) : Int)) - 1 = (s : Int) := by omega
    have e2 : FL (stir (d + 1)) (s + 1) = .lst true ((FI (stir (d + 1)) s).map .int ++ [.int (stir d s + ((s + 1 : Nat) : Int) * stir d (s + 1))]) := by
      unfold FL
      rw [FI_succ, List.map_append, show stir (d + 1) (s + 1) = stir d s + ((s + 1 : Nat) : Int) * stir d (s + 1) by rw [stir]; push_cast; rfl]
      rfl
    rw [e2] at ih
    have eb : bodyF (nthS 1 (bodyF (nthS 1 m__law_lots))) = .cons (.expr (.mut .append 5 (.cons (.bin .Add (.idx (.var 2) (.bin .Sub (.var 6) (.int 1))) (.bin .Mult (.var 6) (.idx (.var 2) (.var 6)))) .nil))) .nil := rfl
    rw [eb] at ih ⊢
    unfold FL at ih ⊢
    generalize (FI (stir (d + 1)) s).map D.int = Z at hz ih ⊢
    generalize (FI (stir d) m).map D.int = Y at a1 a2 ih ⊢
    rw [runs_1]
    simp only [run, ev, evs, asR, rv, bopW, addW, subW, mulW, ixW, itms, isS, mutW, List.getElem?_cons_succ, List.getElem?_cons_zero, Option.join_some, fz]
    simp only [if_true, if_neg Bool.false_ne_true, Bool.false_eq_true, if_false, List.getElem?_cons_succ, List.getElem?_cons_zero, Option.join_some, itms, e1]
    refine ⟨⟨_, rfl⟩, _, a2, fun _ => rfl, _, a1, fun _ => rfl, .inl ⟨by omega, by omega⟩, by omega, ?_⟩
    exact ih
theorem ll_out {m : Nat} {A C : Option D} {fin : En → Prop} {rt : D → En → Prop} {bk : En → Prop} {ex : Xp} (hm : m ≤ 100000) : ∀ (n d s : Nat) (y4 y5 y6 : Option D), (∀ y4 y5 y6, fin [A, some (.int m), some (FL (stir (d + n)) m), C, y4, y5, y6]) →
    frW [4] (fun e2 K => runs (mkH fs13 ms0 fkL exL emL ciL) (bodyF (nthS 1 m__law_lots)) e2 { nx := K, rt := rt, bk := bk, ct := K, ex := ex }) fin ((List.range' s n).map fun i : Nat => D.int (i : Int)) [A, some (.int m), some (FL (stir d) m), C, y4, y5, y6]
  | 0, d, s, y4, y5, y6, hf => hf y4 y5 y6
  | n + 1, d, s, y4, y5, y6, hf => by
    rw [List.range'_succ, List.map_cons, frW]
    simp only [bindW, List.set_cons_succ, List.set_cons_zero]
    have ih := fun y5 y6 => ll_out (rt := rt) (bk := bk) (ex := ex) (A := A) (C := C) (fin := fin) hm n (d + 1) (s + 1) (some (.int (s : Int))) y5 y6 (fun y4 y5 y6 => by rw [show d + 1 + n = d + (n + 1) by omega]; exact hf y4 y5 y6)
    have eb : bodyF (nthS 1 m__law_lots) = .cons (.asg 5 (.lst (.cons (.int 0) .nil))) (.cons (.forr [6] (.rng (.cons (.int 1) (.cons (.bin .Add (.var 1) (.int 1)) .nil))) (bodyF (nthS 1 (bodyF (nthS 1 m__law_lots))))) (.cons (.asg 2 (.blt .list1 (.cons (.var 5) .nil))) .nil)) := rfl
    rw [eb] at ih ⊢
    rw [runs_c, run_asg]
    simp only [ev, evs, List.set_cons_succ, List.set_cons_zero]
    rw [runs_c, run_forr]
    simp [evSrc, evs, ev, asR, rv, bopW, addW, FL]
    rw [rgL_1]
    refine ⟨by omega, ?_⟩
    have e5 : D.lst true [D.int 0] = FL (stir (d + 1)) 0 := rfl
    rw [e5]
    refine ll_in (A := A) (C := C) (d := d) hm (fun y => ?_) m 0 y6 (by omega)
    rw [runs_1]
    have ih2 := ih (some (FL (stir (d + 1)) m)) y
    unfold FL at ih2 ⊢
    simp [run, ev, evr, asR, rvs, rv, bltW, itms, fz, -List.map_map]
    simpa using ih2
theorem w_law_lots {n m : Nat} (hn : n ≤ 100000) (hm : m ≤ 100000) : Ret s__law_lots [.int n, .int m] (.int (stir n m)) [some (.int n), some (.int m)] := by
  intro q x h
  unfold s__law_lots semF
  refine ⟨rfl, ?_⟩
  have e0 : m__law_lots = .cons (.asg 2 (.bin .Add (.lst (.cons (.int 1) .nil)) (.lc [3] (.rng (.cons (.var 1) .nil)) .nil (.int 0)))) (.cons (.forr [4] (.rng (.cons (.var 0) .nil)) (bodyF (nthS 1 m__law_lots))) (.cons (.ret (.idx (.var 2) (.var 1))) .nil)) := rfl
  rw [e0, runs_c, run_asg]
  have hE := fun Q X => lc_zero (G := mkH fs13 ms0 fkL exL emL ciL) (i := 1) (j := 3) (m := m) (en := [some (.int n), some (.int m), none, none, none, none, none]) (Q := Q) (X := X) hm rfl rfl (by simp)
  have hA : ∀ (f : En → (D → En → Prop) → Xp → Prop) en Q X, asR (.lc [3] (.rng (.cons (.var 1) .nil)) .nil (.int 0)) f en Q X = f en (fun d en' => Q (.v d) en') X := fun _ _ _ _ => rfl
  generalize (E.lc [3] (.rng (.cons (.var 1) .nil)) .nil (.int 0)) = E0 at hE hA ⊢
  simp [ev, evs, asR_lst, hA]
  refine hE _ _ ?_
  simp [rv, bopW, addW, fzs, fz]
  refine ⟨⟨fzs_rep m 0, by omega⟩, ?_⟩
  have ed : FL delR m = FL (stir 0) m := by
    unfold FL
    rw [FI_congr fun i _ => (by cases i <;> rfl : delR i = stir 0 i)]
  rw [FL_del, ed, runs_c, run_forr]
  simp [evSrc, evs, ev, fz]
  refine ⟨by omega, ?_⟩
  rw [rgL_0]
  refine ll_out hm n 0 0 none none none fun y4 y5 y6 => ?_
  rw [runs_1, Nat.zero_add]
  have a1 := FI_at (stir n) (m := m) (i := m) (Nat.le_refl m)
  unfold FL
  generalize (FI (stir n) m).map D.int = Z at a1 ⊢
  simp [run, ev, asR, rv, ixW, itms, fz, a1, back]
  exact h
end Pf

namespace Pf
open PySem PySem.Spec PyProof.Rows L2
theorem cut_from {xs : List D} {i : Nat} : cutD xs (some (i : Int)) none = xs.drop i := by
  unfold cutD
  rw [HT.sIx_nat, HT.sIx_none]
  by_cases h : i ≤ xs.length
  · rw [Nat.min_eq_left h, List.take_of_length_le (by rw [List.length_drop]; omega)]
  · rw [Nat.min_eq_right (by omega), List.drop_length, List.drop_eq_nil_of_le (by omega)]
    simp
theorem cut_to {xs : List D} {i : Nat} : cutD xs none (some (i : Int)) = xs.take i := by
  unfold cutD
  rw [HT.sIx_nat, HT.sIx_none, List.drop_zero, Nat.sub_zero]
  by_cases h : i ≤ xs.length
  · rw [Nat.min_eq_left h]
  · rw [Nat.min_eq_right (by omega), List.take_length, List.take_of_length_le (by omega)]
theorem lenW_of {S : D} {xs : List D} {k : D → Prop} (hI : itms S = some xs) : lenW S k = k (.int xs.length) := by
  cases S with
  | tup ys => cases hI; rfl
  | lst o ys => cases hI; rfl
  | _ => cases hI
theorem slW_of {S : D} {xs : List D} {l h : Option Int} {k : D → Prop} (hI : itms S = some xs) (hf : fzs xs = true) (hk : ∀ d, itms d = some (cutD xs l h) → k d) : slW l h S k := by
  cases S with
  | tup ys =>
    cases hI
    exact ⟨hf, hk _ rfl⟩
  | lst o ys =>
    cases hI
    exact ⟨hf, hk _ rfl⟩
  | _ => cases hI
def tl (w : List Int) (i : Nat) : Int := (w.drop i).sum
def tailsI (w : List Int) : List Int := (List.range w.length).map (tl w)
theorem tailsI_len (w : List Int) : (tailsI w).length = w.length := by simp [tailsI]
theorem tailsI_at (w : List Int) {i : Nat} (h : i < w.length) : atI ((tailsI w).map D.int) (i : Int) = some (.int (tl w i)) := by
  rw [atI_nat (by rw [List.length_map, tailsI_len]; exact h)]
  simp [tailsI]
def tailE (i j : Nat) : E := .lc [j] (.rng (.cons (.blt .len (.cons (.fv i) .nil)) .nil)) .nil (.blt .sum (.cons (.slc (.fv i) (.so (.var j)) .no) .nil))
theorem ev_fvf {G : Gb} {i : Nat} {d : D} {en : En} {Q : D → En → Prop} {X : Xp} (h : (en[i]?).join = some d) (hf : fz d = true) : ev G (.fv i) en Q X = Q d en := by
  rw [ev, h]
  exact if_pos hf
theorem asR_fv {i : Nat} {f : En → (D → En → Prop) → Xp → Prop} {en : En} {Q : R → En → Prop} {X : Xp} : asR (.fv i) f en Q X = f en (fun d e => Q (.v d) e) X := rfl
theorem lc_tails {G : Gb} {i j : Nat} {S : D} {w : List Int} {en : En} {Q : D → En → Prop} {X : Xp} (hS : fz S = true) (hI : itms S = some (w.map .int)) (hl : w.length ≤ 100000) (h : (en[i]?).join = some S) (hij : j ≠ i) (hj : j < en.length) (hQ : Q (.lst true ((tailsI w).map .int)) (en.set j none)) : ev G (tailE i j) en Q X := by
  unfold tailE
  rw [ev_lc]
  simp only [evSrc, evs, ev, evr, asR_fv, rvs, rv]
  rw [h]
  dsimp only
  rw [if_pos hS]
  dsimp only [bltW]
  rw [lenW_of hI]
  simp only [List.length_map]
  refine ⟨by omega, ?_⟩
  rw [rgL_0]
  simp only [offs]
  refine lc_all (fun a : Nat => D.int (a : Int)) (fun a : Nat => D.int (tl w a)) (fun a ha Kn Ky hy => ?_) (by rw [List.length_range']; omega) (by
    unfold tailsI at hQ
    rw [List.map_map, List.range_eq_range'] at hQ
    exact hQ)
  have hg : ((en.set j (some (.int (a : Int))))[i]?).join = some S := by
    rw [List.getElem?_set_ne hij]
    exact h
  have hg2 : ((en.set j (some (.int (a : Int))))[j]?).join = some (.int (a : Int)) := by
    rw [List.getElem?_set_self hj]
    rfl
  simp only [bindW, evTs, if_true, ev, evr, evO, asR, rvs, List.set_set]
  rw [hg]
  try dsimp only
  rw [if_pos hS]
  try dsimp only
  rw [hg2]
  simp only [rv, fz, if_true]
  refine ⟨_, rfl, slW_of hI (by simp) fun d hd => ?_⟩
  refine ⟨w.drop a, ?_, ?_⟩
  · rw [hd, cut_from, List.map_drop]
  · simp only [offs, List.set_set]
    exact hy
theorem w_tails {S : D} {w : List Int} (hS : fz S = true) (hI : itms S = some (w.map .int)) (hl : w.length ≤ 100000) : Ret s__law_tails [S] (.lst true ((tailsI w).map .int)) [some S] := by
  intro q x h
  unfold s__law_tails semF
  refine ⟨rfl, ?_⟩
  have e0 : m__law_tails = .cons (.ret (tailE 0 1)) .nil := rfl
  rw [e0, runs_1]
  have e1 : ∀ {G : Gb} {en : En} {P : Pt}, run G (.ret (tailE 0 1)) en P = ev G (tailE 0 1) en P.rt P.ex := by
    intro G en P
    unfold tailE
    rw [run]
    intro i h
    cases h
  rw [e1]
  refine lc_tails hS hI hl rfl (by decide) (by simp) ?_
  simp only [back]
  exact h
end Pf

namespace Pf
open PySem PySem.Spec PyProof.Rows L2
/-! ### a chance -/
def chN : List Str := [Str.ofString "top", Str.ofString "props", Str.ofString "weights", Str.ofString "sums"]
def chV (top props : Nat) (w : List Int) : List D := [.int top, .int props, .tup (w.map .int), .tup ((tailsI w).map .int)]
def chD (o : Bool) (top props : Nat) (w : List Int) : D := .ins o (Str.ofString "Chance") chN (chV top props w)
theorem fzs_ch (top props : Nat) (w : List Int) : fzs (chV top props w) = true := by simp [chV, fzs, fz]
theorem fz_ch (top props : Nat) (w : List Int) : fz (chD false top props w) = true := by rw [chD, fz, fzs_ch]; rfl
theorem frz_ch (o : Bool) (top props : Nat) (w : List Int) : frz (chD o top props w) = chD false top props w := by
  rw [chD, frz, frzs_of _ (fzs_ch top props w)]
  rfl
section
variable {fs : List (String × FSp)} {ms : List ((String × String) × FSp)} {i : Nat} {en : En} {top props : Nat} {w : List Int} {Q : D → En → Prop} {X : Xp}
theorem ev_top (h : (en[i]?).join = some (chD false top props w)) (hq : Q (.int top) en) : ev (mkH fs ms fkL exL emL ciL) (.fld (.var i) "top") en Q X := ev_fld h (fzs_ch top props w) (by rw [e_fok]; decide) (by rfl) hq
theorem ev_props (h : (en[i]?).join = some (chD false top props w)) (hq : Q (.int props) en) : ev (mkH fs ms fkL exL emL ciL) (.fld (.var i) "props") en Q X := ev_fld h (fzs_ch top props w) (by rw [e_fok]; decide) (by rfl) hq
theorem ev_weights (h : (en[i]?).join = some (chD false top props w)) (hq : Q (.tup (w.map .int)) en) : ev (mkH fs ms fkL exL emL ciL) (.fld (.var i) "weights") en Q X := ev_fld h (fzs_ch top props w) (by rw [e_fok]; decide) (by rfl) hq
theorem ev_sums (h : (en[i]?).join = some (chD false top props w)) (hq : Q (.tup ((tailsI w).map .int)) en) : ev (mkH fs ms fkL exL emL ciL) (.fld (.var i) "sums") en Q X := ev_fld h (fzs_ch top props w) (by rw [e_fok]; decide) (by rfl) hq
end
theorem asR_fld {a : E} {f : String} {g : En → (D → En → Prop) → Xp → Prop} {en : En} {Q : R → En → Prop} {X : Xp} : asR (.fld a f) g en Q X = g en (fun d e => Q (.v d) e) X := rfl
abbrev GI : Gb := mkH fs16 ms0 fkL exL emL ciL
theorem ini_loop {A B C S : D} {xs : List Int} {fin : En → Prop} {rt : D → En → Prop} {bk : En → Prop} {ex : Xp} (hS : fz S = true) (hI : itms S = some (xs.map .int)) (hf : ∀ y, fin [some A, some B, some C, some S, y]) : ∀ (n s : Nat) (y : Option D), s + n = xs.length →
    frW [4] (fun e2 K => runs GI (bodyF (nthS 4 m_Chance_init)) e2 { nx := K, rt := rt, bk := bk, ct := K, ex := ex }) fin ((List.range' s n).map fun i : Nat => D.int (i : Int)) [some A, some B, some C, some S, y]
  | 0, s, y, hs => hf y
  | n + 1, s, y, hs => by
    have ih := ini_loop (A := A) (B := B) (C := C) (rt := rt) (bk := bk) (ex := ex) hS hI hf n (s + 1) (some (.int (s : Int))) (by omega)
    rw [List.range'_succ, List.map_cons, frW]
    simp only [bindW, List.set_cons_succ, List.set_cons_zero]
    have f2 : GI.fns "is_whole" = some s_is_whole := rfl
    simp only [m_Chance_init, nthS, bodyF] at ih ⊢
    have a1 := atI_int (xs := xs) (i := s) (by omega)
    rw [runs_1]
    simp [run, ev, evr, asR, rv, hS, ixW, hI, a1, f2, isS, callW, takeA]
    refine w_is_whole rfl _ _ ?_
    simp [whole, putA, runs_0]
    exact ih
theorem w_Chance {W0 W : D} {top props : Nat} {w : List Int} (h0 : frz W0 = W) (hT : isRow W = true) (hI : itms W = some (w.map .int)) (h1 : 1 ≤ top) (hp : props ≤ top) (hl : w.length = top - props + 1) (hz : top ≤ 1000) :
    Ret s_Chance_init [.ins true (Str.ofString "Chance") [] [], .int top, .int props, W0] .non [some (chD true top props w), some (.int top), some (.int props), some W] := by
  intro q x h
  have hS : fz W = true := by rw [← h0]; exact fz_frz W0
  have hW : isiT W = true := by cases W <;> simp [isRow] at hT <;> rfl
  have f1 : GI.fns "check_whole" = some s_check_whole := rfl
  have f2 : GI.fns "is_row" = some s_is_row := rfl
  unfold s_Chance_init semF
  refine ⟨rfl, ?_⟩
  have e0 : m_Chance_init = .cons (nthS 0 m_Chance_init) (.cons (nthS 1 m_Chance_init) (.cons (nthS 2 m_Chance_init) (.cons (nthS 3 m_Chance_init) (.cons (nthS 4 m_Chance_init) (.cons (nthS 5 m_Chance_init) (.cons (nthS 6 m_Chance_init) (.cons (nthS 7 m_Chance_init) (.cons (nthS 8 m_Chance_init) .nil)))))))) := rfl
  have n0 : nthS 0 m_Chance_init = .expr (.call "check_whole" (.cons (.var 1) (.cons (.str "top") (.cons (.int 1) .nil)))) := rfl
  have n1 : nthS 1 m_Chance_init = .expr (.call "check_whole" (.cons (.var 2) (.cons (.str "props") (.cons (.int 0) .nil)))) := rfl
  have n2 : nthS 2 m_Chance_init = .iff (.cmp .Gt (.var 2) (.var 1)) (.cons (.raise "BadNumber" (.cons (.str "props") .nil)) .nil) .nil := rfl
  have n3 : nthS 3 m_Chance_init = .iff (.bop false (.cons (.nt (.call "is_row" (.cons (.fv 3) .nil))) (.cons (.cmp .NotEq (.blt .len (.cons (.fv 3) .nil)) (.bin .Add (.bin .Sub (.var 1) (.var 2)) (.int 1))) .nil))) (.cons (.raise "BadWeights" (.cons (.neg (.int 1)) .nil)) .nil) .nil := rfl
  have n4 : nthS 4 m_Chance_init = .forr [4] (.rng (.cons (.blt .len (.cons (.fv 3) .nil)) .nil)) (bodyF (nthS 4 m_Chance_init)) := rfl
  have n5 : nthS 5 m_Chance_init = .setf 0 "top" (.var 1) := rfl
  have n6 : nthS 6 m_Chance_init = .setf 0 "props" (.var 2) := rfl
  have n7 : nthS 7 m_Chance_init = .setf 0 "weights" (.blt .tuple1 (.cons (.fv 3) .nil)) := rfl
  have n8 : nthS 8 m_Chance_init = .setf 0 "sums" (.blt .tuple1 (.cons (tailE 3 4) .nil)) := rfl
  rw [e0, runs_c, n0]
  simp [run, ev, evr, asR, f1, callW, takeA, fz]
  refine w_check_whole (by omega) _ _ ?_
  simp only [putA_v]
  unfold putA
  rw [runs_c, n1]
  simp [run, ev, evr, asR, f1, callW, takeA, fz]
  refine w_check_whole (by omega) _ _ ?_
  simp only [putA_v]
  unfold putA
  rw [runs_c, n2]
  simp [run, ev, asR, rv, cmpW, intW, fz]
  rw [if_neg (by omega), runs_0]
  dsimp only
  rw [runs_c, n3]
  rw [run_iff, ev_bopc, ev_nt]
  refine ev_call_fv f2 (d := W0) rfl ?_
  rw [h0]
  refine w_is_row hW _ _ ?_
  simp only [hT]
  refine ⟨_, rfl, _, rfl, ?_⟩
  rw [if_pos (show (!true) = false from rfl), ev_bop1]
  have e3 : (w.length : Int) = (top : Int) - (props : Int) + 1 := by omega
  simp [ev, evr, asR, rvs, rv, hS, bltW, lenW_of hI, e3, bopW, addW, subW, fz, cmpW, eqW, dat, deq]
  rw [runs_0]
  dsimp only
  rw [runs_c, n4, run_forr]
  simp [evSrc, evs, ev, evr, asR, rvs, rv, hS, bltW, lenW_of hI]
  refine ⟨by omega, ?_⟩
  rw [rgL_0]
  refine ini_loop hS hI (fun y => ?_) w.length 0 none (by omega)
  rw [runs_c, n5]
  simp [run, ev, fz]
  refine ⟨by decide, ?_⟩
  rw [runs_c, n6]
  simp [run, ev, fz]
  refine ⟨by decide, by decide, ?_⟩
  rw [runs_c, n7]
  simp [run, ev, evr, asR, rvs, rv, hS, bltW, hI, fz]
  refine ⟨by decide, by decide, ?_⟩
  rw [runs_1, n8]
  have hA : ∀ (f : En → (D → En → Prop) → Xp → Prop) en Q X, asR (tailE 3 4) f en Q X = f en (fun d en' => Q (.v d) en') X := fun _ _ _ _ => rfl
  have hE := fun (en : En) Q X => lc_tails (G := GI) (i := 3) (j := 4) (en := en) (Q := Q) (X := X) hS hI (by omega)
  generalize tailE 3 4 = E0 at hA hE ⊢
  simp only [run, ev, evr, hA]
  refine hE _ _ _ rfl (by decide) (by simp) ?_
  simp only [List.set_cons_succ, List.set_cons_zero, rvs, rv, bltW, itms]
  refine ⟨_, rfl, by simp, ?_⟩
  simp [back]
  refine ⟨by decide, by decide, ?_⟩
  exact h
end Pf

namespace Pf
open PySem PySem.Spec PyProof.Rows L2
def Sm64 (l : List Int) : Prop := ∀ a ∈ l, -(2 ^ 64) < a ∧ a < 2 ^ 64
theorem log2_le {n k : Nat} (h : n ≤ 2 ^ k) : n.log2 ≤ k := by
  by_cases h0 : n = 0
  · subst h0
    simp
  · have := (Nat.log2_lt h0 (k := k + 1)).mpr (by rw [Nat.pow_succ]; omega)
    omega
theorem sum_abs : ∀ (l : List Int), Sm64 l → (l.map Int.natAbs).sum ≤ l.length * 2 ^ 64
  | [], _ => by simp
  | a :: l, h => by
    have h1 := h a List.mem_cons_self
    have h2 := sum_abs l fun b hb => h b (List.mem_cons_of_mem _ hb)
    rw [List.map_cons, List.sum_cons, List.length_cons, Nat.add_mul]
    omega
theorem rise_log {l : List Int} {k : Nat} (hl : l.length ≤ 1024) (hk : k ≤ 1000) (h : Sm64 l) : (rise l k).natAbs.log2 ≤ 74000 := by
  have h1 := rise_le l k
  have h2 := sum_abs l h
  have h3 : (l.map Int.natAbs).sum ≤ 2 ^ 74 := by
    have : l.length * 2 ^ 64 ≤ 1024 * 2 ^ 64 := Nat.mul_le_mul_right _ hl
    have e : 1024 * 2 ^ 64 = 2 ^ 74 := by decide
    omega
  have h4 : ((l.map Int.natAbs).sum) ^ k ≤ (2 ^ 74) ^ k := Nat.pow_le_pow_left h3 k
  rw [← Nat.pow_mul] at h4
  have h5 : 2 ^ (74 * k) ≤ 2 ^ 74000 := Nat.pow_le_pow_right (by omega) (by omega)
  exact log2_le (Nat.le_trans h1 (Nat.le_trans h4 h5))
structure Wk (top props : Nat) (w : List Int) : Prop where
  t1 : 1 ≤ top
  pt : props ≤ top
  len : w.length = top - props + 1
  t2 : top ≤ 1000
  tb : Sm64 (tailsI w)
  wb : Sm64 w
section
variable {top props : Nat} {w : List Int} (W : Wk top props w)
include W
theorem w_total : Ret s_total_share [chD false top props w] (.int (rise (tailsI w) props)) [some (chD false top props w)] := by
  intro q x h
  have f1 : (mkH fs15 ms0 fkL exL emL ciL).fns "rising_sum" = some s_rising_sum := rfl
  unfold s_total_share semF
  refine ⟨rfl, ?_⟩
  have e0 : m_total_share = .cons (.ret (.call "rising_sum" (.cons (.fld (.var 0) "sums") (.cons (.fld (.var 0) "props") .nil)))) .nil := rfl
  rw [e0, runs_1, run_ret rfl, ev_call, evr_c, asR_fld]
  refine ev_sums rfl ?_
  rw [evr_c, asR_fld]
  refine ev_props rfl ?_
  rw [evr_0, f1, callW_some (by rfl)]
  refine w_rising (S0 := .tup ((tailsI w).map .int)) (S := .tup ((tailsI w).map .int)) (frz_of _ (fz_tup_ints _)) rfl rfl (by rw [tailsI_len, W.len]; have := W.t2; omega) (by have := W.t2; have := W.pt; omega) W.tb _ _ ?_
  simp only [putA_v]
  simpa [back, putA] using h
theorem w_empty : Ret s_empty_sum [chD false top props w] (.int (rise ((tailsI w).drop 1) props)) [some (chD false top props w)] := by
  intro q x h
  have f1 : (mkH fs14 ms0 fkL exL emL ciL).fns "rising_sum" = some s_rising_sum := rfl
  unfold s_empty_sum semF
  refine ⟨rfl, ?_⟩
  have e0 : m_empty_sum = .cons (.ret (.call "rising_sum" (.cons (.slc (.fld (.var 0) "sums") (.so (.int 1)) .no) (.cons (.fld (.var 0) "props") .nil)))) .nil := rfl
  rw [e0, runs_1, run_ret rfl, ev_call, evr_c, asR_n rfl, ev_slc, asR_fld]
  refine ev_sums rfl ?_
  simp only [evO, ev_int, rv]
  refine ⟨_, rfl, ?_⟩
  unfold slW
  refine ⟨by simp, ?_⟩
  rw [show (1 : Int) = ((1 : Nat) : Int) from rfl, cut_from, ← List.map_drop]
  dsimp only
  rw [evr_c, asR_fld]
  refine ev_props rfl ?_
  rw [evr_0, f1, callW_some (by rfl)]
  refine w_rising (S0 := .tup (((tailsI w).drop 1).map .int)) (S := .tup (((tailsI w).drop 1).map .int)) (frz_of _ (fz_tup_ints _)) rfl rfl (by rw [List.length_drop, tailsI_len, W.len]; have := W.t2; omega) (by have := W.t2; have := W.pt; omega) (fun a ha => W.tb a (List.mem_of_mem_drop ha)) _ _ ?_
  simp only [putA_v]
  simpa [back, putA] using h
def thrownI (w : List Int) (props free : Nat) : Int := if props = 0 then 0 else w.getD free 0 * tl w 0 * rise (tailsI w) (props - 1)
theorem w_thrown {free : Nat} (hf : free < w.length) : Ret s_thrown_sum [chD false top props w, .int free] (.int (thrownI w props free)) [some (chD false top props w), some (.int free)] := by
  intro q x h
  have f1 : (mkH fs5 ms0 fkL exL emL ciL).fns "rising_sum" = some s_rising_sum := rfl
  have f2 : (mkH fs5 ms0 fkL exL emL ciL).fns "check_whole" = some s_check_whole := rfl
  unfold s_thrown_sum semF
  refine ⟨rfl, ?_⟩
  have e0 : m_thrown_sum = .cons (nthS 0 m_thrown_sum) (.cons (nthS 1 m_thrown_sum) (.cons (nthS 2 m_thrown_sum) (.cons (nthS 3 m_thrown_sum) .nil))) := rfl
  have n0 : nthS 0 m_thrown_sum = .expr (.call "check_whole" (.cons (.var 1) (.cons (.str "free") (.cons (.int 0) .nil)))) := rfl
  have n1 : nthS 1 m_thrown_sum = .iff (.cmp .GtE (.var 1) (.blt .len (.cons (.fld (.var 0) "weights") .nil))) (.cons (.raise "BadNumber" (.cons (.str "free") .nil)) .nil) .nil := rfl
  have n2 : nthS 2 m_thrown_sum = .iff (.cmp .Eq (.fld (.var 0) "props") (.int 0)) (.cons (.ret (.int 0)) .nil) .nil := rfl
  have n3 : nthS 3 m_thrown_sum = .ret (.bin .Mult (.bin .Mult (.idx (.fld (.var 0) "weights") (.var 1)) (.idx (.fld (.var 0) "sums") (.int 0))) (.call "rising_sum" (.cons (.fld (.var 0) "sums") (.cons (.bin .Sub (.fld (.var 0) "props") (.int 1)) .nil)))) := rfl
  rw [e0, runs_c, n0]
  simp [run, ev, evr, asR, f2, callW, takeA, fz]
  refine w_check_whole (by omega) _ _ ?_
  simp only [putA_v]
  unfold putA
  rw [runs_c, n1, run_iff, ev_cmp]
  have hv : ∀ (f : En → (D → En → Prop) → Xp → Prop) (Q : R → En → Prop) X, asR (.var 1) f [some (chD false top props w), some (.int free)] Q X = Q (.v (.int free)) [some (chD false top props w), some (.int free)] := fun _ _ _ => rfl
  rw [hv, asR_n rfl, ev_blt, evr_c, asR_fld]
  refine ev_weights rfl ?_
  rw [evr_0]
  simp [rvs, rv, bltW, lenW, cmpW, intW]
  rw [if_neg (by omega), runs_0]
  dsimp only
  rw [runs_c, n2, run_iff, ev_cmp, asR_fld]
  refine ev_props rfl ?_
  rw [asR_n rfl]
  simp [ev, rv, cmpW, eqW, dat, deq]
  by_cases hp : props = 0
  · subst hp
    rw [if_pos rfl, runs_1, run_ret rfl]
    simp only [ev, back]
    unfold thrownI at h
    rw [if_pos rfl] at h
    exact h
  · rw [if_neg (by omega), runs_0]
    dsimp only
    rw [runs_1, n3, run_ret rfl, ev_bin, asR_n rfl, ev_bin, asR_n rfl, ev_idx, asR_fld]
    refine ev_weights rfl ?_
    have a1 := atI_int (xs := w) (i := free) hf
    have a2 := tailsI_at w (i := 0) (by omega)
    rw [ev_vf (d := .int (free : Int)) rfl rfl]
    simp only [rv]
    refine ixW_of rfl a1 ⟨fun _ => rfl, ?_⟩
    rw [asR_n rfl, ev_idx, asR_fld]
    refine ev_sums rfl ?_
    rw [ev_int]
    simp only [rv]
    refine ixW_of rfl a2 ⟨fun _ => rfl, ?_⟩
    have hw := W.wb w[free] (List.getElem_mem _)
    have ht : -(2 ^ 64) < tl w 0 ∧ tl w 0 < 2 ^ 64 := W.tb _ (List.mem_map.mpr ⟨0, List.mem_range.mpr (by omega), rfl⟩)
    simp only [bopW, mulW, rv]
    refine ⟨.inl hw, ?_⟩
    rw [asR_n rfl, ev_call, evr_c, asR_fld]
    refine ev_sums rfl ?_
    rw [evr_c, asR_n rfl, ev_bin, asR_fld]
    refine ev_props rfl ?_
    rw [asR_n rfl, ev_int]
    simp only [rv, bopW, subW]
    rw [evr_0, f1, show (props : Int) - 1 = ((props - 1 : Nat) : Int) by omega, callW_some (by rfl)]
    refine w_rising (S0 := .tup ((tailsI w).map .int)) (S := .tup ((tailsI w).map .int)) (frz_of _ (fz_tup_ints _)) rfl rfl (by rw [tailsI_len, W.len]; have := W.t2; omega) (by have := W.t2; have := W.pt; omega) W.tb _ _ ?_
    simp only [putA_v]
    unfold putA
    try simp only [rv, bopW, mulW]
    refine ⟨.inr (.inr ?_), ?_⟩
    · have l1 := rise_log (l := tailsI w) (k := props - 1) (by rw [tailsI_len, W.len]; have := W.t2; omega) (by have := W.t2; have := W.pt; omega) W.tb
      have l2 : (w[free] * tl w 0).natAbs.log2 ≤ 128 := by
        refine log2_le ?_
        rw [Int.natAbs_mul]
        have : w[free].natAbs * (tl w 0).natAbs ≤ 2 ^ 64 * 2 ^ 64 := Nat.mul_le_mul (by omega) (by omega)
        have e : (2 : Nat) ^ 64 * 2 ^ 64 = 2 ^ 128 := by decide
        omega
      omega
    · unfold thrownI at h
      rw [if_neg hp, List.getD_eq_getElem?_getD, List.getElem?_eq_getElem hf, Option.getD_some] at h
      simp only [back]
      exact h
end
end Pf

namespace Pf
open PySem PySem.Spec PyProof.Rows L2
def rI (r : List Nat) : List Int := r.map fun x : Nat => (x : Int)
theorem rI_len (r : List Nat) : (rI r).length = r.length := by simp [rI]
theorem rI_at {r : List Nat} {i : Nat} (h : i < r.length) : atI ((rI r).map D.int) (i : Int) = some (.int (r[i] : Int)) := by
  rw [atI_int (by rw [rI_len]; exact h)]
  simp [rI]
/-- a row of so many places below top, in order -/
structure Up (top props : Nat) (r : List Nat) : Prop where
  lt : r.Pairwise (· < ·)
  top : ∀ x ∈ r, x < top
  len : r.length = props
theorem up_gap {r : List Nat} (h : r.Pairwise (· < ·)) : ∀ (d i : Nat) (hi : i + d < r.length), r[i] + d ≤ r[i + d]
  | 0, i, hi => Nat.le_refl _
  | d + 1, i, hi => by
    have h1 := up_gap h d i (by omega)
    have h2 := List.pairwise_iff_getElem.mp h (i + d) (i + (d + 1)) (by omega) hi (by omega)
    omega
theorem up_ge {r : List Nat} (h : r.Pairwise (· < ·)) {i : Nat} (hi : i < r.length) : i ≤ r[i] := by
  have := up_gap h i 0 (by omega)
  simp only [Nat.zero_add] at this
  omega
theorem Up.le {top props : Nat} {r : List Nat} (u : Up top props r) {i : Nat} (hi : i < r.length) : r[i] - i < top - props + 1 := by
  have h1 := up_gap u.lt (r.length - 1 - i) i (by omega)
  have h2 := u.top (r[i + (r.length - 1 - i)]'(by omega)) (List.getElem_mem _)
  have h3 := u.len
  omega
def shM : Nat → List Nat → List Nat
  | _, [] => []
  | j, x :: r => (x - j) :: shM (j + 1) r
/-- the product over a row -/
def shV (w : List Int) (r : List Nat) : Int := evM (tl w) (shM 0 r)
theorem sh_loop {top props : Nat} {w : List Int} {r : List Nat} {O : D} {fin : En → Prop} {rt : D → En → Prop} {bk : En → Prop} {ex : Xp} (W : Wk top props w) (u : Up top props r) : ∀ (n s : Nat) (v : Int) (y : Option D), s + n = r.length → (∀ y, fin [some (chD false top props w), some O, some (.tup ((rI r).map .int)), some (.int ((shM s (r.drop s)).foldl (fun a i => a * tl w i) v)), y]) →
    frW [4] (fun e2 K => runs (mkH fs18 ms1 fkL exL emL ciL) (bodyF (nthS 2 m_Chance_share)) e2 { nx := K, rt := rt, bk := bk, ct := K, ex := ex }) fin ((List.range' s n).map fun i : Nat => D.int (i : Int)) [some (chD false top props w), some O, some (.tup ((rI r).map .int)), some (.int v), y]
  | 0, s, v, y, hs, hf => by
    have e : r.drop s = [] := List.drop_eq_nil_of_le (by omega)
    rw [e] at hf
    exact hf y
  | n + 1, s, v, y, hs, hf => by
    have hl : s < r.length := by omega
    have ih := sh_loop (O := O) (fin := fin) (rt := rt) (bk := bk) (ex := ex) W u n (s + 1) (v * tl w (r[s] - s)) (some (.int (s : Int))) (by omega) (by
      rw [List.drop_eq_getElem_cons hl] at hf
      exact hf)
    rw [List.range'_succ, List.map_cons, frW]
    simp only [bindW, List.set_cons_succ, List.set_cons_zero]
    have eb : bodyF (nthS 2 m_Chance_share) = .cons (.asg 3 (.bin .Mult (.var 3) (.idx (.fld (.var 0) "sums") (.bin .Sub (.idx (.var 2) (.var 4)) (.var 4))))) .nil := rfl
    rw [eb] at ih ⊢
    have g1 := up_ge u.lt hl
    have g2 := u.le hl
    rw [runs_1, run_asg, ev_bin, asR_vf (d := .int v) rfl rfl, asR_n rfl, ev_idx, asR_fld]
    refine ev_sums rfl ?_
    rw [ev_bin, asR_n rfl, ev_idx, asR_vf (d := .tup ((rI r).map .int)) rfl (fz_tup_ints _), ev_vf (d := .int (s : Int)) rfl rfl]
    simp only [rv]
    refine ixW_of rfl (rI_at hl) ⟨fun _ => rfl, ?_⟩
    rw [asR_vf (d := .int (s : Int)) rfl rfl]
    simp only [rv, bopW, subW]
    rw [show (r[s] : Int) - (s : Int) = ((r[s] - s : Nat) : Int) by omega]
    have hw : r[s] - s < w.length := by rw [W.len]; exact g2
    refine ixW_of rfl (tailsI_at w hw) ⟨fun _ => rfl, ?_⟩
    simp only [mulW]
    refine ⟨.inr (.inl (W.tb _ (List.mem_map.mpr ⟨_, List.mem_range.mpr hw, rfl⟩))), ?_⟩
    exact ih
theorem so_loop {top props : Nat} {w : List Int} {r : List Nat} {O : D} {fin : En → Prop} {rt : D → En → Prop} {bk : En → Prop} {ex : Xp} (hO : fz O = true) (hI : itms O = some ((rI r).map .int)) (u : Up top props r) (hf : ∀ y, fin [some (chD false top props w), some O, y]) : ∀ (n s : Nat) (y : Option D), s + n = r.length →
    frW [2] (fun e2 K => runs (mkH fs17 ms1 fkL exL emL ciL) (bodyF (nthS 1 m__set_of)) e2 { nx := K, rt := rt, bk := bk, ct := K, ex := ex }) fin ((List.range' s n).map fun i : Nat => D.int (i : Int)) [some (chD false top props w), some O, y]
  | 0, s, y, hs => hf y
  | n + 1, s, y, hs => by
    have hl : s < r.length := by omega
    have ih := so_loop (w := w) (rt := rt) (bk := bk) (ex := ex) hO hI u hf n (s + 1) (some (.int (s : Int))) (by omega)
    rw [List.range'_succ, List.map_cons, frW]
    simp only [bindW, List.set_cons_succ, List.set_cons_zero]
    have f2 : (mkH fs17 ms1 fkL exL emL ciL).fns "is_whole" = some s_is_whole := rfl
    have eb : bodyF (nthS 1 m__set_of) = .cons (.iff (.bop false (.cons (.nt (.call "is_whole" (.cons (.idx (.fv 1) (.var 2)) .nil))) (.cons (.cmp .Lt (.idx (.fv 1) (.var 2)) (.int 0)) (.cons (.cmp .GtE (.idx (.fv 1) (.var 2)) (.fld (.var 0) "top")) .nil)))) (.cons (.raise "BadSet" (.cons (.var 2) .nil)) .nil) .nil) (.cons (.iff (.cmp .In (.idx (.fv 1) (.var 2)) (.slc (.fv 1) .no (.so (.var 2)))) (.cons (.raise "BadSet" (.cons (.var 2) .nil)) .nil) .nil) .nil) := rfl
    rw [eb] at ih ⊢
    have hx : ∀ {G : Gb} {Q : D → En → Prop} {X : Xp}, Q (.int (r[s] : Int)) [some (chD false top props w), some O, some (.int (s : Int))] → ev G (.idx (.fv 1) (.var 2)) [some (chD false top props w), some O, some (.int (s : Int))] Q X := by
      intro G Q X hq
      rw [ev_idx, asR_fv, ev_fvf (d := O) rfl hO, ev_vf (d := .int (s : Int)) rfl rfl]
      simp only [rv]
      exact ixW_of hI (rI_at hl) ⟨fun _ => rfl, hq⟩
    rw [runs_c, run_iff, ev_bopc, ev_nt, ev_call, evr_c, asR_n rfl]
    refine hx ?_
    rw [evr_0, f2, callW_some (by rfl)]
    refine w_is_whole rfl _ _ ?_
    refine ⟨_, rfl, _, rfl, ?_⟩
    simp only [putA_v]
    unfold putA
    rw [if_pos (show (!whole (.int (r[s] : Int))) = false from rfl), ev_bopc, ev_cmp, asR_n rfl]
    refine hx ?_
    rw [asR_n rfl, ev_int]
    simp only [rv, cmpW, intW]
    refine ⟨_, rfl, ?_⟩
    have hd : decide ((r[s] : Int) < 0) = false := decide_eq_false (by omega)
    rw [if_pos hd, ev_bop1, ev_cmp, asR_n rfl]
    refine hx ?_
    rw [asR_fld]
    refine ev_top rfl ?_
    simp only [rv, cmpW, intW]
    have ht := u.top r[s] (List.getElem_mem _)
    refine ⟨_, rfl, ?_⟩
    rw [if_neg (by simp; omega), runs_0]
    dsimp only
    rw [runs_1, run_iff, ev_cmp, asR_n rfl]
    refine hx ?_
    rw [asR_n rfl, ev_slc, asR_fv, ev_fvf (d := O) rfl hO]
    simp only [evO]
    rw [ev_vf (d := .int (s : Int)) rfl rfl]
    refine ⟨_, rfl, ?_⟩
    simp only [rv]
    refine slW_of hI (by simp) fun d hd => ?_
    rw [cut_to, ← List.map_take] at hd
    simp only [rv, cmpW, inW]
    rw [hd]
    simp only [all_flat_ints, Pf.flat]
    refine ⟨⟨trivial, trivial⟩, ?_⟩
    rw [any_deq]
    have hn : ((rI r).take s).contains (r[s] : Int) = false := by
      rw [List.contains_eq_mem, decide_eq_false_iff_not]
      intro hm
      obtain ⟨i, hi, e⟩ := List.mem_iff_getElem.mp hm
      simp only [rI, List.getElem_take, List.getElem_map] at e
      have hi2 : i < s := by
        rw [List.length_take] at hi
        omega
      have := List.pairwise_iff_getElem.mp u.lt i s (by omega) hl hi2
      omega
    rw [hn]
    refine ⟨_, rfl, ?_⟩
    rw [if_neg (by decide), runs_0]
    exact ih
theorem sort_up {r : List Nat} (h : r.Pairwise (· < ·)) : sortI (rI r) = rI r := by
  refine (sortI_of (List.Perm.refl _) ?_).symm
  unfold rI
  rw [List.pairwise_map]
  exact h.imp fun h => by omega
theorem w_set_of {top props : Nat} {w : List Int} {r : List Nat} {O0 O : D} (h0 : frz O0 = O) (hT : isRow O = true) (hI : itms O = some ((rI r).map .int)) (u : Up top props r) (hz : top ≤ 1000) : Ret s__set_of [chD false top props w, O0] (.tup ((rI r).map .int)) [some (chD false top props w), some O] := by
  intro q x h
  have hO : fz O = true := by rw [← h0]; exact fz_frz O0
  have hW : isiT O = true := by cases O <;> simp [isRow] at hT <;> rfl
  have f1 : (mkH fs17 ms1 fkL exL emL ciL).fns "is_row" = some s_is_row := rfl
  unfold s__set_of semF
  refine ⟨rfl, ?_⟩
  have e0 : m__set_of = .cons (.iff (.bop false (.cons (.nt (.call "is_row" (.cons (.fv 1) .nil))) (.cons (.cmp .NotEq (.blt .len (.cons (.fv 1) .nil)) (.fld (.var 0) "props")) .nil))) (.cons (.raise "BadSet" (.cons (.neg (.int 1)) .nil)) .nil) .nil) (.cons (.forr [2] (.rng (.cons (.blt .len (.cons (.fv 1) .nil)) .nil)) (bodyF (nthS 1 m__set_of))) (.cons (.ret (.blt .tuple1 (.cons (.blt .sorted (.cons (.fv 1) .nil)) .nil))) .nil)) := rfl
  rw [e0, runs_c, run_iff, ev_bopc, ev_nt]
  refine ev_call_fv f1 (d := O0) rfl ?_
  rw [h0]
  refine w_is_row hW _ _ ?_
  rw [hT]
  refine ⟨_, rfl, _, rfl, ?_⟩
  have hul := u.len
  have hle : props ≤ 1000 := by
    rcases Nat.eq_zero_or_pos props with h | h
    · omega
    · have := up_ge u.lt (i := props - 1) (by omega)
      have := u.top r[props - 1] (List.getElem_mem (h := by omega))
      omega
  rw [if_pos (show (!true) = false from rfl), ev_bop1, ev_cmp, asR_n rfl, ev_blt, evr_c, asR_fv, ev_fvf (d := O) rfl hO, evr_0]
  simp only [rvs, rv, bltW]
  rw [lenW_of hI, asR_fld]
  refine ev_props rfl ?_
  simp only [rv, cmpW, eqW, dat, deq, List.length_map, rI_len, hul]
  refine ⟨⟨trivial, trivial⟩, _, rfl, ?_⟩
  rw [if_neg (by simp), runs_0]
  dsimp only
  rw [runs_c, run_forr]
  simp only [evSrc, evs]
  rw [ev_blt, evr_c, asR_fv, ev_fvf (d := O) rfl hO, evr_0]
  simp only [rvs, rv, bltW]
  rw [lenW_of hI]
  simp only [List.length_map, rI_len]
  refine ⟨by omega, ?_⟩
  rw [rgL_0]
  refine so_loop hO hI u (fun y => ?_) r.length 0 _ (by omega)
  rw [runs_1, run_ret rfl, ev_blt, evr_c, asR_n rfl, ev_blt, evr_c, asR_fv, ev_fvf (d := O) rfl hO, evr_0]
  simp only [rvs, rv, bltW]
  refine ⟨_, hI, ?_⟩
  dsimp only
  rw [evr_0, sort_up u.lt]
  simp only [rvs, rv, bltW, itms]
  refine ⟨_, rfl, by simp, ?_⟩
  simp only [back]
  simpa using h
theorem w_share {top props : Nat} {w : List Int} {r : List Nat} {O0 O : D} (h0 : frz O0 = O) (hT : isRow O = true) (hI : itms O = some ((rI r).map .int)) (W : Wk top props w) (u : Up top props r) : Ret s_Chance_share [chD false top props w, O0] (.int (shV w r)) [some (chD false top props w), some O] := by
  intro q x h
  have hO : fz O = true := by rw [← h0]; exact fz_frz O0
  have f1 : (mkH fs18 ms1 fkL exL emL ciL).fns "_set_of" = some s__set_of := rfl
  unfold s_Chance_share semF
  refine ⟨rfl, ?_⟩
  have e0 : m_Chance_share = .cons (.asg 2 (.call "_set_of" (.cons (.var 0) (.cons (.fv 1) .nil)))) (.cons (.asg 3 (.int 1)) (.cons (.forr [4] (.rng (.cons (.blt .len (.cons (.var 2) .nil)) .nil)) (bodyF (nthS 2 m_Chance_share))) (.cons (.ret (.var 3)) .nil))) := rfl
  rw [e0, runs_c, run_asg, ev_call, evr_c, asR_vf (d := chD false top props w) rfl (fz_ch _ _ _), evr_c, asR_fv]
  refine ev_fv (d := O0) rfl ?_
  rw [h0, evr_0, f1, callW_some (by rfl)]
  refine w_set_of (O0 := O) (frz_of _ hO) hT hI u W.t2 _ _ ?_
  simp only [putA_v]
  unfold putA
  rw [runs_c, run_asg, ev_int]
  dsimp only
  rw [runs_c, run_forr]
  simp only [List.set_cons_succ, List.set_cons_zero, List.map_cons, List.map_nil, List.cons_append, List.nil_append, List.replicate]
  simp only [evSrc, evs]
  rw [ev_blt, evr_c, asR_vf (d := .tup ((rI r).map .int)) rfl (fz_tup_ints _), evr_0]
  simp only [rvs, rv, bltW]
  rw [lenW_of rfl]
  simp only [List.length_map, rI_len]
  have hle : r.length ≤ 1000 := by
    rw [u.len]
    exact Nat.le_trans W.pt W.t2
  refine ⟨by omega, ?_⟩
  rw [rgL_0]
  refine sh_loop W u r.length 0 1 _ (by omega) fun y => ?_
  rw [runs_1]
  simp only [run, List.getElem?_cons_succ, List.getElem?_cons_zero, Option.join_some, fz, if_true, back]
  exact h
end Pf

namespace Pf
open PySem PySem.Spec PyProof.Rows L2
theorem ls_loop {top props : Nat} {w : List Int} {r : List Nat} {T O : D} {fin : En → Prop} {rt : D → En → Prop} {bk : En → Prop} {ex : Xp} (hT : fz T = true) (hTI : itms T = some ((tailsI w).map .int)) (hO : fz O = true) (hI : itms O = some ((rI r).map .int)) (W : Wk top props w) (u : Up top props r) : ∀ (n s : Nat) (v : Int) (y : Option D), s + n = r.length → (∀ y, fin [some T, some O, some (.int ((shM s (r.drop s)).foldl (fun a i => a * tl w i) v)), y]) →
    frW [3] (fun e2 K => runs (mkH fs23 ms2 fkL exL emL ciL) (bodyF (nthS 1 m__law_share)) e2 { nx := K, rt := rt, bk := bk, ct := K, ex := ex }) fin ((List.range' s n).map fun i : Nat => D.int (i : Int)) [some T, some O, some (.int v), y]
  | 0, s, v, y, hs, hf => by
    have e : r.drop s = [] := List.drop_eq_nil_of_le (by omega)
    rw [e] at hf
    exact hf y
  | n + 1, s, v, y, hs, hf => by
    have hl : s < r.length := by omega
    have ih := ls_loop (fin := fin) (rt := rt) (bk := bk) (ex := ex) hT hTI hO hI W u n (s + 1) (v * tl w (r[s] - s)) (some (.int (s : Int))) (by omega) (by
      rw [List.drop_eq_getElem_cons hl] at hf
      exact hf)
    rw [List.range'_succ, List.map_cons, frW]
    simp only [bindW, List.set_cons_succ, List.set_cons_zero]
    have eb : bodyF (nthS 1 m__law_share) = .cons (.asg 2 (.bin .Mult (.var 2) (.idx (.fv 0) (.bin .Sub (.idx (.fv 1) (.var 3)) (.var 3))))) .nil := rfl
    rw [eb] at ih ⊢
    have g1 := up_ge u.lt hl
    have g2 := u.le hl
    rw [runs_1, run_asg, ev_bin, asR_vf (d := .int v) rfl rfl, asR_n rfl, ev_idx, asR_fv, ev_fvf (d := T) rfl hT]
    rw [ev_bin, asR_n rfl, ev_idx, asR_fv, ev_fvf (d := O) rfl hO, ev_vf (d := .int (s : Int)) rfl rfl]
    simp only [rv]
    refine ixW_of hI (rI_at hl) ⟨fun _ => rfl, ?_⟩
    rw [asR_vf (d := .int (s : Int)) rfl rfl]
    simp only [rv, bopW, subW]
    rw [show (r[s] : Int) - (s : Int) = ((r[s] - s : Nat) : Int) by omega]
    have hw : r[s] - s < w.length := by rw [W.len]; exact g2
    refine ixW_of hTI (tailsI_at w hw) ⟨fun _ => rfl, ?_⟩
    simp only [mulW]
    refine ⟨.inr (.inl (W.tb _ (List.mem_map.mpr ⟨_, List.mem_range.mpr hw, rfl⟩))), ?_⟩
    exact ih
theorem w_law_share {top props : Nat} {w : List Int} {r : List Nat} {T O : D} (hT : fz T = true) (hTI : itms T = some ((tailsI w).map .int)) (hO : fz O = true) (hI : itms O = some ((rI r).map .int)) (W : Wk top props w) (u : Up top props r) : Ret s__law_share [T, O] (.int (shV w r)) [some T, some O] := by
  intro q x h
  unfold s__law_share semF
  refine ⟨rfl, ?_⟩
  have e0 : m__law_share = .cons (.asg 2 (.int 1)) (.cons (.forr [3] (.rng (.cons (.blt .len (.cons (.fv 1) .nil)) .nil)) (bodyF (nthS 1 m__law_share))) (.cons (.ret (.var 2)) .nil)) := rfl
  rw [e0, runs_c, run_asg, ev_int]
  dsimp only
  rw [runs_c, run_forr]
  simp only [List.set_cons_succ, List.set_cons_zero, List.map_cons, List.map_nil, List.cons_append, List.nil_append, List.replicate]
  simp only [evSrc, evs]
  rw [ev_blt, evr_c, asR_fv, ev_fvf (d := O) rfl hO, evr_0]
  simp only [rvs, rv, bltW]
  rw [lenW_of hI]
  simp only [List.length_map, rI_len]
  have hle : r.length ≤ 1000 := by
    rw [u.len]
    exact Nat.le_trans W.pt W.t2
  refine ⟨by omega, ?_⟩
  rw [rgL_0]
  refine ls_loop hT hTI hO hI W u r.length 0 1 _ (by omega) fun y => ?_
  rw [runs_1]
  simp only [run, List.getElem?_cons_succ, List.getElem?_cons_zero, Option.join_some, fz, if_true, back]
  exact h
/-! ### all rows -/
def tD (r : List Nat) : D := .tup ((rI r).map .int)
def lowC (r : List Nat) : Nat := match r.getLast? with
  | none => 0
  | some x => x + 1
def stepC (top : Nat) (r : List Nat) : List (List Nat) := (List.range' (lowC r) (top - lowC r)).map fun p => r ++ [p]
def choP (top : Nat) : Nat → List (List Nat)
  | 0 => [[]]
  | m + 1 => (choP top m).flatMap (stepC top)
def pairs7 : List (Nat × Nat) := (List.range 7).flatMap fun t => (List.range (t + 2)).map fun p => (t + 1, p)
def upB (top props : Nat) (r : List Nat) : Bool := decide (r.Pairwise (· < ·)) && (r.all (fun x => decide (x < top)) && decide (r.length = props))
theorem cho_ok : pairs7.all (fun c => (choP c.1 c.2).all (upB c.1 c.2) && decide ((choP c.1 c.2).length ≤ 1000)) = true := by decide +kernel
theorem pairs_mem {top props : Nat} (h1 : 1 ≤ top) (h2 : top ≤ 7) (h3 : props ≤ top) : (top, props) ∈ pairs7 :=
  List.mem_flatMap.mpr ⟨top - 1, List.mem_range.mpr (by omega), List.mem_map.mpr ⟨props, List.mem_range.mpr (by omega), by rw [show top - 1 + 1 = top by omega]⟩⟩
theorem cho_up {top props : Nat} (h1 : 1 ≤ top) (h2 : top ≤ 7) (h3 : props ≤ top) : (∀ r ∈ choP top props, Up top props r) ∧ (choP top props).length ≤ 1000 := by
  have h := List.all_eq_true.mp cho_ok _ (pairs_mem h1 h2 h3)
  rw [Bool.and_eq_true] at h
  refine ⟨fun r hr => ?_, of_decide_eq_true h.2⟩
  have := List.all_eq_true.mp h.1 r hr
  unfold upB at this
  rw [Bool.and_eq_true, Bool.and_eq_true] at this
  exact ⟨of_decide_eq_true this.1, fun x hx => of_decide_eq_true (List.all_eq_true.mp this.2.1 x hx), of_decide_eq_true this.2.2⟩
theorem rgL_nn (a b : Nat) : rgL (a : Int) (b : Int) = (List.range' a (b - a)).map fun i : Nat => D.int (i : Int) := by
  unfold rgL
  rw [show ((b : Int) - (a : Int)).toNat = b - a by omega, List.range'_eq_map_range, List.map_map]
  refine List.map_congr_left fun i _ => ?_
  simp
theorem tD_app (r : List Nat) (p : Nat) : D.tup ((rI r).map D.int ++ [.int (p : Int)]) = tD (r ++ [p]) := by
  unfold tD rI
  simp
theorem ch_in {A B C F : Option D} {row : List Nat} {L : Option D} {fin : En → Prop} {rt : D → En → Prop} {bk : En → Prop} {ex : Xp} (hr : row.length ≤ 1000) : ∀ (n s : Nat) (Z : List D) (y : Option D), Z.length + n ≤ 100000 → (∀ y, fin [A, B, C, F, some (.lst true (Z ++ (List.range' s n).map fun p => tD (row ++ [p]))), some (tD row), L, y]) →
    frW [7] (fun e2 K => runs (mkH fs16 ms1 fkL exL emL ciL) (bodyF (nthS 2 (bodyF (nthS 1 (bodyF (nthS 1 m__law_choices)))))) e2 { nx := K, rt := rt, bk := bk, ct := K, ex := ex }) fin ((List.range' s n).map fun i : Nat => D.int (i : Int)) [A, B, C, F, some (.lst true Z), some (tD row), L, y]
  | 0, s, Z, y, hz, hf => by
    have := hf y
    simp only [List.range'_zero, List.map_nil, List.append_nil] at this
    exact this
  | n + 1, s, Z, y, hz, hf => by
    have ih := ch_in (A := A) (B := B) (C := C) (F := F) (L := L) (fin := fin) (rt := rt) (bk := bk) (ex := ex) hr n (s + 1) (Z ++ [tD (row ++ [s])]) (some (.int (s : Int))) (by rw [List.length_append, List.length_singleton]; omega) (fun y => by
      have := hf y
      rw [List.range'_succ, List.map_cons] at this
      rw [List.append_assoc]
      exact this)
    rw [List.range'_succ, List.map_cons, frW]
    simp only [bindW, List.set_cons_succ, List.set_cons_zero]
    have eb : bodyF (nthS 2 (bodyF (nthS 1 (bodyF (nthS 1 m__law_choices))))) = .cons (.expr (.mut .append 4 (.cons (.bin .Add (.var 5) (.tup (.cons (.var 7) .nil))) .nil))) .nil := rfl
    rw [eb] at ih ⊢
    rw [← tD_app] at ih
    rw [runs_1, run_expr]
    have hf5 : fz (tD row) = true := fz_tup_ints _
    simp only [ev, evs, asR, rv, List.getElem?_cons_succ, List.getElem?_cons_zero, Option.join_some, hf5, fz, if_true]
    refine ⟨⟨_, rfl⟩, ?_⟩
    unfold tD at ih ⊢
    simp only [bopW, addW, mutW]
    refine ⟨⟨by simp, by simp [fzs, fz], by simp [rI_len]; omega⟩, by omega, ?_⟩
    exact ih
theorem ch_mid {top : Nat} {B C F : Option D} {fin : En → Prop} {rt : D → En → Prop} {bk : En → Prop} {ex : Xp} (ht : top ≤ 1000) : ∀ (rows : List (List Nat)) (Z : List D) (y5 y6 y7 : Option D), (∀ r ∈ rows, r.length ≤ 1000 ∧ lowC r ≤ 100000) → Z.length + (rows.flatMap (stepC top)).length ≤ 100000 → (∀ y5 y6 y7, fin [some (.int top), B, C, F, some (.lst true (Z ++ (rows.flatMap (stepC top)).map tD)), y5, y6, y7]) →
    frW [5] (fun e2 K => runs (mkH fs16 ms1 fkL exL emL ciL) (bodyF (nthS 1 (bodyF (nthS 1 m__law_choices)))) e2 { nx := K, rt := rt, bk := bk, ct := K, ex := ex }) fin (rows.map tD) [some (.int top), B, C, F, some (.lst true Z), y5, y6, y7]
  | [], Z, y5, y6, y7, _, hz, hf => by
    have := hf y5 y6 y7
    simp only [List.flatMap_nil, List.map_nil, List.append_nil] at this
    exact this
  | r :: rows, Z, y5, y6, y7, hr, hz, hf => by
    have h1 := hr r List.mem_cons_self
    have es : (stepC top r).map tD = (List.range' (lowC r) (top - lowC r)).map fun p => tD (r ++ [p]) := by
      unfold stepC
      rw [List.map_map]
      rfl
    have el : (stepC top r).length = top - lowC r := by simp [stepC]
    rw [List.flatMap_cons, List.length_append] at hz
    have ih := fun y6 y7 => ch_mid (B := B) (C := C) (F := F) (fin := fin) (rt := rt) (bk := bk) (ex := ex) ht rows (Z ++ (stepC top r).map tD) (some (tD r)) y6 y7 (fun r' h => hr r' (List.mem_cons_of_mem _ h)) (by rw [List.length_append, List.length_map]; omega) (fun y5 y6 y7 => by
      have := hf y5 y6 y7
      rw [List.flatMap_cons, List.map_append, ← List.append_assoc] at this
      exact this)
    rw [List.map_cons, frW]
    simp only [bindW, List.set_cons_succ, List.set_cons_zero]
    have eb : bodyF (nthS 1 (bodyF (nthS 1 m__law_choices))) = .cons (.asg 6 (.int 0)) (.cons (.iff (.cmp .Gt (.blt .len (.cons (.var 5) .nil)) (.int 0)) (.cons (.asg 6 (.bin .Add (.idx (.var 5) (.neg (.int 1))) (.int 1))) .nil) .nil) (.cons (.forr [7] (.rng (.cons (.var 6) (.cons (.var 0) .nil))) (bodyF (nthS 2 (bodyF (nthS 1 (bodyF (nthS 1 m__law_choices))))))) .nil)) := rfl
    rw [eb] at ih ⊢
    have hf5 : fz (tD r) = true := fz_tup_ints _
    rw [runs_c, run_asg, ev_int]
    simp only [List.set_cons_succ, List.set_cons_zero]
    have tail : ∀ (P : Pt) (L : Nat), L = lowC r → (∀ y, P.nx [some (.int top), B, C, F, some (.lst true (Z ++ (stepC top r).map tD)), some (tD r), some (.int (lowC r : Int)), y]) → runs (mkH fs16 ms1 fkL exL emL ciL) (.cons (.forr [7] (.rng (.cons (.var 6) (.cons (.var 0) .nil))) (bodyF (nthS 2 (bodyF (nthS 1 (bodyF (nthS 1 m__law_choices))))))) .nil) [some (.int top), B, C, F, some (.lst true Z), some (tD r), some (.int L), y7] P := fun P L hL hP => by
      subst hL
      rw [runs_1, run_forr]
      simp only [evSrc, evs]
      rw [ev_vf (d := .int (lowC r : Int)) rfl rfl, ev_vf (d := .int (top : Int)) rfl rfl]
      refine ⟨by omega, ?_⟩
      rw [rgL_nn]
      refine ch_in h1.1 (top - lowC r) (lowC r) Z y7 (by omega) fun y => ?_
      rw [← es]
      exact hP _
    rw [runs_c, run_iff, ev_cmp, asR_n rfl, ev_blt, evr_c, asR_vf (d := tD r) rfl hf5, evr_0]
    simp only [rvs, rv, bltW]
    rw [lenW_of (xs := (rI r).map .int) rfl, asR_n rfl, ev_int]
    simp only [rv, cmpW, intW, List.length_map, rI_len]
    refine ⟨_, rfl, ?_⟩
    by_cases h0 : r = []
    · subst h0
      rw [if_neg (by decide), runs_0]
      dsimp only
      exact tail _ 0 rfl fun y => ih _ _
    · have hpos := List.length_pos_iff.mpr h0
      rw [if_pos (by simp; omega), runs_1, run_asg, ev_bin, asR_n rfl, ev_idx, asR_vf (d := tD r) rfl hf5]
      have hne : (rI r).map D.int ≠ [] := by simpa [rI] using h0
      have hlast : ((rI r).map D.int).getLast hne = .int ((r.getLast h0 : Nat) : Int) := by
        simp [rI, List.getLast_map]
      have a1 := atI_last hne
      rw [hlast] at a1
      rw [show ∀ {Q : D → En → Prop} {X : Xp} {en : En}, ev (mkH fs16 ms1 fkL exL emL ciL) (.neg (.int 1)) en Q X = Q (.int (-1)) en from fun {Q X en} => by simp [ev, negW]]
      simp only [rv]
      refine ixW_of rfl a1 ⟨fun h => (by cases h), ?_⟩
      rw [asR_n rfl, ev_int]
      simp only [rv, bopW, addW, List.set_cons_succ, List.set_cons_zero]
      rw [show ((r.getLast h0 : Nat) : Int) + 1 = ((r.getLast h0 + 1 : Nat) : Int) by push_cast; rfl]
      exact tail _ (r.getLast h0 + 1) (by unfold lowC; rw [List.getLast?_eq_some_getLast h0]) fun y => ih _ _
theorem ch_out {top : Nat} {A B : Option D} {fin : En → Prop} {rt : D → En → Prop} {bk : En → Prop} {ex : Xp} (ht : top ≤ 1000) : ∀ (n m s : Nat) (y3 y4 y5 y6 y7 : Option D), (∀ k, k ≤ m + n → (∀ r ∈ choP top k, r.length ≤ 1000 ∧ lowC r ≤ 100000) ∧ (choP top k).length ≤ 100000) → (∀ y3 y4 y5 y6 y7, fin [some (.int top), B, some (.lst true ((choP top (m + n)).map tD)), y3, y4, y5, y6, y7]) →
    frW [3] (fun e2 K => runs (mkH fs16 ms1 fkL exL emL ciL) (bodyF (nthS 1 m__law_choices)) e2 { nx := K, rt := rt, bk := bk, ct := K, ex := ex }) fin ((List.range' s n).map fun i : Nat => D.int (i : Int)) [some (.int top), B, some (.lst true ((choP top m).map tD)), y3, y4, y5, y6, y7]
  | 0, m, s, y3, y4, y5, y6, y7, _, hf => hf y3 y4 y5 y6 y7
  | n + 1, m, s, y3, y4, y5, y6, y7, hc, hf => by
    have ih := fun y4 y5 y6 y7 => ch_out (B := B) (A := A) (fin := fin) (rt := rt) (bk := bk) (ex := ex) ht n (m + 1) (s + 1) (some (.int (s : Int))) y4 y5 y6 y7 (fun k hk => hc k (by omega)) (fun y3 y4 y5 y6 y7 => by
      rw [show m + 1 + n = m + (n + 1) by omega]
      exact hf y3 y4 y5 y6 y7)
    rw [List.range'_succ, List.map_cons, frW]
    simp only [bindW, List.set_cons_succ, List.set_cons_zero]
    have eb : bodyF (nthS 1 m__law_choices) = .cons (.asg 4 (.lst .nil)) (.cons (.forr [5] (.it (.var 2)) (bodyF (nthS 1 (bodyF (nthS 1 m__law_choices))))) (.cons (.asg 2 (.blt .list1 (.cons (.var 4) .nil))) .nil)) := rfl
    rw [eb] at ih ⊢
    have hfr : frzs ((choP top m).map tD) = (choP top m).map tD := frzs_of _ (by
      have : ∀ L : List (List Nat), fzs (L.map tD) = true := fun L => by
        induction L with
        | nil => rfl
        | cons r L ih => rw [List.map_cons, fzs, ih]; simp [tD]
      exact this _)
    have hfz : ∀ L : List (List Nat), fzs (L.map tD) = true := fun L => by
        induction L with
        | nil => rfl
        | cons r L ih => rw [List.map_cons, fzs, ih]; simp [tD]
    rw [runs_c, run_asg]
    simp only [ev, evs, List.set_cons_succ, List.set_cons_zero]
    rw [runs_c, run_forr, src_it, ev_vo (d := .lst true ((choP top m).map tD)) rfl rfl]
    refine ⟨_, rfl, ?_⟩
    simp only [List.set_cons_succ, List.set_cons_zero]
    rw [hfr, hfr]
    have hcm := hc m (by omega)
    have hcm1 := hc (m + 1) (by omega)
    refine ch_mid ht (choP top m) [] y5 y6 y7 hcm.1 (by rw [List.length_nil, Nat.zero_add]; exact hcm1.2) fun y5 y6 y7 => ?_
    rw [List.nil_append, runs_1, run_asg, ev_blt, evr_c, asR_vo (d := .lst true _) rfl rfl, evr_0]
    simp only [rvs, rv, bltW, List.getElem?_cons_succ, List.getElem?_cons_zero, Option.join_some]
    refine ⟨_, rfl, hfz _, ?_⟩
    exact ih _ _ _ _
theorem w_choices {top props : Nat} (h1 : 1 ≤ top) (h2 : top ≤ 7) (h3 : props ≤ top) : Ret s__law_choices [.int top, .int props] (.lst true ((choP top props).map tD)) [some (.int top), some (.int props)] := by
  intro q x h
  unfold s__law_choices semF
  refine ⟨rfl, ?_⟩
  have e0 : m__law_choices = .cons (.asg 2 (.lst (.cons (.tup .nil) .nil))) (.cons (.forr [3] (.rng (.cons (.var 1) .nil)) (bodyF (nthS 1 m__law_choices))) (.cons (.ret (.var 2)) .nil)) := rfl
  rw [e0, runs_c, run_asg]
  simp only [ev, evs, List.set_cons_succ, List.set_cons_zero, List.map_cons, List.map_nil, List.cons_append, List.nil_append, List.replicate]
  rw [runs_c, run_forr]
  simp only [evSrc, evs]
  rw [ev_vf (d := .int (props : Int)) rfl rfl]
  refine ⟨by omega, ?_⟩
  rw [rgL_0]
  have e1 : D.lst true [D.tup []] = D.lst true ((choP top 0).map tD) := rfl
  rw [e1]
  refine ch_out (A := none) (by omega) props 0 0 none none none none none (fun k hk => ?_) fun y3 y4 y5 y6 y7 => ?_
  · have hu := cho_up h1 h2 (props := k) (by omega)
    refine ⟨fun r hr => ?_, by omega⟩
    have u := hu.1 r hr
    refine ⟨by rw [u.len]; omega, ?_⟩
    unfold lowC
    split
    · omega
    · next z hz =>
      have := u.top z (List.mem_of_getLast? hz)
      omega
  · rw [Nat.zero_add, runs_1]
    simp only [run, List.getElem?_cons_succ, List.getElem?_cons_zero, Option.join_some, fz, Bool.not_true, Bool.false_and, Bool.false_eq_true, if_false, back]
    exact h
end Pf

namespace Pf
open PySem PySem.Spec PyProof.Rows L2
def kept (r : List Nat) : List Nat := (r.filter fun x => decide (0 < x)).map fun x => x - 1
def frL (k : List Nat) : Nat → Nat → Nat → List (Nat × Nat)
  | _, 0, _ => []
  | s, n + 1, f => if s ∈ k then frL k (s + 1) n f else (s, f) :: frL k (s + 1) n (f + 1)
def has0 (r : List Nat) : Bool := r.contains 0
def latC (r : List Nat) (p : Nat) : Nat := (r.filter fun x => decide (p + 1 < x)).length
def hiR (w : List Int) (top : Nat) (r : List Nat) : Int := if has0 r = true then ((frL (kept r) 0 top 0).map fun pf => shV w r * w.getD pf.2 0 * (1 + (pf.1 : Int))).sum else 0
def beR (w : List Int) (top props : Nat) (r : List Nat) : Int := if has0 r = true then ((frL (kept r) 0 top 0).map fun pf => shV w r * w.getD pf.2 0 * (latC r pf.1 : Int)).sum else shV w r * w.sum * (props : Int)
/-! as polynomials in the tails -/
def wP (n f : Nat) (m : List Nat) (c : Int) : Pl := (c, insN f m) :: (if f + 1 < n then [(-c, insN (f + 1) m)] else [])
theorem tl_step {w : List Int} {f : Nat} (h : f < w.length) : tl w f = w.getD f 0 + tl w (f + 1) := by
  unfold tl
  rw [List.drop_eq_getElem_cons h, List.sum_cons, List.getD_eq_getElem?_getD, List.getElem?_eq_getElem h, Option.getD_some]
theorem tl_end {w : List Int} {f : Nat} (h : w.length ≤ f) : tl w f = 0 := by
  unfold tl
  rw [List.drop_eq_nil_of_le h]
  rfl
theorem evP_w {w : List Int} {f : Nat} (m : List Nat) (c : Int) (h : f < w.length) : evP (tl w) (wP w.length f m c) = evM (tl w) m * w.getD f 0 * c := by
  unfold wP
  rw [evP, evM_ins]
  have h1 := tl_step h
  split
  · rw [evP, evP, evM_ins, h1, Int.add_mul, Int.mul_add, Int.neg_mul, show evM (tl w) m * w.getD f 0 * c = c * (w.getD f 0 * evM (tl w) m) by rw [Int.mul_comm (evM (tl w) m), Int.mul_comm]]
    dsimp only
    omega
  · rw [evP, h1, tl_end (f := f + 1) (by omega), Int.add_zero, Int.add_zero, show evM (tl w) m * w.getD f 0 * c = c * (w.getD f 0 * evM (tl w) m) by rw [Int.mul_comm (evM (tl w) m), Int.mul_comm]]
theorem evP_flat {α : Type} (t : Nat → Int) (g : α → Pl) : ∀ L : List α, evP t (L.flatMap g) = (L.map fun r => evP t (g r)).sum
  | [] => rfl
  | a :: L => by rw [List.flatMap_cons, evP_app, evP_flat t g L, List.map_cons, List.sum_cons]
def hiP (top n : Nat) (r : List Nat) : Pl := if has0 r = true then (frL (kept r) 0 top 0).flatMap fun pf => wP n pf.2 (shM 0 r) (1 + (pf.1 : Int)) else []
def beP (top props n : Nat) (r : List Nat) : Pl := if has0 r = true then (frL (kept r) 0 top 0).flatMap fun pf => wP n pf.2 (shM 0 r) (latC r pf.1 : Int) else [((props : Int), insN 0 (shM 0 r))]
theorem evP_hi {w : List Int} {top : Nat} {r : List Nat} (h : has0 r = true → ∀ pf ∈ frL (kept r) 0 top 0, pf.2 < w.length) : evP (tl w) (hiP top w.length r) = hiR w top r := by
  unfold hiP hiR
  split
  · next h0 =>
    rw [evP_flat]
    congr 1
    exact List.map_congr_left fun pf hp => evP_w _ _ (h h0 pf hp)
  · rfl
theorem evP_be {w : List Int} {top props : Nat} {r : List Nat} (h : has0 r = true → ∀ pf ∈ frL (kept r) 0 top 0, pf.2 < w.length) : evP (tl w) (beP top props w.length r) = beR w top props r := by
  unfold beP beR
  split
  · next h0 =>
    rw [evP_flat]
    congr 1
    exact List.map_congr_left fun pf hp => evP_w _ _ (h h0 pf hp)
  · rw [evP, evP, evM_ins]
    have e : tl w 0 = w.sum := rfl
    rw [e, Int.add_zero]
    unfold shV
    rw [Int.mul_comm, Int.mul_comm w.sum]
def mulM (m : List Nat) (P : Pl) : Pl := m.foldr mulV P
theorem evP_mulM (t : Nat → Int) : ∀ (m : List Nat) (P : Pl), evP t (mulM m P) = evM t m * evP t P
  | [], P => by simp [mulM, evM]
  | i :: m, P => by
    have ih := evP_mulM t m P
    unfold mulM at ih ⊢
    rw [List.foldr_cons, evP_mulV, ih, evM_cons, Int.mul_assoc]
def mulP (P Q : Pl) : Pl := P.flatMap fun c => mulM c.2 (mulC c.1 Q)
theorem evP_mulP (t : Nat → Int) : ∀ P Q : Pl, evP t (mulP P Q) = evP t P * evP t Q
  | [], Q => by simp [mulP, evP]
  | c :: P, Q => by
    have ih := evP_mulP t P Q
    unfold mulP at ih ⊢
    rw [List.flatMap_cons, evP_app, ih, evP_mulM, evP_mulC, evP, Int.add_mul, Int.mul_comm c.1 (evM t c.2), Int.mul_assoc]
def linP (n : Nat) : Pl := (List.range n).flatMap fun a => wP n a [] (a : Int)
def fewP (n props : Nat) : Pl := if props = 0 then [] else riseP (List.range n) (props - 1)
def bareP (top props : Nat) : Pl := ((choP top props).filter fun r => !has0 r).map fun r => (1, shM 0 r)
def thrP (top props : Nat) : Pl := ((choP top props).filter has0).map fun r => (1, shM 0 r)
def ckA (c : Nat × Nat) : Bool := eqP (bareP c.1 c.2) (riseP (List.range' 1 (c.1 - c.2)) c.2)
def ckB (c : Nat × Nat) : Bool := eqP (thrP c.1 c.2) (mulV 0 (fewP (c.1 - c.2 + 1) c.2))
def ckC (c : Nat × Nat) : Bool := eqP ((choP c.1 c.2).flatMap (hiP c.1 (c.1 - c.2 + 1))) (mulC c.2 (mulV 0 (riseP (List.range (c.1 - c.2 + 1)) c.2)))
def ckD (c : Nat × Nat) : Bool := eqP ((choP c.1 c.2).flatMap (beP c.1 c.2 (c.1 - c.2 + 1))) (mulP (linP (c.1 - c.2 + 1)) (mulV 0 (fewP (c.1 - c.2 + 1) c.2)))
def ckF (c : Nat × Nat) : Bool := (choP c.1 c.2).all fun r => !has0 r || (frL (kept r) 0 c.1 0).all fun pf => decide (pf.2 < c.1 - c.2 + 1)
theorem ok_A : pairs7.all ckA = true := by decide +kernel
theorem ok_B : pairs7.all ckB = true := by decide +kernel
theorem ok_C : pairs7.all ckC = true := by decide +kernel
theorem ok_D : pairs7.all ckD = true := by decide +kernel
theorem ok_F : pairs7.all ckF = true := by decide +kernel
theorem tailsI_drop {w : List Int} : (tailsI w).drop 1 = (List.range' 1 (w.length - 1)).map (tl w) := by
  unfold tailsI
  rw [← List.map_drop, List.range_eq_range', List.drop_range']
theorem sum_filter {α : Type} (p : α → Bool) (g : α → Int) : ∀ L : List α, ((L.filter p).map g).sum = (L.map fun a => if p a = true then g a else 0).sum
  | [] => rfl
  | a :: L => by
    have ih := sum_filter p g L
    rw [List.map_cons, List.sum_cons]
    cases h : p a with
    | true => rw [List.filter_cons_of_pos h, List.map_cons, List.sum_cons, ih, if_pos rfl]
    | false => rw [List.filter_cons_of_neg (by rw [h]; exact Bool.false_ne_true), ih, if_neg (by decide)]; omega
theorem evP_ones (t : Nat → Int) (L : List (List Nat)) : evP t (L.map fun r => (1, shM 0 r)) = (L.map fun r => evM t (shM 0 r)).sum := by
  induction L with
  | nil => rfl
  | cons r L ih => rw [List.map_cons, evP, ih, List.map_cons, List.sum_cons]; dsimp only; omega
def bareI (w : List Int) (top props : Nat) : Int := ((choP top props).map fun r => if has0 r = true then 0 else shV w r).sum
def thrI (w : List Int) (top props : Nat) : Int := ((choP top props).map fun r => if has0 r = true then shV w r else 0).sum
def fewI (w : List Int) (props : Nat) : Int := if props = 0 then 0 else rise (tailsI w) (props - 1)
structure Sm7 (top props : Nat) (w : List Int) : Prop extends Wk top props w where
  t7 : top ≤ 7
section
variable {top props : Nat} {w : List Int} (W : Sm7 top props w)
include W
theorem Sm7.n : top - props + 1 = w.length := W.len.symm
theorem evP_few : evP (tl w) (fewP w.length props) = fewI w props := by
  unfold fewP fewI
  split
  · rfl
  · rw [evP_rise]
    rfl
theorem law_bare : bareI w top props = rise ((tailsI w).drop 1) props := by
  have h := List.all_eq_true.mp ok_A _ (pairs_mem W.t1 W.t7 W.pt)
  have e := eqP_ok h (tl w)
  have hn := W.n
  dsimp only at e
  rw [evP_rise, show top - props = w.length - 1 by omega, ← tailsI_drop] at e
  rw [← e]
  unfold bareP bareI
  rw [evP_ones, sum_filter]
  congr 1
  refine List.map_congr_left fun r _ => ?_
  cases has0 r <;> rfl
theorem law_thr : thrI w top props = tl w 0 * fewI w props := by
  have h := List.all_eq_true.mp ok_B _ (pairs_mem W.t1 W.t7 W.pt)
  have e := eqP_ok h (tl w)
  dsimp only at e
  rw [W.n, evP_mulV, evP_few W] at e
  rw [← e]
  unfold thrP thrI
  rw [evP_ones, sum_filter]
  rfl
theorem fr_lt {r : List Nat} (hr : r ∈ choP top props) (h0 : has0 r = true) : ∀ pf ∈ frL (kept r) 0 top 0, pf.2 < w.length := by
  have h := List.all_eq_true.mp (List.all_eq_true.mp ok_F _ (pairs_mem W.t1 W.t7 W.pt)) r hr
  dsimp only at h
  rw [h0] at h
  intro pf hp
  have := of_decide_eq_true (List.all_eq_true.mp h pf hp)
  rw [W.n] at this
  exact this
theorem law_hi : ((choP top props).map (hiR w top)).sum = (props : Int) * tl w 0 * rise (tailsI w) props := by
  have h := List.all_eq_true.mp ok_C _ (pairs_mem W.t1 W.t7 W.pt)
  have e := eqP_ok h (tl w)
  dsimp only at e
  rw [W.n, evP_mulC, evP_mulV, evP_rise, evP_flat] at e
  rw [Int.mul_assoc]
  refine Eq.trans ?_ e
  congr 1
  exact List.map_congr_left fun r hr => (evP_hi fun h0 => fr_lt W hr h0).symm
theorem law_be : ((choP top props).map (beR w top props)).sum = ((List.range w.length).map fun a : Nat => (a : Int) * w.getD a 0).sum * tl w 0 * fewI w props := by
  have h := List.all_eq_true.mp ok_D _ (pairs_mem W.t1 W.t7 W.pt)
  have e := eqP_ok h (tl w)
  dsimp only at e
  rw [W.n, evP_mulP, evP_mulV, evP_few W, evP_flat] at e
  have e2 : evP (tl w) (linP w.length) = ((List.range w.length).map fun a : Nat => (a : Int) * w.getD a 0).sum := by
    unfold linP
    rw [evP_flat]
    congr 1
    refine List.map_congr_left fun a ha => ?_
    rw [evP_w [] (a : Int) (List.mem_range.mp ha), show evM (tl w) [] = 1 from rfl, Int.one_mul, Int.mul_comm]
  rw [e2] at e
  rw [Int.mul_assoc]
  refine Eq.trans ?_ e
  congr 1
  exact List.map_congr_left fun r hr => (evP_be fun h0 => fr_lt W hr h0).symm
end
end Pf

namespace Pf
open PySem PySem.Spec PyProof.Rows L2
theorem perm_map_ex {α β : Type} {f : α → β} {ys zs : List β} (p : ys.Perm zs) : ∀ L : List α, zs = L.map f → ∃ L' : List α, L'.Perm L ∧ ys = L'.map f := by
  induction p with
  | nil => exact fun L h => ⟨L, List.Perm.refl _, h⟩
  | cons x _ ih =>
    intro L h
    cases L with
    | nil => cases h
    | cons a L =>
      cases h
      obtain ⟨L', p', e⟩ := ih L rfl
      exact ⟨a :: L', p'.cons a, by rw [e, List.map_cons]⟩
  | swap x y l =>
    intro L h
    cases L with
    | nil => cases h
    | cons a L =>
      cases L with
      | nil => cases h
      | cons b L =>
        cases h
        exact ⟨b :: a :: L, List.Perm.swap _ _ _, rfl⟩
  | trans _ _ ih1 ih2 =>
    intro L h
    obtain ⟨L2, p2, e2⟩ := ih2 L h
    obtain ⟨L1, p1, e1⟩ := ih1 L2 e2
    exact ⟨L1, p1.trans p2, e1⟩
def onP (w : List Int) (k : List Nat) (pf : Nat × Nat) : D := .tup [.tup ((sortI (rI k ++ [(pf.1 : Int)])).map .int), .int (w.getD pf.2 0)]
theorem toPs_ints (xs : List Int) : toPs (xs.map .int) = xs.map PyData.int := by
  induction xs with
  | nil => rfl
  | cons x xs ih => rw [List.map_cons, toPs, ih, toP, List.map_cons]
theorem srt_on (w : List Int) (k : List Nat) (L : List (Nat × Nat)) : srtOk (L.map (onP w k)) := by
  have hf : ∀ L : List (Nat × Nat), fzs (L.map (onP w k)) = true := fun L => by
    induction L with
    | nil => rfl
    | cons a L ih => rw [List.map_cons, fzs, ih]; simp [onP, fz, fzs]
  have hd : ∀ L : List (Nat × Nat), dats 60 (L.map (onP w k)) = true := fun L => by
    induction L with
    | nil => rfl
    | cons a L ih => rw [List.map_cons, dats, ih]; simp [onP, dat, dats, dats_ints, -List.map_append]
  refine ⟨⟨hf L, hd L⟩, fun x hx y hy => ?_, fun x hx => ?_⟩
  · obtain ⟨a, _, rfl⟩ := List.mem_map.mp hx
    obtain ⟨b, _, rfl⟩ := List.mem_map.mp hy
    unfold onP
    simp only [toP, toPs, toPs_ints, PySem.W.alike, PySem.W.alikeAll, PySem.W.alike_ints, Bool.and_true]
  · obtain ⟨a, _, rfl⟩ := List.mem_map.mp hx
    exact ⟨_, _, rfl⟩
def kD (k : List Nat) : D := .lst false ((rI k).map .int)
theorem on_loop {w : List Int} {Wt A O : D} {k : List Nat} {fin : En → Prop} {rt : D → En → Prop} {bk : En → Prop} {ex : Xp} (hW : fz Wt = true) (hWI : itms Wt = some (w.map .int)) (hk : k.length ≤ 1000) : ∀ (n s f : Nat) (Z : List D) (y : Option D), (∀ pf ∈ frL k s n f, pf.2 < w.length) → Z.length + n ≤ 100000 →
    (∀ y f', fin [some A, some Wt, some O, some (kD k), y, some (.lst true (Z ++ (frL k s n f).map (onP w k))), some (.int f')]) →
    frW [4] (fun e2 K => runs (mkH fs20 ms2 fkL exL emL ciL) (bodyF (nthS 4 m__law_onward)) e2 { nx := K, rt := rt, bk := bk, ct := K, ex := ex }) fin ((List.range' s n).map fun i : Nat => D.int (i : Int)) [some A, some Wt, some O, some (kD k), y, some (.lst true Z), some (.int (f : Int))]
  | 0, s, f, Z, y, _, hz, hf => by
    have := hf y f
    rw [frL, List.map_nil, List.append_nil] at this
    exact this
  | n + 1, s, f, Z, y, hp, hz, hf => by
    rw [List.range'_succ, List.map_cons, frW]
    simp only [bindW, List.set_cons_succ, List.set_cons_zero]
    have eb : bodyF (nthS 4 m__law_onward) = .cons (.iff (.cmp .NotIn (.var 4) (.fv 3)) (.cons (.expr (.mut .append 5 (.cons (.tup (.cons (.blt .tuple1 (.cons (.blt .sorted (.cons (.bin .Add (.fv 3) (.lst (.cons (.var 4) .nil))) .nil)) .nil)) (.cons (.idx (.fv 1) (.var 6)) .nil))) .nil))) (.cons (.aug 6 .Add (.int 1)) .nil)) .nil) .nil := rfl
    have hkz : fz (kD k) = true := fz_lst_ints _
    have hc : ((rI k).contains (s : Int)) = decide (s ∈ k) := by
      rw [List.contains_eq_mem]
      congr 1
      unfold rI
      refine propext ⟨fun h => ?_, fun h => List.mem_map.mpr ⟨s, h, rfl⟩⟩
      obtain ⟨a, ha, e⟩ := List.mem_map.mp h
      obtain rfl : a = s := by omega
      exact ha
    rw [frL] at hp hf
    by_cases hs : s ∈ k
    · rw [if_pos hs] at hp hf
      have ih := on_loop (A := A) (O := O) (fin := fin) (rt := rt) (bk := bk) (ex := ex) hW hWI hk n (s + 1) f Z (some (.int (s : Int))) hp (by omega) hf
      rw [eb] at ih ⊢
      rw [runs_1, run_iff, ev_cmp, asR_vf (d := .int (s : Int)) rfl rfl, asR_fv, ev_fvf (d := kD k) rfl hkz]
      simp only [rv, cmpW, inW, kD, itms, all_flat_ints, Pf.flat]
      refine ⟨⟨trivial, trivial⟩, ?_⟩
      rw [any_deq, hc, decide_eq_true hs]
      refine ⟨_, rfl, ?_⟩
      rw [if_neg (by decide), runs_0]
      exact ih
    · rw [if_neg hs] at hp hf
      have hfl := hp (s, f) List.mem_cons_self
      have ih := on_loop (A := A) (O := O) (fin := fin) (rt := rt) (bk := bk) (ex := ex) hW hWI hk n (s + 1) (f + 1) (Z ++ [onP w k (s, f)]) (some (.int (s : Int))) (fun pf h => hp pf (List.mem_cons_of_mem _ h)) (by rw [List.length_append, List.length_singleton]; omega) (fun y f' => by
        have := hf y f'
        rw [List.map_cons] at this
        rw [List.append_assoc]
        exact this)
      rw [eb] at ih ⊢
      rw [runs_1, run_iff, ev_cmp, asR_vf (d := .int (s : Int)) rfl rfl, asR_fv, ev_fvf (d := kD k) rfl hkz]
      simp only [rv, cmpW, inW, itms, all_flat_ints, Pf.flat]
      refine ⟨⟨trivial, all_flat_ints _⟩, ?_⟩
      rw [any_deq, hc, decide_eq_false hs]
      refine ⟨_, rfl, ?_⟩
      rw [if_pos (by decide), runs_c, run_expr, ev_mut]
      refine ⟨⟨_, rfl⟩, ?_⟩
      rw [evs_c, ev_tup, evs_c, ev_blt, evr_c, asR_n rfl, ev_blt, evr_c, asR_n rfl, ev_bin, asR_fv, ev_fvf (d := kD k) rfl hkz, asR_lst, ev_lst, evs_c, ev_vf (d := .int (s : Int)) rfl rfl, evs_0]
      simp only [rv, bopW, kD, addW]
      refine ⟨⟨by simp, by simp [fzs, fz], by simp [rI_len]; omega⟩, ?_⟩
      rw [evr_0]
      simp only [rvs, rv, bltW]
      refine ⟨rI k ++ [(s : Int)], by simp [itms], ?_⟩
      dsimp only
      rw [evr_0]
      simp only [rvs, rv, bltW]
      refine ⟨_, rfl, by simp, ?_⟩
      try dsimp only
      rw [evs_c, ev_idx, asR_fv, ev_fvf (d := Wt) rfl hW, ev_vf (d := .int (f : Int)) rfl rfl]
      simp only [rv]
      refine ixW_of hWI (atI_int hfl) ⟨fun _ => rfl, ?_⟩
      rw [evs_0, evs_0]
      simp only [List.getElem?_cons_succ, List.getElem?_cons_zero, Option.join_some, mutW]
      refine ⟨by omega, ?_⟩
      rw [runs_1]
      simp only [run, List.set_cons_succ, List.set_cons_zero]
      rw [ev_int]
      simp only [List.getElem?_cons_succ, List.getElem?_cons_zero, Option.join_some]
      refine ⟨⟨_, rfl⟩, ?_⟩
      refine ⟨1, rfl, ?_⟩
      unfold onP at ih
      rw [List.getD_eq_getElem?_getD, List.getElem?_eq_getElem hfl, Option.getD_some] at ih
      simp only [List.set_cons_succ, List.set_cons_zero]
      exact ih
def keptE : E := .lc [4] (.it (.fv 2)) (.cons (.cmp .Gt (.var 4) (.int 0)) .nil) (.bin .Sub (.var 4) (.int 1))
theorem rI_kept (r : List Nat) : (r.filter fun x => decide (0 < x)).map (fun x : Nat => D.int ((x : Int) - 1)) = (rI (kept r)).map .int := by
  unfold rI kept
  rw [List.map_map, List.map_map]
  refine List.map_congr_left fun x hx => ?_
  have := of_decide_eq_true (List.mem_filter.mp hx).2
  simp only [Function.comp]
  congr 1
  omega
theorem kept_len {r : List Nat} : (kept r).length ≤ r.length := by
  unfold kept
  rw [List.length_map]
  exact List.length_filter_le _ _
theorem kept_eq {r : List Nat} : (kept r).length = r.length ↔ has0 r = false := by
  unfold kept has0
  rw [List.length_map, List.length_filter_eq_length_iff]
  rw [List.contains_eq_mem, decide_eq_false_iff_not]
  constructor
  · intro h hm
    have := of_decide_eq_true (h 0 hm)
    omega
  · intro h x hx
    refine decide_eq_true (Nat.pos_of_ne_zero fun e => h (e ▸ hx))
theorem w_onward {w : List Int} {Wt O : D} {top : Nat} {r : List Nat} (hW : fz Wt = true) (hWI : itms Wt = some (w.map .int)) (hO : fz O = true) (hOI : itms O = some ((rI r).map .int)) (ht : top ≤ 1000) (hr : r.length ≤ 1000) (hp : has0 r = true → ∀ pf ∈ frL (kept r) 0 top 0, pf.2 < w.length) {q : D → List (Option D) → Prop} {x}
    (h0 : has0 r = false → q (.lst true [.tup [.tup ((rI (kept r)).map .int), .int w.sum]]) [some (.int top), some Wt, some O])
    (h1 : has0 r = true → ∀ L' : List (Nat × Nat), L'.Perm (frL (kept r) 0 top 0) → q (.lst true (L'.map (onP w (kept r)))) [some (.int top), some Wt, some O]) :
    s__law_onward [.int top, Wt, O] q x := by
  unfold s__law_onward semF
  refine ⟨rfl, ?_⟩
  have e0 : m__law_onward = .cons (.asg 3 keptE) (.cons (.iff (.cmp .Eq (.blt .len (.cons (.fv 3) .nil)) (.blt .len (.cons (.fv 2) .nil))) (.cons (.ret (.lst (.cons (.tup (.cons (.blt .tuple1 (.cons (.fv 3) .nil)) (.cons (.blt .sum (.cons (.fv 1) .nil)) .nil))) .nil))) .nil) .nil) (.cons (.asg 5 (.lst .nil)) (.cons (.asg 6 (.int 0)) (.cons (.forr [4] (.rng (.cons (.var 0) .nil)) (bodyF (nthS 4 m__law_onward))) (.cons (.ret (.blt .sortD (.cons (.var 5) .nil))) .nil))))) := rfl
  rw [e0, runs_c, run_asg]
  unfold keptE
  rw [ev_lc, src_it, ev_fvf (d := O) rfl hO]
  refine ⟨_, hOI, ?_⟩
  have ef : frzs ((rI r).map D.int) = r.map fun x : Nat => D.int (x : Int) := by
    rw [frzs_of _ (by simp)]
    unfold rI
    rw [List.map_map]
    rfl
  rw [ef]
  simp only [offs, List.set_cons_succ, List.set_cons_zero, List.map_cons, List.map_nil, List.cons_append, List.nil_append, List.replicate]
  refine lc_mp (fun x : Nat => D.int (x : Int)) (fun x => decide (0 < x)) (fun x : Nat => D.int ((x : Int) - 1)) (fun a ha Kn Ky hn hy => ?_) (by simp; omega) ?_
  · simp only [bindW, List.set_cons_succ, List.set_cons_zero, evTs]
    rw [ev_cmp, asR_vf (d := .int (a : Int)) rfl rfl, asR_n rfl, ev_int]
    simp only [rv, cmpW, intW]
    refine ⟨_, rfl, ?_⟩
    by_cases hp : 0 < a
    · rw [if_pos (decide_eq_true (by omega)), ev_bin, asR_vf (d := .int (a : Int)) rfl rfl, asR_n rfl, ev_int]
      simp only [rv, bopW, subW, offs, List.set_cons_succ, List.set_cons_zero]
      exact hy (decide_eq_true hp)
    · rw [if_neg (by simp; omega)]
      simp only [offs, List.set_cons_succ, List.set_cons_zero]
      exact hn (decide_eq_false hp)
  · rw [List.nil_append, rI_kept]
    simp only [List.set_cons_succ, List.set_cons_zero]
    rw [runs_c, run_iff, ev_cmp, asR_n rfl, ev_blt, evr_c, asR_fv]
    refine ev_fv (d := .lst true ((rI (kept r)).map .int)) rfl ?_
    have ek : frz (.lst true ((rI (kept r)).map .int)) = kD (kept r) := by simp [frz, kD]
    rw [ek, evr_0]
    simp only [rvs, rv, bltW]
    rw [lenW_of (xs := (rI (kept r)).map .int) rfl, asR_n rfl, ev_blt, evr_c, asR_fv]
    simp only [List.set_cons_succ, List.set_cons_zero]
    rw [ev_fvf (d := O) rfl hO, evr_0]
    simp only [rvs, rv, bltW]
    rw [lenW_of hOI]
    simp only [rv, cmpW, eqW, dat, deq, List.length_map, rI_len]
    refine ⟨⟨trivial, trivial⟩, _, rfl, ?_⟩
    have hkz : fz (kD (kept r)) = true := fz_lst_ints _
    cases hh : has0 r with
    | false =>
      have he := kept_eq.mpr hh
      rw [if_pos (by rw [he]; simp), runs_1, run_ret rfl, ev_lst, evs_c, ev_tup, evs_c, ev_blt, evr_c, asR_fv, ev_fvf (d := kD (kept r)) rfl hkz, evr_0]
      simp only [rvs, rv, bltW]
      refine ⟨_, rfl, by simp, ?_⟩
      try dsimp only
      rw [evs_c, ev_blt, evr_c, asR_fv, ev_fvf (d := Wt) rfl hW, evr_0]
      simp only [rvs, rv, bltW]
      refine ⟨_, hWI, ?_⟩
      try dsimp only
      rw [evs_0, evs_0]
      simp only [back]
      exact h0 hh
    | true =>
      have he : (kept r).length ≠ r.length := fun e => by
        have := kept_eq.mp e
        rw [hh] at this
        cases this
      have hlt : (kept r).length < r.length := Nat.lt_of_le_of_ne kept_len he
      rw [if_neg (by simp; omega), runs_0]
      dsimp only
      rw [runs_c, run_asg, ev_lst, evs_0]
      simp only [List.set_cons_succ, List.set_cons_zero]
      rw [runs_c, run_asg, ev_int]
      simp only [List.set_cons_succ, List.set_cons_zero]
      rw [runs_c, run_forr]
      simp only [evSrc, evs]
      rw [ev_vf (d := .int (top : Int)) rfl rfl]
      refine ⟨by omega, ?_⟩
      rw [rgL_0]
      refine on_loop hW hWI (by omega) top 0 0 [] none (hp hh) (by simp; omega) fun y f' => ?_
      rw [List.nil_append, runs_1, run_ret rfl, ev_blt, evr_c, asR_vo (d := .lst true _) rfl rfl, evr_0]
      simp only [rvs, rv, List.getElem?_cons_succ, List.getElem?_cons_zero, Option.join_some, bltW, isLst, itms]
      refine ⟨trivial, _, rfl, srt_on w (kept r) _, fun ys hy => ?_⟩
      obtain ⟨L', p', rfl⟩ := perm_map_ex hy _ rfl
      simp only [back]
      exact h1 hh L' p'
end Pf

namespace Pf
open PySem PySem.Spec PyProof.Rows L2
theorem perm_sum {xs ys : List Int} (p : xs.Perm ys) : xs.sum = ys.sum := by
  induction p with
  | nil => rfl
  | cons x _ ih => rw [List.sum_cons, List.sum_cons, ih]
  | swap x y l => simp only [List.sum_cons]; omega
  | trans _ _ h1 h2 => rw [h1, h2]
theorem sortI_sum (xs : List Int) : (sortI xs).sum = xs.sum := perm_sum (sortI_perm xs)
abbrev GM : Gb := mkH fs21 ms2 fkL exL emL ciL
def rowB : Ss := bodyF (nthS 3 m__law_means)
def pairB : Ss := bodyF (nthS 2 rowB)
def latE : E := .lc [10] (.it (.fv 7)) (.cons (.cmp .Gt (.var 10) (.var 12)) .nil) (.var 10)
theorem has0_in {r : List Nat} : ((rI r).contains 0) = has0 r := by
  unfold has0
  rw [List.contains_eq_mem, List.contains_eq_mem]
  congr 1
  refine propext ⟨fun h => ?_, fun h => List.mem_map.mpr ⟨0, h, rfl⟩⟩
  obtain ⟨a, ha, e⟩ := List.mem_map.mp h
  obtain rfl : a = 0 := by omega
  exact ha
theorem lat_ev {A0 A1 A2 A3 A4 A5 A6 A8 A9 A10 A11 A13 A14 A15 : Option D} {r : List Nat} {p : Nat} {Q : D → En → Prop} {X : Xp} (hr : r.length ≤ 1000) (hQ : ∀ d, itms d = some ((r.filter fun x => decide (p + 1 < x)).map fun x : Nat => D.int (x : Int)) → Q d [A0, A1, A2, A3, A4, A5, A6, some (tD r), A8, A9, none, A11, some (.int (1 + (p : Int))), A13, A14, A15]) :
    ev GM latE [A0, A1, A2, A3, A4, A5, A6, some (tD r), A8, A9, A10, A11, some (.int (1 + (p : Int))), A13, A14, A15] Q X := by
  have h7 : fz (tD r) = true := fz_tup_ints _
  unfold latE
  rw [ev_lc, src_it, ev_fvf (d := tD r) rfl h7]
  refine ⟨_, rfl, ?_⟩
  have ef : frzs ((rI r).map D.int) = r.map fun x : Nat => D.int (x : Int) := by
    rw [frzs_of _ (by simp)]
    unfold rI
    rw [List.map_map]
    rfl
  rw [ef]
  simp only [offs, List.set_cons_succ, List.set_cons_zero]
  refine lc_mp (fun x : Nat => D.int (x : Int)) (fun x => decide (p + 1 < x)) (fun x : Nat => D.int (x : Int)) (fun a ha Kn Ky hn hy => ?_) (by simp; omega) ?_
  · simp only [bindW, List.set_cons_succ, List.set_cons_zero, evTs]
    rw [ev_cmp, asR_vf (d := .int (a : Int)) rfl rfl, asR_vf (d := .int (1 + (p : Int))) rfl rfl]
    simp only [rv, cmpW, intW]
    refine ⟨_, rfl, ?_⟩
    by_cases hp : p + 1 < a
    · rw [if_pos (decide_eq_true (by omega)), ev_vf (d := .int (a : Int)) rfl rfl]
      simp only [offs, List.set_cons_succ, List.set_cons_zero]
      exact hy (decide_eq_true hp)
    · rw [if_neg (by simp; omega)]
      simp only [offs, List.set_cons_succ, List.set_cons_zero]
      exact hn (decide_eq_false hp)
  · exact hQ _ rfl
theorem pair_in {top props : Nat} {w : List Int} {A0 A1 A2 A3 A10 A12 A13 A14 A15 : Option D} {r k : List Nat} {K9 : D} {H B V : Int} {p f : Nat} {P : Pt} (hr : r.length ≤ 1000) (h0 : has0 r = true) (hK : frz K9 = kD k) (hp : p ≤ 100000) (hw : -(2 ^ 64) < w.getD f 0 ∧ w.getD f 0 < 2 ^ 64)
    (hP : P.nx [A0, A1, A2, A3, some (.int props), some (.int (H + V * w.getD f 0 * (1 + (p : Int)))), some (.int (B + V * w.getD f 0 * (latC r p : Int))), some (tD r), some (.int V), some (kD k), none, some (onP w k (p, f)), some (.int (1 + (p : Int))), some (.int (latC r p)), A14, A15]) :
    runs GM pairB [A0, A1, A2, A3, some (.int props), some (.int H), some (.int B), some (tD r), some (.int V), some K9, A10, some (onP w k (p, f)), A12, A13, A14, A15] P := by
  have h7 : fz (tD r) = true := fz_tup_ints _
  have h11 : fz (onP w k (p, f)) = true := by simp [onP, fz, fzs]
  have eb : pairB = .cons (.asg 12 (.int 0)) (.cons (.asg 13 (.var 4)) (.cons (.iff (.cmp .In (.int 0) (.fv 7)) (.cons (.asg 12 (.bin .Sub (.bin .Add (.int 1) (.blt .sum (.cons (.idx (.var 11) (.int 0)) .nil))) (.blt .sum (.cons (.fv 9) .nil)))) (.cons (.asg 13 (.blt .len (.cons latE .nil))) .nil)) .nil) (.cons (.aug 5 .Add (.bin .Mult (.bin .Mult (.var 8) (.idx (.var 11) (.int 1))) (.var 12))) (.cons (.aug 6 .Add (.bin .Mult (.bin .Mult (.var 8) (.idx (.var 11) (.int 1))) (.var 13))) .nil)))) := rfl
  have hidx : ∀ {Q : D → En → Prop} {X : Xp} {en : En}, (en[11]?).join = some (onP w k (p, f)) → Q (.int (w.getD f 0)) en → ev GM (.idx (.var 11) (.int 1)) en Q X := by
    intro Q X en he hq
    rw [ev_idx, asR_vf he h11, ev_int]
    simp only [rv]
    exact ixW_of (xs := [.tup ((sortI (rI k ++ [(p : Int)])).map .int), .int (w.getD f 0)]) rfl rfl ⟨fun _ => rfl, hq⟩
  rw [eb, runs_c, run_asg, ev_int]
  simp only [List.set_cons_succ, List.set_cons_zero]
  rw [runs_c, run_asg, ev_vf (d := .int (props : Int)) rfl rfl]
  simp only [List.set_cons_succ, List.set_cons_zero]
  rw [runs_c, run_iff, ev_cmp, asR_n rfl, ev_int, asR_fv, ev_fvf (d := tD r) rfl h7]
  simp only [rv, cmpW, inW, tD, itms, Pf.flat]
  refine ⟨⟨trivial, all_flat_ints _⟩, ?_⟩
  rw [any_deq, has0_in, h0]
  refine ⟨_, rfl, ?_⟩
  rw [if_pos (by decide), runs_c, run_asg, ev_bin, asR_n rfl, ev_bin, asR_n rfl, ev_int, asR_n rfl, ev_blt, evr_c, asR_n rfl, ev_idx, asR_vf (d := onP w k (p, f)) rfl h11, ev_int]
  simp only [rv]
  refine ixW_of (xs := [.tup ((sortI (rI k ++ [(p : Int)])).map .int), .int (w.getD f 0)]) rfl (d := .tup ((sortI (rI k ++ [(p : Int)])).map .int)) rfl ⟨fun _ => fz_tup_ints _, ?_⟩
  rw [evr_0]
  simp only [rvs, rv, bltW]
  refine ⟨_, rfl, ?_⟩
  dsimp only
  rw [sortI_sum, List.sum_append]
  simp only [bopW, addW, rv, List.sum_cons, List.sum_nil, Int.add_zero]
  rw [asR_n rfl, ev_blt, evr_c, asR_fv]
  refine ev_fv (d := K9) rfl ?_
  rw [hK, evr_0]
  simp only [rvs, rv, bltW]
  refine ⟨rI k, rfl, ?_⟩
  try dsimp only
  simp only [subW, rv, List.set_cons_succ, List.set_cons_zero]
  rw [show 1 + ((rI k).sum + (p : Int)) - (rI k).sum = 1 + (p : Int) by omega]
  rw [runs_1, run_asg, ev_blt, evr_c, asR_n rfl]
  refine lat_ev hr fun d hd => ?_
  rw [evr_0]
  simp only [rvs, rv, bltW]
  rw [lenW_of hd]
  simp only [List.length_map, List.set_cons_succ, List.set_cons_zero]
  rw [runs_c, run]
  refine ⟨⟨_, rfl⟩, ?_⟩
  rw [ev_bin, asR_n rfl, ev_bin, asR_vf (d := .int V) rfl rfl, asR_n rfl]
  refine hidx rfl ?_
  simp only [rv, bopW, mulW]
  refine ⟨.inr (.inl hw), ?_⟩
  rw [asR_vf (d := .int (1 + (p : Int))) rfl rfl]
  simp only [rv, mulW]
  refine ⟨.inr (.inl ⟨by omega, by omega⟩), ?_⟩
  simp only [List.getElem?_cons_succ, List.getElem?_cons_zero, Option.join_some]
  refine ⟨_, rfl, ?_⟩
  simp only [List.set_cons_succ, List.set_cons_zero]
  rw [runs_1, run]
  refine ⟨⟨_, rfl⟩, ?_⟩
  rw [ev_bin, asR_n rfl, ev_bin, asR_vf (d := .int V) rfl rfl, asR_n rfl]
  refine hidx rfl ?_
  simp only [rv, bopW, mulW]
  refine ⟨.inr (.inl hw), ?_⟩
  have hll : (latC r p) ≤ 1000 := Nat.le_trans (List.length_filter_le _ _) hr
  rw [asR_vf (d := .int (latC r p : Int)) rfl rfl]
  simp only [rv, mulW]
  refine ⟨.inr (.inl ⟨by omega, by omega⟩), ?_⟩
  simp only [List.getElem?_cons_succ, List.getElem?_cons_zero, Option.join_some]
  refine ⟨_, rfl, ?_⟩
  simp only [List.set_cons_succ, List.set_cons_zero]
  exact hP
end Pf

namespace Pf
open PySem PySem.Spec PyProof.Rows L2
theorem pair_out {props : Nat} {A0 A1 A2 A3 A10 A12 A13 A14 A15 : Option D} {r : List Nat} {ks : List Int} {K9 : D} {H B V S : Int} {P : Pt} (h0 : has0 r = false) (hp : props ≤ 100000) (hw : -(2 ^ 64) < S ∧ S < 2 ^ 64)
    (hP : P.nx [A0, A1, A2, A3, some (.int props), some (.int H), some (.int (B + V * S * (props : Int))), some (tD r), some (.int V), some K9, A10, some (.tup [.tup (ks.map .int), .int S]), some (.int 0), some (.int props), A14, A15]) :
    runs GM pairB [A0, A1, A2, A3, some (.int props), some (.int H), some (.int B), some (tD r), some (.int V), some K9, A10, some (.tup [.tup (ks.map .int), .int S]), A12, A13, A14, A15] P := by
  have h7 : fz (tD r) = true := fz_tup_ints _
  have h11 : fz (.tup [.tup (ks.map .int), .int S]) = true := by simp [fz, fzs]
  have eb : pairB = .cons (.asg 12 (.int 0)) (.cons (.asg 13 (.var 4)) (.cons (.iff (.cmp .In (.int 0) (.fv 7)) (.cons (.asg 12 (.bin .Sub (.bin .Add (.int 1) (.blt .sum (.cons (.idx (.var 11) (.int 0)) .nil))) (.blt .sum (.cons (.fv 9) .nil)))) (.cons (.asg 13 (.blt .len (.cons latE .nil))) .nil)) .nil) (.cons (.aug 5 .Add (.bin .Mult (.bin .Mult (.var 8) (.idx (.var 11) (.int 1))) (.var 12))) (.cons (.aug 6 .Add (.bin .Mult (.bin .Mult (.var 8) (.idx (.var 11) (.int 1))) (.var 13))) .nil)))) := rfl
  have hidx : ∀ {Q : D → En → Prop} {X : Xp} {en : En}, (en[11]?).join = some (.tup [.tup (ks.map .int), .int S]) → Q (.int S) en → ev GM (.idx (.var 11) (.int 1)) en Q X := by
    intro Q X en he hq
    rw [ev_idx, asR_vf he h11, ev_int]
    simp only [rv]
    exact ixW_of (xs := [.tup (ks.map .int), .int S]) rfl rfl ⟨fun _ => rfl, hq⟩
  rw [eb, runs_c, run_asg, ev_int]
  simp only [List.set_cons_succ, List.set_cons_zero]
  rw [runs_c, run_asg, ev_vf (d := .int (props : Int)) rfl rfl]
  simp only [List.set_cons_succ, List.set_cons_zero]
  rw [runs_c, run_iff, ev_cmp, asR_n rfl, ev_int, asR_fv, ev_fvf (d := tD r) rfl h7]
  simp only [rv, cmpW, inW, tD, itms, Pf.flat]
  refine ⟨⟨trivial, all_flat_ints _⟩, ?_⟩
  rw [any_deq, has0_in, h0]
  refine ⟨_, rfl, ?_⟩
  rw [if_neg (by decide), runs_0]
  dsimp only
  rw [runs_c, run]
  refine ⟨⟨_, rfl⟩, ?_⟩
  rw [ev_bin, asR_n rfl, ev_bin, asR_vf (d := .int V) rfl rfl, asR_n rfl]
  refine hidx rfl ?_
  simp only [rv, bopW, mulW]
  refine ⟨.inr (.inl hw), ?_⟩
  rw [asR_vf (d := .int 0) rfl rfl]
  simp only [rv, mulW]
  refine ⟨.inr (.inl ⟨by omega, by omega⟩), ?_⟩
  simp only [List.getElem?_cons_succ, List.getElem?_cons_zero, Option.join_some]
  refine ⟨_, rfl, ?_⟩
  simp only [List.set_cons_succ, List.set_cons_zero]
  rw [Int.mul_zero, Int.add_zero, runs_1, run]
  refine ⟨⟨_, rfl⟩, ?_⟩
  rw [ev_bin, asR_n rfl, ev_bin, asR_vf (d := .int V) rfl rfl, asR_n rfl]
  refine hidx rfl ?_
  simp only [rv, bopW, mulW]
  refine ⟨.inr (.inl hw), ?_⟩
  rw [asR_vf (d := .int (props : Int)) rfl rfl]
  simp only [rv, mulW]
  refine ⟨.inr (.inl ⟨by omega, by omega⟩), ?_⟩
  simp only [List.getElem?_cons_succ, List.getElem?_cons_zero, Option.join_some]
  refine ⟨_, rfl, ?_⟩
  simp only [List.set_cons_succ, List.set_cons_zero]
  exact hP
theorem pairs_loop {props : Nat} {w : List Int} {A0 A1 A2 A3 A14 A15 : Option D} {r k : List Nat} {V : Int} {fin : En → Prop} {rt : D → En → Prop} {bk : En → Prop} {ex : Xp} (hr : r.length ≤ 1000) (h0 : has0 r = true) : ∀ (L : List (Nat × Nat)) (H B : Int) (K9 : D) (y10 y11 y12 y13 : Option D), frz K9 = kD k → (∀ pf ∈ L, pf.1 ≤ 100000 ∧ -(2 ^ 64) < w.getD pf.2 0 ∧ w.getD pf.2 0 < 2 ^ 64) →
    (∀ y9 y10 y11 y12 y13, fin [A0, A1, A2, A3, some (.int props), some (.int (H + (L.map fun pf => V * w.getD pf.2 0 * (1 + (pf.1 : Int))).sum)), some (.int (B + (L.map fun pf => V * w.getD pf.2 0 * (latC r pf.1 : Int)).sum)), some (tD r), some (.int V), y9, y10, y11, y12, y13, A14, A15]) →
    frW [11] (fun e2 K => runs GM pairB e2 { nx := K, rt := rt, bk := bk, ct := K, ex := ex }) fin (L.map (onP w k)) [A0, A1, A2, A3, some (.int props), some (.int H), some (.int B), some (tD r), some (.int V), some K9, y10, y11, y12, y13, A14, A15]
  | [], H, B, K9, y10, y11, y12, y13, _, _, hf => by
    have := hf (some K9) y10 y11 y12 y13
    simp only [List.map_nil, List.sum_nil, Int.add_zero] at this
    exact this
  | pf :: L, H, B, K9, y10, y11, y12, y13, hK, hb, hf => by
    obtain ⟨p, f⟩ := pf
    have h1 := hb (p, f) List.mem_cons_self
    rw [List.map_cons, frW]
    simp only [bindW, List.set_cons_succ, List.set_cons_zero]
    refine pair_in (top := 0) hr h0 hK h1.1 h1.2 ?_
    refine pairs_loop hr h0 L _ _ (kD k) _ _ _ _ (by simp [kD, frz]) (fun pf h => hb pf (List.mem_cons_of_mem _ h)) fun y9 y10 y11 y12 y13 => ?_
    have := hf y9 y10 y11 y12 y13
    simp only [List.map_cons, List.sum_cons, ← Int.add_assoc] at this
    exact this
theorem fr_top (k : List Nat) : ∀ (n s f : Nat), ∀ pf ∈ frL k s n f, pf.1 < s + n
  | 0, s, f, pf, h => by simp [frL] at h
  | n + 1, s, f, pf, h => by
    rw [frL] at h
    split at h
    · have := fr_top k n (s + 1) f pf h
      omega
    · rcases List.mem_cons.mp h with rfl | h
      · show s < _
        omega
      · have := fr_top k n (s + 1) (f + 1) pf h
        omega
def keptE2 : E := .lc [10] (.it (.fv 7)) (.cons (.cmp .Gt (.var 10) (.int 0)) .nil) (.bin .Sub (.var 10) (.int 1))
theorem kept_ev {A0 A1 A2 A3 A4 A5 A6 A8 A9 A10 A11 A12 A13 A14 A15 : Option D} {r : List Nat} {Q : D → En → Prop} {X : Xp} (hr : r.length ≤ 1000) (hQ : Q (.lst true ((rI (kept r)).map .int)) [A0, A1, A2, A3, A4, A5, A6, some (tD r), A8, A9, none, A11, A12, A13, A14, A15]) :
    ev GM keptE2 [A0, A1, A2, A3, A4, A5, A6, some (tD r), A8, A9, A10, A11, A12, A13, A14, A15] Q X := by
  have h7 : fz (tD r) = true := fz_tup_ints _
  unfold keptE2
  rw [ev_lc, src_it, ev_fvf (d := tD r) rfl h7]
  refine ⟨_, rfl, ?_⟩
  have ef : frzs ((rI r).map D.int) = r.map fun x : Nat => D.int (x : Int) := by
    rw [frzs_of _ (by simp)]
    unfold rI
    rw [List.map_map]
    rfl
  rw [ef]
  simp only [offs, List.set_cons_succ, List.set_cons_zero]
  refine lc_mp (fun x : Nat => D.int (x : Int)) (fun x => decide (0 < x)) (fun x : Nat => D.int ((x : Int) - 1)) (fun a ha Kn Ky hn hy => ?_) (by simp; omega) ?_
  · simp only [bindW, List.set_cons_succ, List.set_cons_zero, evTs]
    rw [ev_cmp, asR_vf (d := .int (a : Int)) rfl rfl, asR_n rfl, ev_int]
    simp only [rv, cmpW, intW]
    refine ⟨_, rfl, ?_⟩
    by_cases hp : 0 < a
    · rw [if_pos (decide_eq_true (by omega)), ev_bin, asR_vf (d := .int (a : Int)) rfl rfl, asR_n rfl, ev_int]
      simp only [rv, bopW, subW, offs, List.set_cons_succ, List.set_cons_zero]
      exact hy (decide_eq_true hp)
    · rw [if_neg (by simp; omega)]
      simp only [offs, List.set_cons_succ, List.set_cons_zero]
      exact hn (decide_eq_false hp)
  · rw [List.nil_append, rI_kept]
    exact hQ
theorem fzs_on (w : List Int) (k : List Nat) : ∀ L : List (Nat × Nat), fzs (L.map (onP w k)) = true
  | [] => rfl
  | a :: L => by rw [List.map_cons, fzs, fzs_on w k L]; simp [onP, fz, fzs]
theorem mean_row {top props : Nat} {w : List Int} {Wt : D} {A2 A3 y8 y9 y10 y11 y12 y13 A14 A15 : Option D} {r : List Nat} {H B : Int} {P : Pt} (W : Sm7 top props w) (hW : fz Wt = true) (hWI : itms Wt = some (w.map .int)) (hr : r ∈ choP top props)
    (hP : ∀ y8 y9 y10 y11 y12 y13, P.nx [some (chD false top props w), some Wt, A2, A3, some (.int props), some (.int (H + hiR w top r)), some (.int (B + beR w top props r)), some (tD r), y8, y9, y10, y11, y12, y13, A14, A15]) :
    runs GM rowB [some (chD false top props w), some Wt, A2, A3, some (.int props), some (.int H), some (.int B), some (tD r), y8, y9, y10, y11, y12, y13, A14, A15] P := by
  have u := (cho_up W.t1 W.t7 W.pt).1 r hr
  have hpt := W.pt
  have ht7 := W.t7
  have hrl : r.length ≤ 1000 := by rw [u.len]; omega
  have h7 : fz (tD r) = true := fz_tup_ints _
  have hc : fz (chD false top props w) = true := fz_ch _ _ _
  have f1 : GM.mth "Chance" "share" = some s_Chance_share := rfl
  have f2 : GM.fns "_law_onward" = some s__law_onward := rfl
  have eb : rowB = .cons (.asg 8 (.meth "Chance" "share" (.var 0) (.cons (.blt .list1 (.cons (.fv 7) .nil)) .nil))) (.cons (.asg 9 keptE2) (.cons (.forr [11] (.it (.call "_law_onward" (.cons (.fld (.var 0) "top") (.cons (.fv 1) (.cons (.fv 7) .nil))))) pairB) .nil)) := rfl
  rw [eb, runs_c, run_asg, ev]
  refine ⟨rfl, ?_⟩
  rw [asR_vf (d := chD false top props w) rfl hc]
  refine ⟨⟨false, chN, chV top props w, rfl, by decide⟩, ?_⟩
  rw [evr_c, asR_n rfl, ev_blt, evr_c, asR_fv, ev_fvf (d := tD r) rfl h7, evr_0]
  simp only [rvs, rv, bltW]
  refine ⟨_, rfl, by simp, ?_⟩
  try dsimp only
  rw [evr_0, f1, callW_some (by rfl)]
  refine w_share (O := .lst false ((rI r).map .int)) (by simp [frz]) rfl rfl W.toWk u _ _ ?_
  simp only [putA_v]
  unfold putA
  simp only [List.set_cons_succ, List.set_cons_zero]
  rw [runs_c, run_asg]
  refine kept_ev hrl ?_
  simp only [List.set_cons_succ, List.set_cons_zero]
  rw [runs_1, run_forr, src_it, ev_call, evr_c, asR_fld]
  refine ev_top rfl ?_
  rw [evr_c, asR_fv, ev_fvf (d := Wt) rfl hW, evr_c, asR_fv, ev_fvf (d := tD r) rfl h7, evr_0, f2, callW_some (by rfl)]
  refine w_onward hW hWI h7 rfl (by omega) hrl (fun h0 => fr_lt W hr h0) (fun h0 => ?_) fun h0 L' pL => ?_
  · simp only [putA_v]
    unfold putA
    refine ⟨_, rfl, ?_⟩
    have ef : frzs [D.tup [.tup ((rI (kept r)).map .int), .int w.sum]] = [D.tup [.tup ((rI (kept r)).map .int), .int w.sum]] := frzs_of _ (by simp [fzs, fz])
    rw [ef, frW]
    simp only [bindW, List.set_cons_succ, List.set_cons_zero]
    have hw : -(2 ^ 64) < w.sum ∧ w.sum < 2 ^ 64 := W.tb _ (List.mem_map.mpr ⟨0, List.mem_range.mpr (by have := W.len; omega), rfl⟩)
    refine pair_out h0 (by omega) hw ?_
    dsimp only
    rw [frW]
    have := hP (some (.int (shV w r))) (some (.lst true ((rI (kept r)).map .int))) none (some (.tup [.tup ((rI (kept r)).map .int), .int w.sum])) (some (.int 0)) (some (.int props))
    unfold hiR beR at this
    rw [if_neg (by rw [h0]; decide), if_neg (by rw [h0]; decide), Int.add_zero] at this
    exact this
  · simp only [putA_v]
    unfold putA
    refine ⟨_, rfl, ?_⟩
    rw [frzs_of _ (fzs_on w (kept r) L')]
    refine pairs_loop hrl h0 L' H B (.lst true ((rI (kept r)).map .int)) _ _ _ _ (by simp [frz, kD]) (fun pf hp => ?_) fun y9 y10 y11 y12 y13 => ?_
    · have hm := pL.mem_iff.mp hp
      have h1 := fr_top (kept r) top 0 0 pf hm
      have h2 := fr_lt W hr h0 pf hm
      refine ⟨by omega, ?_⟩
      rw [List.getD_eq_getElem?_getD, List.getElem?_eq_getElem h2, Option.getD_some]
      exact W.wb _ (List.getElem_mem _)
    · have := hP (some (.int (shV w r))) y9 y10 y11 y12 y13
      unfold hiR beR at this
      rw [if_pos h0, if_pos h0, perm_sum (pL.map fun pf => shV w r * w.getD pf.2 0 * (1 + (pf.1 : Int))).symm, perm_sum (pL.map fun pf => shV w r * w.getD pf.2 0 * (latC r pf.1 : Int)).symm] at this
      exact this
end Pf

namespace Pf
open PySem PySem.Spec PyProof.Rows L2
theorem rows_loop {top props : Nat} {w : List Int} {Wt : D} {A2 A3 A14 A15 : Option D} {fin : En → Prop} {rt : D → En → Prop} {bk : En → Prop} {ex : Xp} (W : Sm7 top props w) (hW : fz Wt = true) (hWI : itms Wt = some (w.map .int)) : ∀ (rows : List (List Nat)) (H B : Int) (y7 y8 y9 y10 y11 y12 y13 : Option D), (∀ r ∈ rows, r ∈ choP top props) →
    (∀ y7 y8 y9 y10 y11 y12 y13, fin [some (chD false top props w), some Wt, A2, A3, some (.int props), some (.int (H + (rows.map (hiR w top)).sum)), some (.int (B + (rows.map (beR w top props)).sum)), y7, y8, y9, y10, y11, y12, y13, A14, A15]) →
    frW [7] (fun e2 K => runs GM rowB e2 { nx := K, rt := rt, bk := bk, ct := K, ex := ex }) fin (rows.map tD) [some (chD false top props w), some Wt, A2, A3, some (.int props), some (.int H), some (.int B), y7, y8, y9, y10, y11, y12, y13, A14, A15]
  | [], H, B, y7, y8, y9, y10, y11, y12, y13, _, hf => by
    have := hf y7 y8 y9 y10 y11 y12 y13
    simp only [List.map_nil, List.sum_nil, Int.add_zero] at this
    exact this
  | r :: rows, H, B, y7, y8, y9, y10, y11, y12, y13, hr, hf => by
    rw [List.map_cons, frW]
    simp only [bindW, List.set_cons_succ, List.set_cons_zero]
    refine mean_row W hW hWI (hr r List.mem_cons_self) fun y8 y9 y10 y11 y12 y13 => ?_
    refine rows_loop W hW hWI rows _ _ _ _ _ _ _ _ _ (fun r' h => hr r' (List.mem_cons_of_mem _ h)) fun y7 y8 y9 y10 y11 y12 y13 => ?_
    have := hf y7 y8 y9 y10 y11 y12 y13
    simp only [List.map_cons, List.sum_cons, ← Int.add_assoc] at this
    exact this
theorem cho_ne : pairs7.all (fun c => !(choP c.1 c.2).isEmpty) = true := by decide +kernel
theorem fz_rows (L : List (List Nat)) : fzs (L.map tD) = true := by
  induction L with
  | nil => rfl
  | cons r L ih => rw [List.map_cons, fzs, ih]; simp [tD]
/-- the first row's length -/
theorem ev_first {G : Gb} {i : Nat} {en : En} {Ls : D} {top props : Nat} {Q : D → En → Prop} {X : Xp} (h1 : 1 ≤ top) (h2 : top ≤ 7) (h3 : props ≤ top) (hL : fz Ls = true) (hI : itms Ls = some ((choP top props).map tD)) (he : (en[i]?).join = some Ls) (hq : Q (.int props) en) : ev G (.blt .len (.cons (.idx (.fv i) (.int 0)) .nil)) en Q X := by
  have hne := List.all_eq_true.mp cho_ne _ (pairs_mem h1 h2 h3)
  have hu := (cho_up h1 h2 h3).1
  dsimp only at hne
  rw [ev_blt, evr_c, asR_n rfl, ev_idx, asR_fv, ev_fvf he hL, ev_int]
  simp only [rv]
  cases hc : choP top props with
  | nil => rw [hc] at hne; cases hne
  | cons r L =>
    rw [hc] at hI hu
    refine ixW_of hI (d := tD r) (by have := atI_nat (xs := (r :: L).map tD) (i := 0) (by simp); simpa using this) ⟨fun _ => fz_tup_ints _, ?_⟩
    rw [evr_0]
    simp only [rvs, rv, bltW]
    rw [lenW_of (xs := (rI r).map .int) rfl]
    simp only [List.length_map, rI_len]
    rw [(hu r List.mem_cons_self).len]
    exact hq
theorem mul_log {a b : Int} {x : Nat} (ha : a.natAbs ≤ 2 ^ x) (hx : x ≤ 1000) (hb : b.natAbs.log2 ≤ 74000) : (-(2 ^ 64) < a ∧ a < 2 ^ 64) ∨ (-(2 ^ 64) < b ∧ b < 2 ^ 64) ∨ a.natAbs.log2 + b.natAbs.log2 < 1000000 := by
  have := log2_le ha
  exact .inr (.inr (by omega))
def sumE : E := .blt .sum (.cons (.lc [15] (.rng (.cons (.blt .len (.cons (.fv 1) .nil)) .nil)) .nil (.bin .Mult (.var 15) (.idx (.fv 1) (.var 15)))) .nil)
def sumW (w : List Int) : Int := ((List.range w.length).map fun a : Nat => (a : Int) * w.getD a 0).sum
theorem sumE_ev {Wt : D} {w : List Int} {A0 A2 A3 A4 A5 A6 A7 A8 A9 A10 A11 A12 A13 A14 A15 : Option D} {Q : D → En → Prop} {X : Xp} (hW : fz Wt = true) (hWI : itms Wt = some (w.map .int)) (hl : w.length ≤ 1001) (hQ : Q (.int (sumW w)) [A0, some Wt, A2, A3, A4, A5, A6, A7, A8, A9, A10, A11, A12, A13, A14, none]) :
    ev GM sumE [A0, some Wt, A2, A3, A4, A5, A6, A7, A8, A9, A10, A11, A12, A13, A14, A15] Q X := by
  unfold sumE
  rw [ev_blt, evr_c, asR_n rfl, ev_lc]
  simp only [evSrc, evs]
  rw [ev_blt, evr_c, asR_fv, ev_fvf (d := Wt) rfl hW, evr_0]
  simp only [rvs, rv, bltW]
  rw [lenW_of hWI]
  simp only [List.length_map]
  refine ⟨by omega, ?_⟩
  rw [rgL_0]
  simp only [offs, List.set_cons_succ, List.set_cons_zero]
  refine lc_all (fun a : Nat => D.int (a : Int)) (fun a : Nat => D.int ((a : Int) * w.getD a 0)) (fun a ha Kn Ky hy => ?_) (by rw [List.length_range']; omega) ?_
  · have h2 := (List.mem_range'_1.mp ha).2
    simp only [bindW, evTs, if_true, List.set_cons_succ, List.set_cons_zero]
    rw [ev_bin, asR_vf (d := .int (a : Int)) rfl rfl, asR_n rfl, ev_idx, asR_fv, ev_fvf (d := Wt) rfl hW, ev_vf (d := .int (a : Int)) rfl rfl]
    simp only [rv]
    refine ixW_of hWI (atI_int (by omega)) ⟨fun _ => rfl, ?_⟩
    simp only [bopW, mulW, offs, List.set_cons_succ, List.set_cons_zero]
    rw [List.getD_eq_getElem?_getD, List.getElem?_eq_getElem (by omega), Option.getD_some] at hy
    exact ⟨.inl ⟨by omega, by omega⟩, hy⟩
  · rw [evr_0]
    simp only [rvs, rv, bltW]
    refine ⟨(List.range' 0 w.length).map fun a : Nat => (a : Int) * w.getD a 0, by simp [itms], ?_⟩
    rw [← List.range_eq_range']
    exact hQ
theorem sum_le {l : List Int} {M : Nat} : (∀ a ∈ l, a.natAbs ≤ M) → l.sum.natAbs ≤ l.length * M := by
  induction l with
  | nil => intro _; simp
  | cons a l ih =>
    intro h
    have h1 := h a List.mem_cons_self
    have h2 := ih fun b hb => h b (List.mem_cons_of_mem _ hb)
    have h3 := Int.natAbs_add_le a l.sum
    rw [List.sum_cons, List.length_cons, Nat.add_mul]
    omega
theorem sumW_le {top props : Nat} {w : List Int} (W : Sm7 top props w) : (sumW w).natAbs ≤ 2 ^ 70 := by
  have hl := W.len
  have hp := W.pt
  have ht := W.t7
  have := sum_le (l := (List.range w.length).map fun a : Nat => (a : Int) * w.getD a 0) (M := 8 * 2 ^ 64) fun x hx => by
    obtain ⟨a, ha, rfl⟩ := List.mem_map.mp hx
    have ha := List.mem_range.mp ha
    have hw := W.wb (w.getD a 0) (by rw [List.getD_eq_getElem?_getD, List.getElem?_eq_getElem ha, Option.getD_some]; exact List.getElem_mem _)
    rw [Int.natAbs_mul]
    exact Nat.mul_le_mul (by omega) (by omega)
  have h2 : ((List.range w.length).map fun a : Nat => (a : Int) * w.getD a 0).length * (8 * 2 ^ 64) ≤ 8 * (8 * 2 ^ 64) := Nat.mul_le_mul_right _ (by simp; omega)
  have e : 8 * (8 * 2 ^ 64) = 2 ^ 70 := by decide
  unfold sumW
  omega
theorem few_log {top props : Nat} {w : List Int} (W : Sm7 top props w) : (fewI w props).natAbs.log2 ≤ 74000 := by
  unfold fewI
  split
  · simp
  · have := W.len
    have := W.pt
    have := W.t7
    exact rise_log (by rw [tailsI_len]; omega) (by omega) W.tb
theorem t0_small {top props : Nat} {w : List Int} (W : Wk top props w) : -(2 ^ 64) < tl w 0 ∧ tl w 0 < 2 ^ 64 := W.tb _ (List.mem_map.mpr ⟨0, List.mem_range.mpr (by have := W.len; omega), rfl⟩)
theorem w_means {top props : Nat} {w : List Int} {Wt T Ls : D} (W : Sm7 top props w) (hW : fz Wt = true) (hWI : itms Wt = some (w.map .int)) (hT : fz T = true) (hTI : itms T = some ((tailsI w).map .int)) (hL : fz Ls = true) (hLI : itms Ls = some ((choP top props).map tD)) :
    Ret s__law_means [chD false top props w, Wt, T, Ls] (.bl true) [some (chD false top props w), some Wt, some T, some Ls] := by
  intro q x h
  have hlen := W.len
  have hpt := W.pt
  have ht7 := W.t7
  have hc : fz (chD false top props w) = true := fz_ch _ _ _
  have f1 : GM.fns "total_share" = some s_total_share := rfl
  have f2 : GM.fns "rising_sum" = some s_rising_sum := rfl
  have hw0 : 0 < w.length := by omega
  unfold s__law_means semF
  refine ⟨rfl, ?_⟩
  have e0 : m__law_means = .cons (.asg 4 (.blt .len (.cons (.idx (.fv 3) (.int 0)) .nil))) (.cons (.asg 5 (.int 0)) (.cons (.asg 6 (.int 0)) (.cons (.forr [7] (.it (.fv 3)) rowB) (.cons (.iff (.cmp .NotEq (.var 5) (.bin .Mult (.bin .Mult (.var 4) (.idx (.fv 2) (.int 0))) (.call "total_share" (.cons (.var 0) .nil)))) (.cons (.ret (.bl false)) .nil) .nil) (.cons (.asg 14 (.int 0)) (.cons (.iff (.cmp .Gt (.var 4) (.int 0)) (.cons (.asg 14 (.call "rising_sum" (.cons (.blt .list1 (.cons (.fv 2) .nil)) (.cons (.bin .Sub (.var 4) (.int 1)) .nil)))) .nil) .nil) (.cons (.ret (.cmp .Eq (.var 6) (.bin .Mult (.bin .Mult sumE (.idx (.fv 2) (.int 0))) (.var 14)))) .nil))))))) := rfl
  rw [e0, runs_c, run_asg]
  refine ev_first W.t1 ht7 hpt hL hLI rfl ?_
  simp only [List.set_cons_succ, List.set_cons_zero, List.map_cons, List.map_nil, List.cons_append, List.nil_append, List.replicate]
  rw [runs_c, run_asg, ev_int]
  simp only [List.set_cons_succ, List.set_cons_zero]
  rw [runs_c, run_asg, ev_int]
  simp only [List.set_cons_succ, List.set_cons_zero]
  rw [runs_c, run_forr, src_it, ev_fvf (d := Ls) rfl hL]
  refine ⟨_, hLI, ?_⟩
  rw [frzs_of _ (fz_rows _)]
  refine rows_loop W hW hWI _ 0 0 _ _ _ _ _ _ _ (fun r h => h) fun y7 y8 y9 y10 y11 y12 y13 => ?_
  rw [Int.zero_add, Int.zero_add, law_hi W, show ((choP top props).map (beR w top props)).sum = sumW w * tl w 0 * fewI w props from law_be W]
  dsimp only
  have t0 := tailsI_at w (i := 0) hw0
  have ht0 := t0_small W.toWk
  rw [runs_c, run_iff, ev_cmp, asR_vf (d := .int _) rfl rfl, asR_n rfl, ev_bin, asR_n rfl, ev_bin, asR_vf (d := .int (props : Int)) rfl rfl, asR_n rfl, ev_idx, asR_fv, ev_fvf (d := T) rfl hT, ev_int]
  simp only [rv]
  refine ixW_of hTI t0 ⟨fun _ => rfl, ?_⟩
  simp only [bopW, mulW]
  refine ⟨.inr (.inl ht0), ?_⟩
  rw [asR_n rfl, ev_call, evr_c, asR_vf (d := chD false top props w) rfl hc, evr_0, f1, callW_some (by rfl)]
  refine w_total W.toWk _ _ ?_
  simp only [putA_v]
  unfold putA
  try simp only [rv, mulW]
  refine ⟨mul_log (x := 67) ?_ (by omega) (rise_log (by rw [tailsI_len]; omega) (by omega) W.tb), ?_⟩
  · rw [Int.natAbs_mul]
    have : (props : Int).natAbs * (tl w 0).natAbs ≤ 8 * 2 ^ 64 := Nat.mul_le_mul (by omega) (by omega)
    have e : 8 * 2 ^ 64 = 2 ^ 67 := by decide
    omega
  simp only [cmpW, eqW, dat, deq]
  refine ⟨⟨trivial, trivial⟩, _, rfl, ?_⟩
  rw [if_neg (by simp), runs_0]
  dsimp only
  rw [runs_c, run_asg, ev_int]
  simp only [List.set_cons_succ, List.set_cons_zero]
  have tail : ∀ (y14 : Int) (P : Pt), y14 = fewI w props → (∀ y15, P.rt (.bl true) [some (chD false top props w), some Wt, some T, some Ls, some (.int props), some (.int ((props : Int) * tl w 0 * rise (tailsI w) props)), some (.int (sumW w * tl w 0 * fewI w props)), y7, y8, y9, y10, y11, y12, y13, some (.int y14), y15]) → runs GM (.cons (.ret (.cmp .Eq (.var 6) (.bin .Mult (.bin .Mult sumE (.idx (.fv 2) (.int 0))) (.var 14)))) .nil) [some (chD false top props w), some Wt, some T, some Ls, some (.int props), some (.int ((props : Int) * tl w 0 * rise (tailsI w) props)), some (.int (sumW w * tl w 0 * fewI w props)), y7, y8, y9, y10, y11, y12, y13, some (.int y14), none] P := fun y14 P hy hP => by
    subst hy
    rw [runs_1, run_ret rfl, ev_cmp, asR_vf (d := .int _) rfl rfl, asR_n rfl, ev_bin, asR_n rfl, ev_bin, asR_n rfl]
    refine sumE_ev hW hWI (by omega) ?_
    rw [asR_n rfl, ev_idx, asR_fv, ev_fvf (d := T) rfl hT, ev_int]
    simp only [rv]
    refine ixW_of hTI t0 ⟨fun _ => rfl, ?_⟩
    simp only [bopW, mulW]
    refine ⟨.inr (.inl ht0), ?_⟩
    rw [asR_vf (d := .int _) rfl rfl]
    try simp only [rv, mulW]
    refine ⟨mul_log (x := 134) ?_ (by omega) (few_log W), ?_⟩
    · rw [Int.natAbs_mul]
      have h1 := sumW_le W
      have : (sumW w).natAbs * (tl w 0).natAbs ≤ 2 ^ 70 * 2 ^ 64 := Nat.mul_le_mul h1 (by omega)
      have e : 2 ^ 70 * 2 ^ 64 = 2 ^ 134 := by decide
      omega
    simp only [cmpW, eqW, dat, deq]
    refine ⟨⟨trivial, trivial⟩, ?_⟩
    have := hP none
    simpa using this
  rw [runs_c, run_iff, ev_cmp, asR_vf (d := .int (props : Int)) rfl rfl, asR_n rfl, ev_int]
  simp only [rv, cmpW, intW]
  refine ⟨_, rfl, ?_⟩
  by_cases hp : props = 0
  · rw [if_neg (by simp; omega), runs_0]
    dsimp only
    refine tail 0 _ (by unfold fewI; rw [if_pos hp]) fun y15 => ?_
    exact h
  · rw [if_pos (by simp; omega), runs_1, run_asg, ev_call, evr_c, asR_n rfl, ev_blt, evr_c, asR_fv, ev_fvf (d := T) rfl hT, evr_0]
    simp only [rvs, rv, bltW]
    refine ⟨_, hTI, by simp, ?_⟩
    try dsimp only
    rw [evr_c, asR_n rfl, ev_bin, asR_vf (d := .int (props : Int)) rfl rfl, asR_n rfl, ev_int]
    simp only [rv, bopW, subW]
    rw [evr_0, f2, show (props : Int) - 1 = ((props - 1 : Nat) : Int) by omega, callW_some (by rfl)]
    refine w_rising (S := .lst false ((tailsI w).map .int)) (by simp [frz]) rfl rfl (by rw [tailsI_len]; omega) (by omega) W.tb _ _ ?_
    simp only [putA_v]
    unfold putA
    refine tail _ _ (by unfold fewI; rw [if_neg hp]) fun y15 => ?_
    exact h
end Pf

namespace Pf
open PySem PySem.Spec PyProof.Rows L2
abbrev GS : Gb := mkH fs22 ms2 fkL exL emL ciL
def cntB : Ss := bodyF (nthS 3 m__law_sums)
def freeB : Ss := bodyF (nthS 7 m__law_sums)
theorem cnt_loop {w : List Int} {A0 A1 A2 A5 A9 A10 A11 : Option D} {Ls Sh : D} {L : List (List Nat)} {fin : En → Prop} {rt : D → En → Prop} {bk : En → Prop} {ex : Xp} (hL : fz Ls = true) (hLI : itms Ls = some (L.map tD)) (hS : fz Sh = true) (hSI : itms Sh = some ((L.map (shV w)).map .int)) : ∀ (n s : Nat) (B T : Int) (y : Option D), s + n = L.length →
    (∀ y, fin [A0, A1, A2, some Ls, some Sh, A5, some (.int (B + ((L.drop s).map fun r => if has0 r = true then 0 else shV w r).sum)), some (.int (T + ((L.drop s).map fun r => if has0 r = true then shV w r else 0).sum)), y, A9, A10, A11]) →
    frW [8] (fun e2 K => runs GS cntB e2 { nx := K, rt := rt, bk := bk, ct := K, ex := ex }) fin ((List.range' s n).map fun i : Nat => D.int (i : Int)) [A0, A1, A2, some Ls, some Sh, A5, some (.int B), some (.int T), y, A9, A10, A11]
  | 0, s, B, T, y, hs, hf => by
    have := hf y
    rw [List.drop_eq_nil_of_le (by omega)] at this
    simp only [List.map_nil, List.sum_nil, Int.add_zero] at this
    exact this
  | n + 1, s, B, T, y, hs, hf => by
    have hl : s < L.length := by omega
    have ih := cnt_loop (A0 := A0) (A1 := A1) (A2 := A2) (A5 := A5) (A9 := A9) (A10 := A10) (A11 := A11) (fin := fin) (rt := rt) (bk := bk) (ex := ex) hL hLI hS hSI n (s + 1) (B + if has0 L[s] = true then 0 else shV w L[s]) (T + if has0 L[s] = true then shV w L[s] else 0) (some (.int (s : Int))) (by omega) (fun y => by
      have := hf y
      rw [List.drop_eq_getElem_cons hl] at this
      simp only [List.map_cons, List.sum_cons, ← Int.add_assoc] at this
      exact this)
    have eb : cntB = .cons (.iff (.cmp .In (.int 0) (.idx (.fv 3) (.var 8))) (.cons (.aug 7 .Add (.idx (.fv 4) (.var 8))) .nil) (.cons (.aug 6 .Add (.idx (.fv 4) (.var 8))) .nil)) .nil := rfl
    rw [List.range'_succ, List.map_cons, frW]
    simp only [bindW, List.set_cons_succ, List.set_cons_zero]
    rw [eb] at ih ⊢
    have a1 : atI (L.map tD) (s : Int) = some (tD L[s]) := by
      rw [atI_nat (by rw [List.length_map]; exact hl), List.getElem_map]
    have a2 : atI ((L.map (shV w)).map D.int) (s : Int) = some (.int (shV w L[s])) := by
      rw [atI_int (by rw [List.length_map]; exact hl), List.getElem_map]
    rw [runs_1, run_iff, ev_cmp, asR_n rfl, ev_int, asR_n rfl, ev_idx, asR_fv, ev_fvf (d := Ls) rfl hL, ev_vf (d := .int (s : Int)) rfl rfl]
    simp only [rv]
    refine ixW_of hLI a1 ⟨fun _ => fz_tup_ints _, ?_⟩
    simp only [rv, cmpW, inW, tD, itms, Pf.flat]
    refine ⟨⟨trivial, all_flat_ints _⟩, ?_⟩
    rw [any_deq, has0_in]
    refine ⟨_, rfl, ?_⟩
    cases h0 : has0 L[s] with
    | true =>
      rw [h0, if_pos rfl, if_pos rfl, Int.add_zero] at ih
      rw [if_pos (by decide), runs_1, run]
      refine ⟨⟨_, rfl⟩, ?_⟩
      rw [ev_idx, asR_fv, ev_fvf (d := Sh) rfl hS, ev_vf (d := .int (s : Int)) rfl rfl]
      simp only [rv]
      refine ixW_of hSI a2 ⟨fun _ => rfl, ?_⟩
      simp only [List.getElem?_cons_succ, List.getElem?_cons_zero, Option.join_some]
      refine ⟨_, rfl, ?_⟩
      exact ih
    | false =>
      rw [h0, if_neg (by decide), if_neg (by decide), Int.add_zero] at ih
      rw [if_neg (by decide), runs_1, run]
      refine ⟨⟨_, rfl⟩, ?_⟩
      rw [ev_idx, asR_fv, ev_fvf (d := Sh) rfl hS, ev_vf (d := .int (s : Int)) rfl rfl]
      simp only [rv]
      refine ixW_of hSI a2 ⟨fun _ => rfl, ?_⟩
      simp only [List.getElem?_cons_succ, List.getElem?_cons_zero, Option.join_some]
      refine ⟨_, rfl, ?_⟩
      exact ih
theorem free_loop {top props : Nat} {w : List Int} {A3 A4 A5 A6 A8 : Option D} {Wt T : D} {fin : En → Prop} {rt : D → En → Prop} {bk : En → Prop} {ex : Xp} (W : Sm7 top props w) (hW : fz Wt = true) (hWI : itms Wt = some (w.map .int)) (hT : fz T = true) (hTI : itms T = some ((tailsI w).map .int))
    (hf : ∀ y y2, fin [some (chD false top props w), some Wt, some T, A3, A4, A5, A6, some (.int (tl w 0 * fewI w props)), A8, some (.int (fewI w props)), y, y2]) : ∀ (n s : Nat) (y y2 : Option D), s + n = w.length →
    frW [10] (fun e2 K => runs GS freeB e2 { nx := K, rt := rt, bk := bk, ct := K, ex := ex }) fin ((List.range' s n).map fun i : Nat => D.int (i : Int)) [some (chD false top props w), some Wt, some T, A3, A4, A5, A6, some (.int (tl w 0 * fewI w props)), A8, some (.int (fewI w props)), y, y2]
  | 0, s, y, y2, hs => hf y y2
  | n + 1, s, y, y2, hs => by
    have hl : s < w.length := by omega
    have ih := free_loop (rt := rt) (bk := bk) (ex := ex) W hW hWI hT hTI hf n (s + 1) (some (.int (s : Int))) (some (.int (thrownI w props s))) (by omega)
    have hlen := W.len
    have hpt := W.pt
    have ht7 := W.t7
    have hc : fz (chD false top props w) = true := fz_ch _ _ _
    have f1 : GS.fns "thrown_sum" = some s_thrown_sum := rfl
    have f2 : GS.fns "_law_same" = some s__law_same := rfl
    have eb : freeB = .cons (.asg 11 (.call "thrown_sum" (.cons (.var 0) (.cons (.var 10) .nil)))) (.cons (.iff (.bop false (.cons (.nt (.call "_law_same" (.cons (.var 11) (.cons (.bin .Mult (.idx (.fv 1) (.var 10)) (.var 7)) .nil)))) (.cons (.cmp .NotEq (.var 11) (.bin .Mult (.bin .Mult (.idx (.fv 1) (.var 10)) (.idx (.fv 2) (.int 0))) (.var 9))) .nil))) (.cons (.ret (.bl false)) .nil) .nil) .nil) := rfl
    rw [List.range'_succ, List.map_cons, frW]
    simp only [bindW, List.set_cons_succ, List.set_cons_zero]
    rw [eb] at ih ⊢
    have hw := W.wb w[s] (List.getElem_mem _)
    have ht0 := t0_small W.toWk
    have t0 := tailsI_at w (i := 0) (by omega)
    have eg : w.getD s 0 = w[s] := by rw [List.getD_eq_getElem?_getD, List.getElem?_eq_getElem hl, Option.getD_some]
    have e1 : thrownI w props s = w[s] * (tl w 0 * fewI w props) := by
      unfold thrownI fewI
      rw [eg]
      split
      · rw [Int.mul_zero, Int.mul_zero]
      · rw [Int.mul_assoc]
    rw [runs_c, run_asg, ev_call, evr_c, asR_vf (d := chD false top props w) rfl hc, evr_c, asR_vf (d := .int (s : Int)) rfl rfl, evr_0, f1, callW_some (by rfl)]
    refine w_thrown W.toWk hl _ _ ?_
    simp only [putA_v]
    unfold putA
    simp only [List.set_cons_succ, List.set_cons_zero]
    rw [runs_1, run_iff, ev_bopc, ev_nt, ev_call, evr_c, asR_vf (d := .int (thrownI w props s)) rfl rfl, evr_c, asR_n rfl, ev_bin, asR_n rfl, ev_idx, asR_fv, ev_fvf (d := Wt) rfl hW, ev_vf (d := .int (s : Int)) rfl rfl]
    simp only [rv]
    refine ixW_of hWI (atI_int hl) ⟨fun _ => rfl, ?_⟩
    rw [asR_vf (d := .int (tl w 0 * fewI w props)) rfl rfl]
    simp only [rv, bopW, mulW]
    refine ⟨.inl hw, ?_⟩
    rw [evr_0, f2, callW_some (by rfl)]
    refine w_same _ _ ?_
    simp only [putA_v]
    unfold putA
    rw [decide_eq_true e1]
    refine ⟨_, rfl, _, rfl, ?_⟩
    rw [if_pos (show (!true) = false from rfl), ev_bop1, ev_cmp, asR_vf (d := .int (thrownI w props s)) rfl rfl, asR_n rfl, ev_bin, asR_n rfl, ev_bin, asR_n rfl, ev_idx, asR_fv, ev_fvf (d := Wt) rfl hW, ev_vf (d := .int (s : Int)) rfl rfl]
    simp only [rv]
    refine ixW_of hWI (atI_int hl) ⟨fun _ => rfl, ?_⟩
    rw [asR_n rfl, ev_idx, asR_fv, ev_fvf (d := T) rfl hT, ev_int]
    simp only [rv]
    refine ixW_of hTI t0 ⟨fun _ => rfl, ?_⟩
    simp only [bopW, mulW]
    refine ⟨.inl hw, ?_⟩
    rw [asR_vf (d := .int (fewI w props)) rfl rfl]
    simp only [rv, mulW]
    refine ⟨mul_log (x := 128) ?_ (by omega) (few_log W), ?_⟩
    · rw [Int.natAbs_mul]
      have : w[s].natAbs * (tl w 0).natAbs ≤ 2 ^ 64 * 2 ^ 64 := Nat.mul_le_mul (by omega) (by omega)
      have e : 2 ^ 64 * 2 ^ 64 = 2 ^ 128 := by decide
      omega
    simp only [cmpW, eqW, dat, deq]
    rw [Int.mul_assoc, ← e1]
    refine ⟨⟨trivial, trivial⟩, _, rfl, ?_⟩
    rw [if_neg (by simp), runs_0]
    exact ih
theorem w_sums {top props : Nat} {w : List Int} {Wt T Ls Sh : D} (W : Sm7 top props w) (hW : fz Wt = true) (hWI : itms Wt = some (w.map .int)) (hT : fz T = true) (hTI : itms T = some ((tailsI w).map .int)) (hL : fz Ls = true) (hLI : itms Ls = some ((choP top props).map tD)) (hS : fz Sh = true) (hSI : itms Sh = some (((choP top props).map (shV w)).map .int)) :
    Ret s__law_sums [chD false top props w, Wt, T, Ls, Sh] (.bl true) [some (chD false top props w), some Wt, some T, some Ls, some Sh] := by
  intro q x h
  have hlen := W.len
  have hpt := W.pt
  have ht7 := W.t7
  have hc : fz (chD false top props w) = true := fz_ch _ _ _
  have f1 : GS.fns "empty_sum" = some s_empty_sum := rfl
  have f2 : GS.fns "_law_same" = some s__law_same := rfl
  have f3 : GS.fns "_law_rising" = some s__law_rising := rfl
  have hw0 : 0 < w.length := by omega
  unfold s__law_sums semF
  refine ⟨rfl, ?_⟩
  have e0 : m__law_sums = .cons (.asg 5 (.blt .len (.cons (.idx (.fv 3) (.int 0)) .nil))) (.cons (.asg 6 (.int 0)) (.cons (.asg 7 (.int 0)) (.cons (.forr [8] (.rng (.cons (.blt .len (.cons (.fv 3) .nil)) .nil)) cntB) (.cons (.iff (.bop false (.cons (.nt (.call "_law_same" (.cons (.call "empty_sum" (.cons (.var 0) .nil)) (.cons (.var 6) .nil)))) (.cons (.cmp .NotEq (.var 6) (.call "_law_rising" (.cons (.slc (.fv 2) (.so (.int 1)) .no) (.cons (.var 5) .nil)))) .nil))) (.cons (.ret (.bl false)) .nil) .nil) (.cons (.asg 9 (.int 0)) (.cons (.iff (.cmp .Gt (.var 5) (.int 0)) (.cons (.asg 9 (.call "_law_rising" (.cons (.fv 2) (.cons (.bin .Sub (.var 5) (.int 1)) .nil)))) .nil) .nil) (.cons (.forr [10] (.rng (.cons (.blt .len (.cons (.fv 1) .nil)) .nil)) freeB) (.cons (.ret (.bl true)) .nil)))))))) := rfl
  rw [e0, runs_c, run_asg]
  refine ev_first W.t1 ht7 hpt hL hLI rfl ?_
  simp only [List.set_cons_succ, List.set_cons_zero, List.map_cons, List.map_nil, List.cons_append, List.nil_append, List.replicate]
  rw [runs_c, run_asg, ev_int]
  simp only [List.set_cons_succ, List.set_cons_zero]
  rw [runs_c, run_asg, ev_int]
  simp only [List.set_cons_succ, List.set_cons_zero]
  rw [runs_c, run_forr]
  simp only [evSrc, evs]
  rw [ev_blt, evr_c, asR_fv, ev_fvf (d := Ls) rfl hL, evr_0]
  simp only [rvs, rv, bltW]
  rw [lenW_of hLI]
  simp only [List.length_map]
  have hcl := (cho_up W.t1 ht7 hpt).2
  refine ⟨by omega, ?_⟩
  rw [rgL_0]
  refine cnt_loop hL hLI hS hSI _ 0 0 0 none (by omega) fun y => ?_
  rw [List.drop_zero, Int.zero_add, Int.zero_add, show ((choP top props).map fun r => if has0 r = true then 0 else shV w r).sum = rise ((tailsI w).drop 1) props from law_bare W, show ((choP top props).map fun r => if has0 r = true then shV w r else 0).sum = tl w 0 * fewI w props from law_thr W]
  rw [runs_c, run_iff, ev_bopc, ev_nt, ev_call, evr_c, asR_n rfl, ev_call, evr_c, asR_vf (d := chD false top props w) rfl hc, evr_0, f1, callW_some (by rfl)]
  refine w_empty W.toWk _ _ ?_
  simp only [putA_v]
  unfold putA
  rw [evr_c, asR_vf (d := .int (rise ((tailsI w).drop 1) props)) rfl rfl, evr_0, f2, callW_some (by rfl)]
  refine w_same _ _ ?_
  simp only [putA_v]
  unfold putA
  refine ⟨true, by simp, _, rfl, ?_⟩
  rw [if_pos (show (!true) = false from rfl), ev_bop1, ev_cmp, asR_vf (d := .int (rise ((tailsI w).drop 1) props)) rfl rfl, asR_n rfl, ev_call, evr_c, asR_n rfl, ev_slc, asR_fv, ev_fvf (d := T) rfl hT]
  simp only [evO, ev_int, rv]
  refine ⟨_, rfl, slW_of hTI (by simp) fun d hd => ?_⟩
  rw [show (1 : Int) = ((1 : Nat) : Int) from rfl, cut_from, ← List.map_drop] at hd
  rw [evr_c, asR_vf (d := .int (props : Int)) rfl rfl, evr_0, f3, callW_some (by rfl)]
  have hdz := itms_frz hd
  rw [frzs_of _ (fzs_ints _)] at hdz
  refine w_law_rising rfl hdz (by omega) (fun a ha => W.tb a (List.mem_of_mem_drop ha)) _ _ ?_
  simp only [putA_v]
  unfold putA
  simp only [rv, cmpW, eqW, dat, deq]
  refine ⟨⟨trivial, trivial⟩, _, rfl, ?_⟩
  rw [if_neg (by simp), runs_0]
  dsimp only
  rw [runs_c, run_asg, ev_int]
  simp only [List.set_cons_succ, List.set_cons_zero]
  have tail : ∀ (z : Int) (P : Pt), z = fewI w props → (∀ y10 y11, P.rt (.bl true) [some (chD false top props w), some Wt, some T, some Ls, some Sh, some (.int props), some (.int (rise ((tailsI w).drop 1) props)), some (.int (tl w 0 * fewI w props)), y, some (.int z), y10, y11]) → runs GS (.cons (.forr [10] (.rng (.cons (.blt .len (.cons (.fv 1) .nil)) .nil)) freeB) (.cons (.ret (.bl true)) .nil)) [some (chD false top props w), some Wt, some T, some Ls, some Sh, some (.int props), some (.int (rise ((tailsI w).drop 1) props)), some (.int (tl w 0 * fewI w props)), y, some (.int z), none, none] P := fun z P hz hP => by
    subst hz
    rw [runs_c, run_forr]
    simp only [evSrc, evs]
    rw [ev_blt, evr_c, asR_fv, ev_fvf (d := Wt) rfl hW, evr_0]
    simp only [rvs, rv, bltW]
    rw [lenW_of hWI]
    simp only [List.length_map]
    refine ⟨by omega, ?_⟩
    rw [rgL_0]
    refine free_loop W hW hWI hT hTI (fun y10 y11 => ?_) _ 0 none none (by omega)
    rw [runs_1, run_ret rfl, ev_bl]
    exact hP y10 y11
  rw [runs_c, run_iff, ev_cmp, asR_vf (d := .int (props : Int)) rfl rfl, asR_n rfl, ev_int]
  simp only [rv, cmpW, intW]
  refine ⟨_, rfl, ?_⟩
  by_cases hp : props = 0
  · rw [if_neg (by simp; omega), runs_0]
    dsimp only
    refine tail 0 _ (by unfold fewI; rw [if_pos hp]) fun y10 y11 => ?_
    exact h
  · rw [if_pos (by simp; omega), runs_1, run_asg, ev_call, evr_c, asR_fv, ev_fvf (d := T) rfl hT, evr_c, asR_n rfl, ev_bin, asR_vf (d := .int (props : Int)) rfl rfl, asR_n rfl, ev_int]
    simp only [rv, bopW, subW]
    rw [evr_0, f3, show (props : Int) - 1 = ((props - 1 : Nat) : Int) by omega, callW_some (by rfl)]
    refine w_law_rising (frz_of _ hT) hTI (by omega) W.tb _ _ ?_
    simp only [putA_v]
    unfold putA
    refine tail _ _ (by unfold fewI; rw [if_neg hp]) fun y10 y11 => ?_
    exact h
end Pf

namespace Pf
open PySem PySem.Spec PyProof.Rows L2
/-! ### refusals -/
theorem w_numbers_no {i : Int} : Exc s__numbers_of [.int i] "BadWeights" [.int (-1)] [some (.int i)] := by
  intro q x h
  have f1 : (mkH fs3 ms0 fkL exL emL ciL).fns "is_row" = some s_is_row := rfl
  unfold s__numbers_of semF
  refine ⟨rfl, ?_⟩
  have e0 : m__numbers_of = .cons (.iff (.nt (.call "is_row" (.cons (.fv 0) .nil))) (.cons (.raise "BadWeights" (.cons (.neg (.int 1)) .nil)) .nil) .nil) (.cons (nthS 1 m__numbers_of) (.cons (nthS 2 m__numbers_of) .nil)) := rfl
  rw [e0, runs_c, run_iff, ev_nt]
  refine ev_call_fv f1 (d := .int i) rfl ?_
  refine w_is_row rfl _ _ ?_
  refine ⟨_, rfl, _, rfl, ?_⟩
  rw [if_pos (by rfl), runs_1]
  simp [run, evs, ev, negW, e_excs, x_wei, back]
  simpa [frzs, frz] using h
theorem num_bad {S : D} {ds : List D} {at' : Nat} {fin : En → Prop} {rt : D → En → Prop} {bk : En → Prop} {ex : Xp} (hS : fz S = true) (hI : itms S = some ds) (hg : ∀ j : Nat, j < at' → ∃ v : Int, ds[j]? = some (.int v)) (hb : ds[at']? = some .non) (hX : ∀ y, ex "BadWeights" [.int at'] [some S, y]) : ∀ (n s : Nat) (y : Option D), s + n = ds.length → s ≤ at' →
    frW [1] (fun e2 K => runs (mkH fs3 ms0 fkL exL emL ciL) (bodyF (nthS 1 m__numbers_of)) e2 { nx := K, rt := rt, bk := bk, ct := K, ex := ex }) fin ((List.range' s n).map fun i : Nat => D.int (i : Int)) [some S, y]
  | 0, s, y, hs, hle => by
    have := (List.getElem?_eq_some_iff.mp hb).1
    omega
  | n + 1, s, y, hs, hle => by
    have ih := num_bad (fin := fin) (rt := rt) (bk := bk) hS hI hg hb hX n (s + 1) (some (.int (s : Int))) (by omega)
    rw [List.range'_succ, List.map_cons, frW]
    simp only [bindW, List.set_cons_succ, List.set_cons_zero]
    have f2 : (mkH fs3 ms0 fkL exL emL ciL).fns "is_whole" = some s_is_whole := rfl
    have eb : bodyF (nthS 1 m__numbers_of) = .cons (.iff (.nt (.call "is_whole" (.cons (.idx (.fv 0) (.var 1)) .nil))) (.cons (.raise "BadWeights" (.cons (.var 1) .nil)) .nil) .nil) .nil := rfl
    rw [eb] at ih ⊢
    have hlt : s < ds.length := by omega
    rw [runs_1, run_iff, ev_nt, ev_call, evr_c, asR_n rfl, ev_idx, asR_fv, ev_fvf (d := S) rfl hS, ev_vf (d := .int (s : Int)) rfl rfl]
    simp only [rv]
    by_cases hsa : s = at'
    · subst hsa
      have ha : atI ds (s : Int) = some .non := by
        rw [atI_nat hlt]
        rw [List.getElem?_eq_getElem hlt] at hb
        exact hb
      refine ixW_of hI ha ⟨fun _ => rfl, ?_⟩
      rw [evr_0, f2, callW_some (by rfl)]
      refine w_is_whole rfl _ _ ?_
      simp only [putA_v]
      unfold putA
      refine ⟨_, rfl, _, rfl, ?_⟩
      rw [if_pos (by rfl), runs_1]
      simp [run, evs, ev, e_excs, x_wei, fz]
      simpa [frzs, frz] using hX _
    · obtain ⟨v, hv⟩ := hg s (by omega)
      have ha : atI ds (s : Int) = some (.int v) := by
        rw [atI_nat hlt]
        rw [List.getElem?_eq_getElem hlt] at hv
        exact hv
      refine ixW_of hI ha ⟨fun _ => rfl, ?_⟩
      rw [evr_0, f2, callW_some (by rfl)]
      refine w_is_whole rfl _ _ ?_
      simp only [putA_v]
      unfold putA
      refine ⟨_, rfl, _, rfl, ?_⟩
      rw [if_neg (by simp [whole]), runs_0]
      exact ih (by omega)
theorem w_numbers_bad {ds : List D} {at' : Nat} (hf : fz (.lst false ds) = true) (hl : ds.length ≤ 100000) (hg : ∀ j : Nat, j < at' → ∃ v : Int, ds[j]? = some (.int v)) (hb : ds[at']? = some .non) : Exc s__numbers_of [.lst false ds] "BadWeights" [.int at'] [some (.lst false ds)] := by
  intro q x h
  have f1 : (mkH fs3 ms0 fkL exL emL ciL).fns "is_row" = some s_is_row := rfl
  unfold s__numbers_of semF
  refine ⟨rfl, ?_⟩
  have e0 : m__numbers_of = .cons (.iff (.nt (.call "is_row" (.cons (.fv 0) .nil))) (.cons (.raise "BadWeights" (.cons (.neg (.int 1)) .nil)) .nil) .nil) (.cons (.forr [1] (.rng (.cons (.blt .len (.cons (.fv 0) .nil)) .nil)) (bodyF (nthS 1 m__numbers_of))) (.cons (nthS 2 m__numbers_of) .nil)) := rfl
  rw [e0, runs_c, run_iff, ev_nt]
  refine ev_call_fv f1 (d := .lst false ds) rfl ?_
  rw [frz_of _ hf]
  refine w_is_row rfl _ _ ?_
  refine ⟨_, rfl, _, rfl, ?_⟩
  rw [if_neg (by simp [isRow]), runs_0]
  dsimp only
  simp only [List.set_cons_succ, List.set_cons_zero, List.map_cons, List.map_nil, List.cons_append, List.nil_append, List.replicate]
  rw [runs_c, run_forr]
  simp only [evSrc, evs]
  rw [ev_blt, evr_c, asR_fv, ev_fvf (d := .lst false ds) rfl hf, evr_0]
  simp only [rvs, rv, bltW]
  rw [lenW_of rfl]
  refine ⟨by omega, ?_⟩
  rw [rgL_0]
  refine num_bad hf rfl hg hb (fun y => ?_) ds.length 0 none (by omega) (Nat.zero_le _)
  simp only [back]
  exact h
theorem w_rising_num {S0 S e : D} {i : Int} (h0 : frz S0 = S) (he : fz e = true) (hE : Exc s__numbers_of [S] "BadWeights" [.int i] [some S]) : Exc s_rising_sum [S0, e] "BadWeights" [.int i] [some S, some e] := by
  intro q x h
  have f1 : (mkH fs4 ms0 fkL exL emL ciL).fns "_numbers_of" = some s__numbers_of := rfl
  unfold s_rising_sum semF
  refine ⟨rfl, ?_⟩
  have e0 : m_rising_sum = .cons (.asg 2 (.call "_numbers_of" (.cons (.fv 0) .nil))) (dropS 1 m_rising_sum) := rfl
  have e1 : dropS 1 m_rising_sum = .cons (nthS 1 m_rising_sum) (dropS 2 m_rising_sum) := rfl
  rw [e0, e1, runs_c, run_asg]
  refine ev_call_fv f1 (d := S0) rfl ?_
  rw [h0]
  refine hE _ _ ?_
  simp only [List.set_cons_zero, List.map_cons, List.map_nil, List.cons_append, List.nil_append, List.replicate, back]
  exact h
theorem w_rising_many {S0 S e : D} {xs : List Int} (h0 : frz S0 = S) (hT : isRow S = true) (hI : itms S = some (xs.map .int)) (hl : xs.length ≤ 100000) (hb : badN 0 e) : Exc s_rising_sum [S0, e] "BadNumber" [.str (Str.ofString "many")] [some S, some e] := by
  intro q x h
  have hS : fz S = true := by rw [← h0]; exact fz_frz S0
  have f1 : (mkH fs4 ms0 fkL exL emL ciL).fns "_numbers_of" = some s__numbers_of := rfl
  have f2 : (mkH fs4 ms0 fkL exL emL ciL).fns "check_whole" = some s_check_whole := rfl
  unfold s_rising_sum semF
  refine ⟨rfl, ?_⟩
  have e0 : m_rising_sum = .cons (.asg 2 (.call "_numbers_of" (.cons (.fv 0) .nil))) (.cons (.expr (.call "check_whole" (.cons (.var 1) (.cons (.str "many") (.cons (.int 0) .nil))))) (dropS 2 m_rising_sum)) := rfl
  have e1 : dropS 2 m_rising_sum = .cons (nthS 2 m_rising_sum) (dropS 3 m_rising_sum) := rfl
  rw [e0, e1, runs_c, run_asg]
  refine ev_call_fv f1 (d := S0) rfl ?_
  rw [h0]
  refine w_numbers_of hS hT hI hl _ _ ?_
  dsimp only
  simp only [List.map_cons, List.map_nil, List.cons_append, List.nil_append, List.set_cons_zero, List.set_cons_succ, List.replicate]
  rw [runs_c, run_expr, ev_call, evr_c, asR_vf (d := e) rfl hb.2.1, evr_c, asR_n rfl, ev_str, evr_c, asR_n rfl, ev_int, evr_0, f2, callW_some (by rfl)]
  refine w_check_bad hb _ _ ?_
  simp only [putA_v]
  unfold putA
  simp only [back]
  exact h
theorem w_thrown_bad {top props : Nat} {w : List Int} {e : D} (hb : badN 0 e ∨ e = .int w.length) : Exc s_thrown_sum [chD false top props w, e] "BadNumber" [.str (Str.ofString "free")] [some (chD false top props w), some e] := by
  intro q x h
  have hc : fz (chD false top props w) = true := fz_ch _ _ _
  have f2 : (mkH fs5 ms0 fkL exL emL ciL).fns "check_whole" = some s_check_whole := rfl
  unfold s_thrown_sum semF
  refine ⟨rfl, ?_⟩
  have e0 : m_thrown_sum = .cons (.expr (.call "check_whole" (.cons (.var 1) (.cons (.str "free") (.cons (.int 0) .nil))))) (.cons (.iff (.cmp .GtE (.var 1) (.blt .len (.cons (.fld (.var 0) "weights") .nil))) (.cons (.raise "BadNumber" (.cons (.str "free") .nil)) .nil) .nil) (.cons (nthS 2 m_thrown_sum) (.cons (nthS 3 m_thrown_sum) .nil))) := rfl
  have hef : fz e = true := by
    rcases hb with hb | rfl
    · exact hb.2.1
    · rfl
  rw [e0, runs_c, run_expr, ev_call, evr_c, asR_vf (d := e) rfl hef, evr_c, asR_n rfl, ev_str, evr_c, asR_n rfl, ev_int, evr_0, f2, callW_some (by rfl)]
  rcases hb with hb | rfl
  · refine w_check_bad hb _ _ ?_
    simp only [putA_v]
    unfold putA
    simp only [back]
    exact h
  · refine w_check_whole (by omega) _ _ ?_
    simp only [putA_v]
    unfold putA
    rw [runs_c, run_iff, ev_cmp, asR_vf (d := .int (w.length : Int)) rfl rfl, asR_n rfl, ev_blt, evr_c, asR_fld]
    refine ev_weights rfl ?_
    rw [evr_0]
    simp only [rvs, rv, bltW]
    rw [lenW_of rfl]
    simp only [rv, cmpW, intW, List.length_map]
    refine ⟨_, rfl, ?_⟩
    rw [if_pos (by simp), runs_1]
    simp [run, evs, ev, e_excs, x_num]
    simpa [frzs, frz, back] using h
theorem w_lot_things {d e : D} (hb : badN 0 d) (he : fz e = true) : Exc s_lot_ways [d, e] "BadNumber" [.str (Str.ofString "things")] [some d, some e] := by
  intro q x h
  have f2 : (mkH fs6 ms0 fkL exL emL ciL).fns "check_whole" = some s_check_whole := rfl
  unfold s_lot_ways semF
  refine ⟨rfl, ?_⟩
  have e0 : m_lot_ways = .cons (.expr (.call "check_whole" (.cons (.var 0) (.cons (.str "things") (.cons (.int 0) .nil))))) (.cons (nthS 1 m_lot_ways) (dropS 2 m_lot_ways)) := rfl
  rw [e0, runs_c, run_expr, ev_call, evr_c, asR_vf (d := d) rfl hb.2.1, evr_c, asR_n rfl, ev_str, evr_c, asR_n rfl, ev_int, evr_0, f2, callW_some (by rfl)]
  refine w_check_bad hb _ _ ?_
  simp only [putA_v]
  unfold putA
  simp only [back]
  exact h
theorem w_lot_lots {n : Nat} {e : D} (hb : badN 0 e) : Exc s_lot_ways [.int n, e] "BadNumber" [.str (Str.ofString "lots")] [some (.int n), some e] := by
  intro q x h
  have f2 : (mkH fs6 ms0 fkL exL emL ciL).fns "check_whole" = some s_check_whole := rfl
  unfold s_lot_ways semF
  refine ⟨rfl, ?_⟩
  have e0 : m_lot_ways = .cons (.expr (.call "check_whole" (.cons (.var 0) (.cons (.str "things") (.cons (.int 0) .nil))))) (.cons (.expr (.call "check_whole" (.cons (.var 1) (.cons (.str "lots") (.cons (.int 0) .nil))))) (.cons (nthS 2 m_lot_ways) (dropS 3 m_lot_ways))) := rfl
  rw [e0, runs_c, run_expr, ev_call, evr_c, asR_vf (d := .int (n : Int)) rfl rfl, evr_c, asR_n rfl, ev_str, evr_c, asR_n rfl, ev_int, evr_0, f2, callW_some (by rfl)]
  refine w_check_whole (by omega) _ _ ?_
  simp only [putA_v]
  unfold putA
  rw [runs_c, run_expr, ev_call, evr_c, asR_vf (d := e) rfl hb.2.1, evr_c, asR_n rfl, ev_str, evr_c, asR_n rfl, ev_int, evr_0, f2, callW_some (by rfl)]
  refine w_check_bad hb _ _ ?_
  simp only [putA_v]
  unfold putA
  simp only [back]
  exact h
end Pf

namespace Pf
open PySem PySem.Spec PyProof.Rows L2
inductive Tell : String → List D → D → Prop
  | num (s : Str) : Tell "BadNumber" [.str s] (.str s)
  | wei (i : Int) : Tell "BadWeights" [.int i] (.int i)
theorem m_ww : emL.lookup ("BadWeights", "BadWeights") = some true := by decide
theorem m_nw : emL.lookup ("BadNumber", "BadWeights") = some false := by decide
theorem m_nn : emL.lookup ("BadNumber", "BadNumber") = some true := by decide
abbrev GD : Gb := mkH fs7 ms0 fkL exL emL ciL
theorem run_tri {G : Gb} {b : Ss} {hs : Hs} {en : En} {P : Pt} : run G (.tri b hs) en P = runs G b en { P with ex := fun c fs e1 => hnd G hs c fs e1 P } := by rw [run]
def dHs : Hs := .cons "BadWeights" (some 4) (.asg 3 (.fld "place")) (.cons "BadNumber" (some 4) (.asg 3 (.fld "name")) .nil)
theorem d_hnd {A0 A1 A2 A4 : Option D} {c : String} {fs : List D} {t : D} {P : Pt} (ht : Tell c fs t) (hP : P.nx [A0, A1, A2, some t, none]) : hnd GD dHs c fs [A0, A1, A2, some .non, A4] P := by
  cases ht with
  | num s =>
    simp [dHs, hnd, e_excs, e_exm, m_nw, x_num, m_nn, offO, uv]
    exact ⟨0, rfl, _, rfl, hP⟩
  | wei i =>
    simp [dHs, hnd, e_excs, e_exm, m_ww, x_wei, offO, uv]
    exact ⟨0, rfl, _, rfl, hP⟩
def dB : Ss := .cons (.iff (.cmp .Eq (.var 0) (.int 0)) (.cons (.expr (.call "rising_sum" (.cons (.fv 1) (.cons (.fv 2) .nil)))) .nil) (.cons (.iff (.cmp .Eq (.var 0) (.int 1)) (.cons (.expr (.call "thrown_sum" (.cons (.fv 1) (.cons (.fv 2) .nil)))) .nil) (.cons (.expr (.call "lot_ways" (.cons (.fv 1) (.cons (.fv 2) .nil)))) .nil)) .nil)) .nil
theorem d_call {f : String} {F : FSp} {A0 : Option D} {one one' other t : D} {c : String} {fs : List D} {P : Pt} (hF : GD.fns f = some F) (h1 : frz one = one') (h2 : fz other = true) (hE : Exc F [one', other] c fs [some one', some other]) (hX : P.ex c fs [A0, some one', some other, some .non, none]) :
    runs GD (.cons (.expr (.call f (.cons (.fv 1) (.cons (.fv 2) .nil)))) .nil) [A0, some one, some other, some .non, none] P := by
  rw [runs_1, run_expr, ev_call, evr_c, asR_fv]
  refine ev_fv (d := one) rfl ?_
  rw [h1, evr_c, asR_fv]
  refine ev_fv (d := other) rfl ?_
  rw [frz_of _ h2, evr_0, hF, callW_some (by rfl)]
  refine hE _ _ ?_
  simp only [putA_v]
  unfold putA
  exact hX
theorem w_door {n : Nat} {one one' other t : D} {c : String} {fs : List D} (h1 : frz one = one') (h2 : fz other = true) (hE : (n = 0 ∧ Exc s_rising_sum [one', other] c fs [some one', some other]) ∨ (n = 1 ∧ Exc s_thrown_sum [one', other] c fs [some one', some other]) ∨ (n = 2 ∧ Exc s_lot_ways [one', other] c fs [some one', some other])) (ht : Tell c fs t) :
    Ret s__law_door [.int n, one, other] t [some (.int n), some one', some other] := by
  intro q x h
  have f1 : GD.fns "rising_sum" = some s_rising_sum := rfl
  have f2 : GD.fns "thrown_sum" = some s_thrown_sum := rfl
  have f3 : GD.fns "lot_ways" = some s_lot_ways := rfl
  unfold s__law_door semF
  refine ⟨rfl, ?_⟩
  have e0 : m__law_door = .cons (.asg 3 .non) (.cons (.tri dB dHs) (.cons (.ret (.var 3)) .nil)) := rfl
  rw [e0, runs_c, run_asg, ev_non]
  simp only [List.map_cons, List.map_nil, List.cons_append, List.nil_append, List.set_cons_zero, List.set_cons_succ, List.replicate]
  have fin : ∀ P : Pt, P.rt t [some (.int n), some one', some other, some t, none] → runs GD (.cons (.ret (.var 3)) .nil) [some (.int n), some one', some other, some t, none] P := fun P hP => by
    have hz : fz t = true := by cases ht <;> rfl
    rw [runs_1]
    simp only [run, List.getElem?_cons_succ, List.getElem?_cons_zero, Option.join_some, hz, if_true]
    exact hP
  have dn := fun A0 P => d_hnd (A0 := A0) (A1 := some one') (A2 := some other) (A4 := none) (P := P) ht
  rw [runs_c, run_tri]
  unfold dB
  rw [runs_1, run_iff, ev_cmp, asR_vf (d := .int (n : Int)) rfl rfl, asR_n rfl, ev_int]
  simp only [rv, cmpW, eqW, dat, deq]
  refine ⟨⟨trivial, trivial⟩, _, rfl, ?_⟩
  rcases hE with ⟨rfl, hE⟩ | ⟨rfl, hE⟩ | ⟨rfl, hE⟩
  · rw [if_pos (by decide)]
    refine d_call (t := t) f1 h1 h2 hE ?_
    refine dn _ _ (fin _ ?_)
    simp only [back]
    exact h
  · rw [if_neg (by decide), runs_1, run_iff, ev_cmp, asR_vf (d := .int ((1 : Nat) : Int)) rfl rfl, asR_n rfl, ev_int]
    simp only [rv, cmpW, eqW, dat, deq]
    refine ⟨⟨trivial, trivial⟩, _, rfl, ?_⟩
    rw [if_pos (by decide)]
    refine d_call (t := t) f2 h1 h2 hE ?_
    refine dn _ _ (fin _ ?_)
    simp only [back]
    exact h
  · rw [if_neg (by decide), runs_1, run_iff, ev_cmp, asR_vf (d := .int ((2 : Nat) : Int)) rfl rfl, asR_n rfl, ev_int]
    simp only [rv, cmpW, eqW, dat, deq]
    refine ⟨⟨trivial, trivial⟩, _, rfl, ?_⟩
    rw [if_neg (by decide)]
    refine d_call (t := t) f3 h1 h2 hE ?_
    refine dn _ _ (fin _ ?_)
    simp only [back]
    exact h
theorem badN_neg : badN 0 (.int (-1)) := ⟨rfl, rfl, fun v h => by cases h; omega⟩
theorem badN_bl (b : Bool) : badN 0 (.bl b) := ⟨rfl, rfl, fun v h => by cases h⟩
theorem neq_str {s : Str} {k : D → Prop} (hs : PyData.strOk s = true) (hk : k (.bl false)) : cmpW .NotEq (.str s) (.str s) k := by
  refine ⟨⟨by rw [dat]; exact hs, by rw [dat]; exact hs⟩, ?_⟩
  rw [deq, beq_self_eq_true]
  exact hk
theorem eq_str {s : Str} {k : D → Prop} (hs : PyData.strOk s = true) (hk : k (.bl true)) : cmpW .Eq (.str s) (.str s) k := by
  refine ⟨⟨by rw [dat]; exact hs, by rw [dat]; exact hs⟩, ?_⟩
  rw [deq, beq_self_eq_true]
  exact hk
abbrev GR : Gb := mkH fs11 ms0 fkL exL emL ciL
end Pf

namespace Pf
open PySem PySem.Spec PyProof.Rows L2
theorem ev_neg1 {G : Gb} {en : En} {Q : D → En → Prop} {X : Xp} : ev G (.neg (.int 1)) en Q X = Q (.int (-1)) en := by
  rw [ev, ev_int]
  rfl
theorem door_ev {n : Nat} {a b : E} {one other t : D} {us : List (Option D)} {en : En} {Q : D → En → Prop} {X : Xp} {z : Int} (hz : z = (n : Int)) (ha : ∀ Q X, Q (.v one) en → asR a (ev GR a) en Q X) (hb : ∀ Q X, Q (.v other) en → asR b (ev GR b) en Q X) (hD : Ret s__law_door [.int n, one, other] t us) (hq : Q t en) : ev GR (.call "_law_door" (.cons (.int z) (.cons a (.cons b .nil)))) en Q X := by
  have hF : GR.fns "_law_door" = some s__law_door := rfl
  subst hz
  rw [ev_call, evr_c, asR_n rfl, ev_int, evr_c]
  refine ha _ _ ?_
  rw [evr_c]
  refine hb _ _ ?_
  rw [evr_0, hF, callW_some (by rfl)]
  refine hD _ _ ?_
  simp only [putA_v]
  unfold putA
  exact hq
theorem as_int {z : Int} {en : En} : ∀ (Q : R → En → Prop) (X : Xp), Q (.v (.int z)) en → asR (.int z) (ev GR (.int z)) en Q X := fun Q X h => by
  rw [asR_n rfl, ev_int]
  exact h
theorem as_bl {z : Bool} {en : En} : ∀ (Q : R → En → Prop) (X : Xp), Q (.v (.bl z)) en → asR (.bl z) (ev GR (.bl z)) en Q X := fun Q X h => by
  rw [asR_n rfl, ev_bl]
  exact h
theorem as_neg1 {en : En} : ∀ (Q : R → En → Prop) (X : Xp), Q (.v (.int (-1))) en → asR (.neg (.int 1)) (ev GR (.neg (.int 1))) en Q X := fun Q X h => by
  rw [asR_n rfl, ev_neg1]
  exact h
theorem as_list {i : Nat} {N : D} {xs : List Int} {en : En} (hN : fz N = true) (hI : itms N = some (xs.map .int)) (he : (en[i]?).join = some N) : ∀ (Q : R → En → Prop) (X : Xp), Q (.v (.lst true (xs.map .int))) en → asR (.blt .list1 (.cons (.fv i) .nil)) (ev GR (.blt .list1 (.cons (.fv i) .nil))) en Q X := fun Q X h => by
  rw [asR_n rfl, ev_blt, evr_c, asR_fv, ev_fvf he hN, evr_0]
  simp only [rvs, rv, bltW]
  exact ⟨_, hI, by simp, h⟩
theorem as_len {i : Nat} {N : D} {xs : List Int} {en : En} (hN : fz N = true) (hI : itms N = some (xs.map .int)) (he : (en[i]?).join = some N) : ∀ (Q : R → En → Prop) (X : Xp), Q (.v (.int xs.length)) en → asR (.blt .len (.cons (.fv i) .nil)) (ev GR (.blt .len (.cons (.fv i) .nil))) en Q X := fun Q X h => by
  rw [asR_n rfl, ev_blt, evr_c, asR_fv, ev_fvf he hN, evr_0]
  simp only [rvs, rv, bltW]
  rw [lenW_of hI, List.length_map]
  exact h
theorem w_refusals {top props : Nat} {w xs ds : List Int} {Wt N : D} (hW : fz Wt = true) (hWI : itms Wt = some (w.map .int)) (hN : fz N = true) (hNI : itms N = some (xs.map .int)) (hl : xs.length ≤ 1000) {q : D → List (Option D) → Prop} {x} (h : ∀ us, q (.bl true) us) :
    s__law_refusals [.lst true (ds.map .int), chD false top props w, Wt, N] q x := by
  have hc : fz (chD false top props w) = true := fz_ch _ _ _
  have f1 : GR.fns "_law_take" = some s__law_take := rfl
  have f2 : GR.fns "_law_same" = some s__law_same := rfl
  have f3 : GR.fns "_law_door" = some s__law_door := rfl
  unfold s__law_refusals semF
  refine ⟨rfl, ?_⟩
  have e0 : m__law_refusals = .cons (.asg 4 (.bin .Add (.blt .list1 (.cons (.fv 3) .nil)) (.lst (.cons (.int 1) .nil)))) (.cons (.asg 5 (.call "_law_take" (.cons (.var 0) (.cons (.blt .len (.cons (.var 4) .nil)) .nil)))) (.cons (.put 4 (.var 5) .non) (.cons (.iff (.bop false (.cons (.cmp .NotEq (.call "_law_door" (.cons (.int 0) (.cons (.int 5) (.cons (.int 1) .nil)))) (.neg (.int 1))) (.cons (.nt (.call "_law_same" (.cons (.call "_law_door" (.cons (.int 0) (.cons (.var 4) (.cons (.neg (.int 1)) .nil)))) (.cons (.var 5) .nil)))) .nil))) (.cons (.ret (.bl false)) .nil) .nil) (.cons (.iff (.bop false (.cons (.cmp .NotEq (.call "_law_door" (.cons (.int 0) (.cons (.blt .list1 (.cons (.fv 3) .nil)) (.cons (.neg (.int 1)) .nil)))) (.str "many")) (.cons (.cmp .NotEq (.call "_law_door" (.cons (.int 0) (.cons (.blt .list1 (.cons (.fv 3) .nil)) (.cons (.bl false) .nil)))) (.str "many")) .nil))) (.cons (.ret (.bl false)) .nil) .nil) (.cons (.iff (.bop false (.cons (.cmp .NotEq (.call "_law_door" (.cons (.int 1) (.cons (.var 1) (.cons (.blt .len (.cons (.fv 2) .nil)) .nil)))) (.str "free")) (.cons (.cmp .NotEq (.call "_law_door" (.cons (.int 1) (.cons (.var 1) (.cons (.neg (.int 1)) .nil)))) (.str "free")) .nil))) (.cons (.ret (.bl false)) .nil) .nil) (.cons (.iff (.bop false (.cons (.cmp .NotEq (.call "_law_door" (.cons (.int 2) (.cons (.neg (.int 1)) (.cons (.neg (.int 1)) .nil)))) (.str "things")) (.cons (.cmp .NotEq (.call "_law_door" (.cons (.int 2) (.cons (.int 3) (.cons (.neg (.int 1)) .nil)))) (.str "lots")) .nil))) (.cons (.ret (.bl false)) .nil) .nil) (.cons (.ret (.cmp .Eq (.call "_law_door" (.cons (.int 2) (.cons (.bl true) (.cons (.int 1) .nil)))) (.str "things"))) .nil))))))) := rfl
  have as_ch : ∀ {A0 A2 A3 A4 A5 : Option D} (Q : R → En → Prop) (X : Xp), Q (.v (chD false top props w)) [A0, some (chD false top props w), A2, A3, A4, A5] → asR (.var 1) (ev GR (.var 1)) [A0, some (chD false top props w), A2, A3, A4, A5] Q X := fun Q X h => by
    rw [asR_vf (d := chD false top props w) rfl hc]
    exact h
  rw [e0, runs_c, run_asg, ev_bin]
  simp only [List.map_cons, List.map_nil, List.cons_append, List.nil_append, List.set_cons_zero, List.set_cons_succ, List.replicate]
  refine as_list hN hNI rfl _ _ ?_
  rw [asR_n rfl, ev_lst, evs_c, ev_int, evs_0]
  simp only [rv, bopW, addW]
  refine ⟨⟨by simp, rfl, by simp; omega⟩, ?_⟩
  simp only [List.set_cons_zero, List.set_cons_succ]
  have ew : xs.map D.int ++ [D.int 1] = (xs ++ [1]).map D.int := by simp
  rw [ew]
  obtain ⟨ys, hys⟩ : ∃ ys : List Int, ys = xs ++ [1] := ⟨_, rfl⟩
  have hyl : ys.length = xs.length + 1 := by rw [hys]; simp
  rw [← hys]
  have hpos : (0 : Int) < (ys.length : Int) := by omega
  have htk := takeI_lt ds hpos
  rw [runs_c, run_asg, ev_call, evr_c, asR_vo (d := .lst true (ds.map .int)) rfl rfl, evr_c, asR_n rfl, ev_blt, evr_c, asR_vo (d := .lst true (ys.map .int)) rfl rfl, evr_0]
  simp only [rvs, rv, List.getElem?_cons_succ, List.getElem?_cons_zero, Option.join_some, bltW]
  rw [lenW_of rfl]
  simp only [List.length_map]
  rw [evr_0, f1, callW_some (by rfl)]
  refine w_take ds hpos _ _ ?_
  simp only [putA]
  simp only [List.set_cons_zero, List.set_cons_succ]
  obtain ⟨k, hk⟩ : ∃ k : Nat, (k : Int) = takeI ds ys.length := ⟨(takeI ds ys.length).toNat, by omega⟩
  rw [← hk]
  have hkl : k < ys.length := by omega
  rw [runs_c, run, ev_non]
  refine ⟨⟨_, rfl⟩, ?_⟩
  rw [ev_vf (d := .int (k : Int)) rfl rfl]
  simp only [List.getElem?_cons_succ, List.getElem?_cons_zero, Option.join_some]
  refine ⟨k, by rw [List.length_map]; exact ixN_nat (by omega) (by omega), ?_⟩
  simp only [List.set_cons_zero, List.set_cons_succ]
  obtain ⟨zs, hzs⟩ : ∃ zs : List D, zs = (ys.map D.int).set k .non := ⟨_, rfl⟩
  rw [← hzs]
  have hzf : fz (.lst false zs) = true := by
    have : ∀ (l : List Int) (k : Nat), fzs ((l.map D.int).set k .non) = true := fun l => by
      induction l with
      | nil => intro k; simp [fzs]
      | cons a l ih =>
        intro k
        cases k with
        | zero => simp [fzs, fz]
        | succ k => simp [fzs, fz, ih]
    rw [fz, hzs, this]
    rfl
  have hzl : zs.length ≤ 100000 := by rw [hzs]; simp; omega
  have hzg : ∀ j : Nat, j < k → ∃ v : Int, zs[j]? = some (.int v) := fun j hj => by
    rw [hzs, List.getElem?_set_ne (by omega), List.getElem?_map, List.getElem?_eq_getElem (by omega)]
    exact ⟨_, rfl⟩
  have hzb : zs[k]? = some .non := by
    rw [hzs, List.getElem?_set_self (by rw [List.length_map]; exact hkl)]
  have hzz : frz (.lst true zs) = .lst false zs := by
    rw [frz]
    have : frzs zs = zs := frzs_of _ (by rw [fz] at hzf; simpa using hzf)
    rw [this]
  have so : ∀ s : String, s ∈ ["many", "free", "things", "lots"] → PyData.strOk (Str.ofString s) = true := by decide +kernel
  rw [runs_c, run_iff, ev_bopc, ev_cmp, asR_n rfl]
  refine door_ev (n := 0) rfl as_int as_int (w_door rfl rfl (.inl ⟨rfl, w_rising_num rfl rfl w_numbers_no⟩) (.wei (-1))) ?_
  rw [asR_n rfl, ev_neg1]
  simp only [rv, cmpW, eqW, dat, deq]
  refine ⟨⟨trivial, trivial⟩, _, rfl, ?_⟩
  rw [if_pos (by decide), ev_bop1, ev_nt, ev_call, evr_c, asR_n rfl, ev_call, evr_c, asR_n rfl, ev_int, evr_c, asR_vo (d := .lst true zs) rfl rfl, evr_c]
  refine as_neg1 _ _ ?_
  rw [evr_0, f3, callW_some (by rfl)]
  refine w_door (n := 0) hzz rfl (.inl ⟨rfl, w_rising_num (frz_of _ hzf) rfl (w_numbers_bad hzf hzl hzg hzb)⟩) (.wei k) _ _ ?_
  simp only [putA]
  simp only [List.set_cons_zero, List.set_cons_succ]
  rw [evr_c, asR_vf (d := .int (k : Int)) rfl rfl, evr_0, f2, callW_some (by rfl)]
  refine w_same _ _ ?_
  simp only [putA_v]
  unfold putA
  refine ⟨true, by simp, _, rfl, ?_⟩
  rw [if_neg (by decide), runs_0]
  dsimp only
  rw [runs_c, run_iff, ev_bopc, ev_cmp, asR_n rfl]
  have hn0 : ∀ e, badN 0 e → Ret s__law_door [.int ((0 : Nat) : Int), .lst true (xs.map .int), e] (.str (Str.ofString "many")) [some (.int ((0 : Nat) : Int)), some (.lst false (xs.map .int)), some e] := fun e he => w_door (n := 0) (by simp [frz]) he.2.1 (.inl ⟨rfl, w_rising_many (xs := xs) (by simp [frz]) rfl rfl (by omega) he⟩) (.num _)
  refine door_ev (n := 0) rfl (as_list hN hNI rfl) as_neg1 (hn0 _ badN_neg) ?_
  rw [asR_n rfl, ev_str]
  simp only [rv]
  refine neq_str (so _ (by decide)) ⟨_, rfl, ?_⟩
  rw [if_pos rfl, ev_bop1, ev_cmp, asR_n rfl]
  refine door_ev (n := 0) rfl (as_list hN hNI rfl) as_bl (hn0 _ (badN_bl false)) ?_
  rw [asR_n rfl, ev_str]
  simp only [rv]
  refine neq_str (so _ (by decide)) ⟨_, rfl, ?_⟩
  rw [if_neg (by decide), runs_0]
  dsimp only
  rw [runs_c, run_iff, ev_bopc, ev_cmp, asR_n rfl]
  refine door_ev (n := 1) rfl as_ch (as_len hW hWI rfl) (w_door (n := 1) (frz_of _ hc) rfl (.inr (.inl ⟨rfl, w_thrown_bad (.inr rfl)⟩)) (.num _)) ?_
  rw [asR_n rfl, ev_str]
  simp only [rv]
  refine neq_str (so _ (by decide)) ⟨_, rfl, ?_⟩
  rw [if_pos rfl, ev_bop1, ev_cmp, asR_n rfl]
  refine door_ev (n := 1) rfl as_ch as_neg1 (w_door (n := 1) (frz_of _ hc) rfl (.inr (.inl ⟨rfl, w_thrown_bad (.inl badN_neg)⟩)) (.num _)) ?_
  rw [asR_n rfl, ev_str]
  simp only [rv]
  refine neq_str (so _ (by decide)) ⟨_, rfl, ?_⟩
  rw [if_neg (by decide), runs_0]
  dsimp only
  rw [runs_c, run_iff, ev_bopc, ev_cmp, asR_n rfl]
  refine door_ev (n := 2) rfl as_neg1 as_neg1 (w_door (n := 2) rfl rfl (.inr (.inr ⟨rfl, w_lot_things badN_neg rfl⟩)) (.num _)) ?_
  rw [asR_n rfl, ev_str]
  simp only [rv]
  refine neq_str (so _ (by decide)) ⟨_, rfl, ?_⟩
  rw [if_pos rfl, ev_bop1, ev_cmp, asR_n rfl]
  refine door_ev (n := 2) (one := .int ((3 : Nat) : Int)) rfl as_int as_neg1 (w_door (n := 2) rfl rfl (.inr (.inr ⟨rfl, w_lot_lots badN_neg⟩)) (.num _)) ?_
  rw [asR_n rfl, ev_str]
  simp only [rv]
  refine neq_str (so _ (by decide)) ⟨_, rfl, ?_⟩
  rw [if_neg (by decide), runs_0]
  dsimp only
  rw [runs_1, run_ret rfl, ev_cmp, asR_n rfl]
  refine door_ev (n := 2) rfl as_bl as_int (w_door (n := 2) rfl rfl (.inr (.inr ⟨rfl, w_lot_things (badN_bl true) rfl⟩)) (.num _)) ?_
  rw [asR_n rfl, ev_str]
  simp only [rv]
  refine eq_str (so _ (by decide)) ?_
  exact h _
end Pf

namespace Pf
open PySem PySem.Spec PyProof.Rows L2
/-! ### all ways of parting -/
def partS (thing : Nat) (row : List Nat) (lot : Nat) : List Nat := if lot = row.length then row ++ [thing] else row.take lot ++ [thing] ++ row.drop (lot + 1)
def partR (thing : Nat) (row : List Nat) : List (List Nat) := (List.range' 0 (row.length + 1)).map (partS thing row)
def partP : Nat → List (List Nat)
  | 0 => [[]]
  | m + 1 => (partP m).flatMap (partR m)
def rowD (r : List Nat) : D := .lst false ((rI r).map .int)
def rowT (r : List Nat) : D := .lst true ((rI r).map .int)
theorem fz_rowD (r : List Nat) : fz (rowD r) = true := fz_lst_ints _
theorem fzs_rowD (L : List (List Nat)) : fzs (L.map rowD) = true := by
  induction L with
  | nil => rfl
  | cons r L ih => rw [List.map_cons, fzs, ih, fz_rowD]; rfl
theorem frzs_rowT (L : List (List Nat)) : frzs (L.map rowT) = L.map rowD := by
  induction L with
  | nil => rfl
  | cons r L ih => rw [List.map_cons, frzs, ih, List.map_cons]; simp [rowT, rowD, frz]
theorem part_ok : ((List.range 7).all fun m => decide ((partP m).length ≤ 1000) && (partP m).all fun r => decide (r.length ≤ 10)) = true := by decide +kernel
abbrev GP : Gb := mkH fs18 ms2 fkL exL emL ciL
def pB2 : Ss := bodyF (nthS 1 (bodyF (nthS 1 m__law_partings)))
def pB3 : Ss := bodyF (nthS 0 pB2)
theorem pt_in {t : Nat} {A0 A1 : Option D} {row : List Nat} {fin : En → Prop} {rt : D → En → Prop} {bk : En → Prop} {ex : Xp} (hr : row.length ≤ 1000) : ∀ (n s : Nat) (Z : List D) (y : Option D), s + n = row.length + 1 → Z.length + n ≤ 100000 → (∀ y, fin [A0, A1, some (.int t), some (.lst true (Z ++ ((List.range' s n).map (partS t row)).map rowT)), some (rowD row), y]) →
    frW [5] (fun e2 K => runs GP pB3 e2 { nx := K, rt := rt, bk := bk, ct := K, ex := ex }) fin ((List.range' s n).map fun i : Nat => D.int (i : Int)) [A0, A1, some (.int t), some (.lst true Z), some (rowD row), y]
  | 0, s, Z, y, hs, hz, hf => by
    have := hf y
    simp only [List.range'_zero, List.map_nil, List.append_nil] at this
    exact this
  | n + 1, s, Z, y, hs, hz, hf => by
    have ih := pt_in (A0 := A0) (A1 := A1) (fin := fin) (rt := rt) (bk := bk) (ex := ex) hr n (s + 1) (Z ++ [rowT (partS t row s)]) (some (.int (s : Int))) (by omega) (by rw [List.length_append, List.length_singleton]; omega) (fun y => by
      have := hf y
      rw [List.range'_succ, List.map_cons, List.map_cons] at this
      rw [List.append_assoc]
      exact this)
    have eb : pB3 = .cons (.iff (.cmp .Eq (.var 5) (.blt .len (.cons (.var 4) .nil))) (.cons (.expr (.mut .append 3 (.cons (.bin .Add (.var 4) (.lst (.cons (.var 2) .nil))) .nil))) .nil) (.cons (.expr (.mut .append 3 (.cons (.bin .Add (.bin .Add (.slc (.var 4) .no (.so (.var 5))) (.lst (.cons (.var 2) .nil))) (.slc (.var 4) (.so (.bin .Add (.var 5) (.int 1))) .no)) .nil))) .nil)) .nil := rfl
    have h4 := fz_rowD row
    rw [List.range'_succ, List.map_cons, frW]
    simp only [bindW, List.set_cons_succ, List.set_cons_zero]
    rw [eb] at ih ⊢
    rw [runs_1, run_iff, ev_cmp, asR_vf (d := .int (s : Int)) rfl rfl, asR_n rfl, ev_blt, evr_c, asR_vf (d := rowD row) rfl h4, evr_0]
    simp only [rvs, rv, bltW]
    rw [lenW_of (xs := (rI row).map .int) rfl]
    simp only [rv, cmpW, eqW, dat, deq, List.length_map, rI_len]
    refine ⟨⟨trivial, trivial⟩, _, rfl, ?_⟩
    by_cases hsr : s = row.length
    · have ep : rowT (partS t row s) = .lst true ((rI row).map .int ++ [.int (t : Int)]) := by
        unfold partS rowT rI
        rw [if_pos hsr]
        simp
      rw [ep] at ih
      rw [if_pos (by rw [hsr]; simp), runs_1, run_expr, ev_mut]
      refine ⟨⟨_, rfl⟩, ?_⟩
      rw [evs_c, ev_bin, asR_vf (d := rowD row) rfl h4, asR_lst, ev_lst, evs_c, ev_vf (d := .int (t : Int)) rfl rfl, evs_0]
      simp only [rv, bopW, rowD, addW]
      refine ⟨⟨by simp, rfl, by simp [rI_len]; omega⟩, ?_⟩
      rw [evs_0]
      simp only [List.getElem?_cons_succ, List.getElem?_cons_zero, Option.join_some, mutW]
      exact ⟨by omega, ih⟩
    · have ep : rowT (partS t row s) = .lst true ((rI (row.take s)).map .int ++ [.int (t : Int)] ++ (rI (row.drop (s + 1))).map .int) := by
        unfold partS rowT rI
        rw [if_neg hsr]
        simp
      rw [ep] at ih
      rw [if_neg (by simp; omega), runs_1, run_expr, ev_mut]
      refine ⟨⟨_, rfl⟩, ?_⟩
      rw [evs_c, ev_bin, asR_n rfl, ev_bin, asR_n rfl, ev_slc, asR_vf (d := rowD row) rfl h4]
      simp only [evO]
      rw [ev_vf (d := .int (s : Int)) rfl rfl]
      refine ⟨_, rfl, ?_⟩
      simp only [rv]
      unfold rowD slW
      refine ⟨by simp, ?_⟩
      dsimp only
      rw [cut_to, asR_lst, ev_lst, evs_c, ev_vf (d := .int (t : Int)) rfl rfl, evs_0]
      have et : ((rI row).map D.int).take s = (rI (row.take s)).map D.int := by unfold rI; rw [List.map_take, List.map_take]
      have ed : ((rI row).map D.int).drop (s + 1) = (rI (row.drop (s + 1))).map D.int := by unfold rI; rw [List.map_drop, List.map_drop]
      rw [et]
      simp only [rv, bopW, addW]
      refine ⟨⟨by simp, rfl, by simp [rI_len]; omega⟩, ?_⟩
      rw [asR_n rfl, ev_slc, asR_vf (d := rowD row) rfl h4]
      simp only [evO]
      rw [ev_bin, asR_vf (d := .int (s : Int)) rfl rfl, asR_n rfl, ev_int]
      simp only [rv, bopW, addW]
      refine ⟨_, rfl, ?_⟩
      rw [show (s : Int) + 1 = ((s + 1 : Nat) : Int) by push_cast; rfl]
      unfold rowD slW
      refine ⟨by simp, ?_⟩
      dsimp only
      rw [cut_from, ed]
      try simp only [rv, addW]
      refine ⟨⟨by simp [fzs_append, fzs, fz], by simp, by simp [rI_len]; omega⟩, ?_⟩
      rw [evs_0]
      simp only [List.getElem?_cons_succ, List.getElem?_cons_zero, Option.join_some, mutW]
      exact ⟨by omega, ih⟩
theorem pt_mid {t : Nat} {A0 A1 : Option D} {fin : En → Prop} {rt : D → En → Prop} {bk : En → Prop} {ex : Xp} : ∀ (rows : List (List Nat)) (Z : List D) (y4 y5 : Option D), (∀ r ∈ rows, r.length ≤ 1000) → Z.length + (rows.flatMap (partR t)).length ≤ 100000 → (∀ y4 y5, fin [A0, A1, some (.int t), some (.lst true (Z ++ (rows.flatMap (partR t)).map rowT)), y4, y5]) →
    frW [4] (fun e2 K => runs GP pB2 e2 { nx := K, rt := rt, bk := bk, ct := K, ex := ex }) fin (rows.map rowD) [A0, A1, some (.int t), some (.lst true Z), y4, y5]
  | [], Z, y4, y5, _, hz, hf => by
    have := hf y4 y5
    simp only [List.flatMap_nil, List.map_nil, List.append_nil] at this
    exact this
  | r :: rows, Z, y4, y5, hr, hz, hf => by
    have h1 := hr r List.mem_cons_self
    have el : (partR t r).length = r.length + 1 := by simp [partR]
    rw [List.flatMap_cons, List.length_append] at hz
    have ih := fun y5 => pt_mid (t := t) (A0 := A0) (A1 := A1) (fin := fin) (rt := rt) (bk := bk) (ex := ex) rows (Z ++ (partR t r).map rowT) (some (rowD r)) y5 (fun r' h => hr r' (List.mem_cons_of_mem _ h)) (by rw [List.length_append, List.length_map]; omega) (fun y4 y5 => by
      have := hf y4 y5
      rw [List.flatMap_cons, List.map_append, ← List.append_assoc] at this
      exact this)
    have eb : pB2 = .cons (.forr [5] (.rng (.cons (.bin .Add (.blt .len (.cons (.var 4) .nil)) (.int 1)) .nil)) pB3) .nil := rfl
    have h4 := fz_rowD r
    rw [List.map_cons, frW]
    simp only [bindW, List.set_cons_succ, List.set_cons_zero]
    rw [eb] at ih ⊢
    rw [runs_1, run_forr]
    simp only [evSrc, evs]
    rw [ev_bin, asR_n rfl, ev_blt, evr_c, asR_vf (d := rowD r) rfl h4, evr_0]
    simp only [rvs, rv, bltW]
    rw [lenW_of (xs := (rI r).map .int) rfl, asR_n rfl, ev_int]
    simp only [rv, bopW, addW, List.length_map, rI_len]
    refine ⟨by omega, ?_⟩
    rw [show (r.length : Int) + 1 = ((r.length + 1 : Nat) : Int) by push_cast; rfl, rgL_0]
    refine pt_in h1 (r.length + 1) 0 Z y5 (by omega) (by omega) fun y => ?_
    exact ih _
def isRows (m : Nat) (R : D) : Prop := frz R = .lst false ((partP m).map rowD) ∧ fz R = false
theorem pt_out {A0 : Option D} {fin : En → Prop} {rt : D → En → Prop} {bk : En → Prop} {ex : Xp} : ∀ (n m : Nat) (R : D) (y2 y3 y4 y5 : Option D), isRows m R → m + n ≤ 6 → (∀ R y2 y3 y4 y5, isRows (m + n) R → fin [A0, some R, y2, y3, y4, y5]) →
    frW [2] (fun e2 K => runs GP (bodyF (nthS 1 m__law_partings)) e2 { nx := K, rt := rt, bk := bk, ct := K, ex := ex }) fin ((List.range' m n).map fun i : Nat => D.int (i : Int)) [A0, some R, y2, y3, y4, y5]
  | 0, m, R, y2, y3, y4, y5, hR, _, hf => hf R y2 y3 y4 y5 hR
  | n + 1, m, R, y2, y3, y4, y5, hR, hm, hf => by
    have ih := fun R y3 y4 y5 hR => pt_out (A0 := A0) (fin := fin) (rt := rt) (bk := bk) (ex := ex) n (m + 1) R (some (.int (m : Int))) y3 y4 y5 hR (by omega) (fun R y2 y3 y4 y5 hR => by
      rw [show m + 1 + n = m + (n + 1) by omega] at hR
      exact hf R y2 y3 y4 y5 hR)
    have hok : ∀ k, k ≤ 6 → (partP k).length ≤ 1000 ∧ ∀ r ∈ partP k, r.length ≤ 10 := fun k hk => by
      have := List.all_eq_true.mp part_ok k (List.mem_range.mpr (by omega))
      rw [Bool.and_eq_true] at this
      exact ⟨of_decide_eq_true this.1, fun r hr => of_decide_eq_true (List.all_eq_true.mp this.2 r hr)⟩
    have eb : bodyF (nthS 1 m__law_partings) = .cons (.asg 3 (.lst .nil)) (.cons (.forr [4] (.it (.var 1)) pB2) (.cons (.asg 1 (.blt .list1 (.cons (.fv 3) .nil))) .nil)) := rfl
    rw [List.range'_succ, List.map_cons, frW]
    simp only [bindW, List.set_cons_succ, List.set_cons_zero]
    rw [eb] at ih ⊢
    rw [runs_c, run_asg, ev_lst, evs_0]
    simp only [List.set_cons_succ, List.set_cons_zero]
    rw [runs_c, run_forr, src_it, ev_vo (d := R) rfl hR.2, hR.1]
    refine ⟨_, rfl, ?_⟩
    simp only [List.set_cons_succ, List.set_cons_zero]
    rw [frzs_of _ (fzs_rowD _)]
    have h1 := hok m (by omega)
    have h2 := hok (m + 1) (by omega)
    refine pt_mid (partP m) [] y4 y5 (fun r hr => by have := h1.2 r hr; omega) (by have := h2.1; rw [partP] at this; simp only [List.length_nil]; omega) fun y4 y5 => ?_
    rw [List.nil_append, runs_1, run_asg, ev_blt, evr_c, asR_fv]
    refine ev_fv (d := .lst true (((partP m).flatMap (partR m)).map rowT)) rfl ?_
    have efr : frz (.lst true (((partP m).flatMap (partR m)).map rowT)) = .lst false ((partP (m + 1)).map rowD) := by rw [frz, frzs_rowT]; rfl
    rw [efr, evr_0]
    simp only [rvs, rv, bltW]
    refine ⟨_, rfl, fzs_rowD _, ?_⟩
    refine ih (.lst true ((partP (m + 1)).map rowD)) _ _ _ ⟨?_, rfl⟩
    rw [frz, frzs_of _ (fzs_rowD _)]
theorem w_partings {t : Nat} (ht : t ≤ 6) : Ret s__law_partings [.int t] (.lst true ((partP t).map fun r => .lst true ((sortI (rI r)).map .int))) [some (.int t)] := by
  intro q x h
  unfold s__law_partings semF
  refine ⟨rfl, ?_⟩
  have e0 : m__law_partings = .cons (.asg 1 (.lst (.cons (.lst .nil) .nil))) (.cons (.forr [2] (.rng (.cons (.var 0) .nil)) (bodyF (nthS 1 m__law_partings))) (.cons (.ret (.lc [4] (.it (.var 1)) .nil (.blt .sorted (.cons (.var 4) .nil)))) .nil)) := rfl
  rw [e0, runs_c, run_asg, ev_lst, evs_c, ev_lst, evs_0, evs_0]
  simp only [List.set_cons_succ, List.set_cons_zero, List.map_cons, List.map_nil, List.cons_append, List.nil_append, List.replicate]
  rw [runs_c, run_forr]
  simp only [evSrc, evs]
  rw [ev_vf (d := .int (t : Int)) rfl rfl]
  refine ⟨by omega, ?_⟩
  rw [rgL_0]
  refine pt_out t 0 (.lst true [.lst true []]) none none none none ⟨rfl, rfl⟩ (by omega) fun R y2 y3 y4 y5 hR => ?_
  rw [Nat.zero_add] at hR
  rw [runs_1, run_ret rfl, ev_lc, src_it, ev_vo (d := R) rfl hR.2, hR.1]
  refine ⟨_, rfl, ?_⟩
  rw [frzs_of _ (fzs_rowD _)]
  simp only [offs, List.set_cons_succ, List.set_cons_zero]
  have hok := List.all_eq_true.mp part_ok t (List.mem_range.mpr (by omega))
  rw [Bool.and_eq_true] at hok
  have hpl := of_decide_eq_true hok.1
  refine lc_all rowD (fun r : List Nat => D.lst true ((sortI (rI r)).map .int)) (fun r hr Kn Ky hy => ?_) (by omega) ?_
  · simp only [bindW, evTs, if_true, List.set_cons_succ, List.set_cons_zero]
    rw [ev_blt, evr_c, asR_vf (d := rowD r) rfl (fz_rowD r), evr_0]
    simp only [rvs, rv, bltW]
    refine ⟨_, rfl, ?_⟩
    exact hy
  · simp only [back]
    exact h
end Pf

namespace Pf
open PySem PySem.Spec PyProof.Rows L2
/-! ### weights 1 -/
def onesI (n : Nat) : List Int := List.replicate n 1
theorem ones_len (n : Nat) : (onesI n).length = n := List.length_replicate
theorem ones_drop (n i : Nat) : (onesI n).drop i = onesI (n - i) := List.drop_replicate
theorem ones_sum : ∀ n : Nat, (onesI n).sum = (n : Int)
  | 0 => rfl
  | n + 1 => by
    have h := ones_sum n
    unfold onesI at h ⊢
    rw [List.replicate_succ, List.sum_cons, h]
    omega
theorem tl_ones (n i : Nat) : tl (onesI n) i = ((n - i : Nat) : Int) := by
  unfold tl
  rw [ones_drop, ones_sum]
theorem tails_ones : ∀ n : Nat, tailsI (onesI n) = dnI n
  | 0 => rfl
  | n + 1 => by
    have ih := tails_ones n
    unfold tailsI at ih ⊢
    rw [ones_len] at ih ⊢
    rw [List.range_succ_eq_map, List.map_cons, List.map_map, dnI, ← ih]
    refine congr (congrArg List.cons ?_) ?_
    · rw [tl_ones]
      omega
    · refine List.map_congr_left fun i _ => ?_
      show tl (onesI (n + 1)) (i + 1) = tl (onesI n) i
      rw [tl_ones, tl_ones]
      omega
theorem wk_ones {top props : Nat} (h1 : 1 ≤ top) (h2 : props ≤ top) (h3 : top ≤ 1000) : Wk top props (onesI (top - props + 1)) := by
  refine ⟨h1, h2, ones_len _, h3, ?_, ?_⟩
  · intro a ha
    unfold tailsI at ha
    obtain ⟨i, _, rfl⟩ := List.mem_map.mp ha
    rw [tl_ones]
    omega
  · intro a ha
    have := List.eq_of_mem_replicate ha
    omega
theorem total_ones {top props : Nat} (h : props ≤ top) : rise (tailsI (onesI (top - props + 1))) props = stir (top + 1) (top - props + 1) := by
  rw [tails_ones, rise_dn, show top - props + 1 + props = top + 1 by omega]
theorem empty_ones {top props : Nat} (h : props ≤ top) : rise ((tailsI (onesI (top - props + 1))).drop 1) props = stir top (top - props) := by
  rw [tails_ones]
  show rise (dnI (top - props)) props = _
  rw [rise_dn, show top - props + props = top by omega]
theorem thrown_ones {top props : Nat} (h : props ≤ top) : thrownI (onesI (top - props + 1)) props 0 = stir (top + 1) (top - props + 1) - stir top (top - props) := by
  unfold thrownI
  split
  · next h0 =>
    subst h0
    rw [Nat.sub_zero, stir_eq, stir_eq]
    rfl
  · next h0 =>
    rw [tails_ones, rise_dn, tl_ones, show top - props + 1 + (props - 1) = top by omega, stir, show (onesI (top - props + 1)).getD 0 0 = 1 from rfl, Int.one_mul]
    push_cast
    omega
/-! the partings with these greatest members -/
def isrt (r : List Nat) : List Nat := r.foldr insN []
theorem insN_perm (i : Nat) : ∀ m : List Nat, (insN i m).Perm (i :: m)
  | [] => List.Perm.refl _
  | j :: m => by
    rw [insN]
    split
    · exact List.Perm.refl _
    · exact ((insN_perm i m).cons j).trans (List.Perm.swap i j m)
theorem insN_pair (i : Nat) : ∀ m : List Nat, m.Pairwise (· ≤ ·) → (insN i m).Pairwise (· ≤ ·)
  | [], _ => by simp [insN]
  | j :: m, h => by
    rw [insN]
    have h' := List.pairwise_cons.mp h
    split
    · next hij =>
      refine List.pairwise_cons.mpr ⟨fun a ha => ?_, h⟩
      rcases List.mem_cons.mp ha with rfl | ha
      · exact hij
      · exact Nat.le_trans hij (h'.1 a ha)
    · next hij =>
      refine List.pairwise_cons.mpr ⟨fun a ha => ?_, insN_pair i m h'.2⟩
      rcases List.mem_cons.mp ((insN_perm i m).mem_iff.mp ha) with rfl | ha
      · omega
      · exact h'.1 a ha
theorem isrt_perm : ∀ r : List Nat, (isrt r).Perm r
  | [] => List.Perm.refl _
  | i :: r => (insN_perm i (isrt r)).trans ((isrt_perm r).cons i)
theorem isrt_pair : ∀ r : List Nat, (isrt r).Pairwise (· ≤ ·)
  | [] => List.Pairwise.nil
  | i :: r => insN_pair i _ (isrt_pair r)
theorem sort_isrt (r : List Nat) : sortI (rI r) = rI (isrt r) := by
  refine (sortI_of ?_ ?_).symm
  · unfold rI
    exact (isrt_perm r).map _
  · unfold rI
    rw [List.pairwise_map]
    exact (isrt_pair r).imp fun h => by omega
theorem rI_inj : ∀ {a b : List Nat}, rI a = rI b ↔ a = b
  | [], [] => by simp
  | [], _ :: _ => by simp [rI]
  | _ :: _, [] => by simp [rI]
  | x :: a, y :: b => by
    have ih := rI_inj (a := a) (b := b)
    unfold rI at ih ⊢
    rw [List.map_cons, List.map_cons, List.cons.injEq, List.cons.injEq, ih]
    constructor <;> rintro ⟨h1, h2⟩ <;> exact ⟨by omega, h2⟩
def bareN (top : Nat) (r : List Nat) : List Nat := (List.range' 0 (top + 1)).filter fun i => !r.contains i
def cntN (top : Nat) (r : List Nat) : Nat := ((partP (top + 1)).filter fun g => isrt g == bareN top r).length
def shN (n : Nat) : List Nat → Nat → Nat
  | [], a => a
  | i :: m, a => shN n m (a * (n - i))
theorem shN_eq (n : Nat) : ∀ (m : List Nat) (a : Nat), ((shN n m a : Nat) : Int) = m.foldl (fun a i => a * tl (onesI n) i) (a : Int)
  | [], a => rfl
  | i :: m, a => by
    rw [shN, shN_eq n m, List.foldl_cons, tl_ones]
    rfl
def pairs5 : List (Nat × Nat) := (List.range 5).flatMap fun t => (List.range (t + 2)).map fun p => (t + 1, p)
theorem cnt_ok : pairs5.all (fun c => (choP c.1 c.2).all fun r => decide (cntN c.1 r = shN (c.1 - c.2 + 1) (shM 0 r) 1)) = true := by decide +kernel
theorem cnt_eq {top props : Nat} {r : List Nat} (h1 : 1 ≤ top) (h2 : top ≤ 5) (h3 : props ≤ top) (hr : r ∈ choP top props) : shV (onesI (top - props + 1)) r = (cntN top r : Int) := by
  have hm : (top, props) ∈ pairs5 := List.mem_flatMap.mpr ⟨top - 1, List.mem_range.mpr (by omega), List.mem_map.mpr ⟨props, List.mem_range.mpr (by omega), by rw [show top - 1 + 1 = top by omega]⟩⟩
  have h := of_decide_eq_true (List.all_eq_true.mp (List.all_eq_true.mp cnt_ok _ hm) r hr)
  dsimp only at h
  unfold shV evM
  rw [h, shN_eq]
  rfl
/-! ### the evaluation's small steps -/
abbrev GL : Gb := mkH fs19 ms2 fkL exL emL ciL
def As (G : Gb) (e : E) (d : D) (en en1 : En) : Prop := ∀ (Q : R → En → Prop) (X : Xp), Q (.v d) en1 → asR e (ev G e) en Q X
theorem as_ev {G : Gb} {e : E} {d : D} {en en1 : En} (hn : noVar e = true) (A : As G e d en en1) (Q : D → En → Prop) (X : Xp) (hq : Q d en1) : ev G e en Q X := by
  have h := A (fun r e => match r with
    | .v d => Q d e
    | .s _ => False) X hq
  rw [asR_n hn] at h
  exact h
theorem as_go {G : Gb} {e : E} {d : D} {en en1 : En} (A : As G e d en en1) {Q : R → En → Prop} {X : Xp} (h : Q (.v d) en1) : asR e (ev G e) en Q X := A Q X h
theorem as_i {G : Gb} {n : Int} {en : En} : As G (.int n) (.int n) en en := fun Q X h => by
  rw [asR_n rfl, ev_int]
  exact h
theorem as_v {G : Gb} {i : Nat} {d : D} {en : En} (h : (en[i]?).join = some d) (hf : fz d = true) : As G (.var i) d en en := fun Q X hq => by
  rw [asR_vf h hf]
  exact hq
theorem as_fv {G : Gb} {i : Nat} {d : D} {en : En} (h : (en[i]?).join = some d) : As G (.fv i) (frz d) en (en.set i (some (frz d))) := fun Q X hq => by
  rw [asR_fv]
  exact ev_fv h hq
theorem as_add {G : Gb} {a b : E} {x y : Int} {en en1 en2 : En} (ha : As G a (.int x) en en1) (hb : As G b (.int y) en1 en2) : As G (.bin .Add a b) (.int (x + y)) en en2 := fun Q X hq => by
  rw [asR_n rfl, ev_bin]
  refine ha _ _ ?_
  refine hb _ _ ?_
  exact hq
theorem as_sub {G : Gb} {a b : E} {x y : Int} {en en1 en2 : En} (ha : As G a (.int x) en en1) (hb : As G b (.int y) en1 en2) : As G (.bin .Sub a b) (.int (x - y)) en en2 := fun Q X hq => by
  rw [asR_n rfl, ev_bin]
  refine ha _ _ ?_
  refine hb _ _ ?_
  exact hq
theorem as_cast {G : Gb} {e : E} {x y : Int} {en en1 : En} (h : As G e (.int x) en en1) (hxy : x = y) : As G e (.int y) en en1 := hxy ▸ h
theorem as_min {G : Gb} {a b : E} {x y : Int} {en en1 en2 : En} (ha : As G a (.int x) en en1) (hb : As G b (.int y) en1 en2) : As G (.blt .min2 (.cons a (.cons b .nil))) (.int (if y < x then y else x)) en en2 := fun Q X hq => by
  rw [asR_n rfl, ev_blt, evr_c]
  refine ha _ _ ?_
  rw [evr_c]
  refine hb _ _ ?_
  rw [evr_0]
  exact hq
theorem as_max {G : Gb} {a b : E} {x y : Int} {en en1 en2 : En} (ha : As G a (.int x) en en1) (hb : As G b (.int y) en1 en2) : As G (.blt .max2 (.cons a (.cons b .nil))) (.int (if y > x then y else x)) en en2 := fun Q X hq => by
  rw [asR_n rfl, ev_blt, evr_c]
  refine ha _ _ ?_
  rw [evr_c]
  refine hb _ _ ?_
  rw [evr_0]
  exact hq
theorem as_lots {G : Gb} {a b : E} {n m : Nat} {en en1 en2 : En} (hn : n ≤ 100000) (hm : m ≤ 100000) (ha : As G a (.int n) en en1) (hb : As G b (.int m) en1 en2) (f1 : G.fns "_law_lots" = some s__law_lots := by rfl) : As G (.call "_law_lots" (.cons a (.cons b .nil))) (.int (stir n m)) en en2 := fun Q X hq => by
  rw [asR_n rfl, ev_call, evr_c]
  refine ha _ _ ?_
  rw [evr_c]
  refine hb _ _ ?_
  rw [evr_0, f1, callW_some (by rfl)]
  refine w_law_lots hn hm _ _ ?_
  simp only [putA_v]
  unfold putA
  exact hq
theorem as_ways {G : Gb} {a b : E} {n m : Nat} {en en1 en2 : En} (hn : n ≤ 100000) (hm : m ≤ 100000) (ha : As G a (.int n) en en1) (hb : As G b (.int m) en1 en2) (f1 : G.fns "lot_ways" = some s_lot_ways := by rfl) : As G (.call "lot_ways" (.cons a (.cons b .nil))) (.int (stir n m)) en en2 := fun Q X hq => by
  rw [asR_n rfl, ev_call, evr_c]
  refine ha _ _ ?_
  rw [evr_c]
  refine hb _ _ ?_
  rw [evr_0, f1, callW_some (by rfl)]
  refine w_lot_ways hm hn _ _ ?_
  simp only [putA_v]
  unfold putA
  exact hq
theorem as_take {G : Gb} {ds : List Int} {e : E} {m : Int} {r : En} (hm : 0 < m) (he : As G e (.int m) (some (.lst true (ds.map .int)) :: r) (some (.lst true (ds.map .int)) :: r)) (f1 : G.fns "_law_take" = some s__law_take := by rfl) : As G (.call "_law_take" (.cons (.var 0) (.cons e .nil))) (.int (takeI ds m)) (some (.lst true (ds.map .int)) :: r) (some (.lst true (ds.dropLast.map .int)) :: r) := fun Q X hq => by
  rw [asR_n rfl, ev_call, evr_c, asR_vo (d := .lst true (ds.map .int)) rfl rfl, evr_c]
  refine he _ _ ?_
  rw [evr_0, f1, callW_some (ds := [.lst true (ds.map .int), .int m]) (en2 := none :: r) (by rfl)]
  refine w_take ds hm _ _ ?_
  exact hq
theorem nsame {G : Gb} {a b : E} {x : Int} {en en1 en2 : En} (ha : As G a (.int x) en en1) (hb : As G b (.int x) en1 en2) (f1 : G.fns "_law_same" = some s__law_same := by rfl) : As G (.nt (.call "_law_same" (.cons a (.cons b .nil)))) (.bl false) en en2 := fun Q X hq => by
  rw [asR_n rfl, ev_nt, ev_call, evr_c]
  refine ha _ _ ?_
  rw [evr_c]
  refine hb _ _ ?_
  rw [evr_0, f1, callW_some (by rfl)]
  refine w_same _ _ ?_
  refine ⟨_, rfl, ?_⟩
  simp only [putA_v]
  unfold putA
  simpa using hq
theorem two_same {G : Gb} {a b c d : E} {x y : Int} {B : Ss} {en en1 en2 en3 en4 : En} {P : Pt} (ha : As G a (.int x) en en1) (hb : As G b (.int x) en1 en2) (hc : As G c (.int y) en2 en3) (hd : As G d (.int y) en3 en4) (h : P.nx en4) (f1 : G.fns "_law_same" = some s__law_same := by rfl) :
    run G (.iff (.bop false (.cons (.nt (.call "_law_same" (.cons a (.cons b .nil)))) (.cons (.nt (.call "_law_same" (.cons c (.cons d .nil)))) .nil))) B .nil) en P := by
  rw [run_iff, ev_bopc]
  refine as_ev rfl (nsame ha hb f1) _ _ ?_
  refine ⟨_, rfl, ?_⟩
  rw [if_pos rfl, ev_bop1]
  refine as_ev rfl (nsame hc hd f1) _ _ ?_
  refine ⟨_, rfl, ?_⟩
  rw [if_neg Bool.false_ne_true, runs_0]
  exact h
theorem as_total {G : Gb} {top props : Nat} {w : List Int} {i : Nat} {C : D} {en : En} (W : Wk top props w) (h : (en[i]?).join = some C) (hC : frz C = chD false top props w) (f1 : G.fns "total_share" = some s_total_share := by rfl) : As G (.call "total_share" (.cons (.fv i) .nil)) (.int (rise (tailsI w) props)) en (en.set i (some (chD false top props w))) := fun Q X hq => by
  rw [asR_n rfl]
  refine ev_call_fv f1 h ?_
  rw [hC]
  exact w_total W _ _ hq
theorem as_empty {G : Gb} {top props : Nat} {w : List Int} {i : Nat} {C : D} {en : En} (W : Wk top props w) (h : (en[i]?).join = some C) (hC : frz C = chD false top props w) (f1 : G.fns "empty_sum" = some s_empty_sum := by rfl) : As G (.call "empty_sum" (.cons (.fv i) .nil)) (.int (rise ((tailsI w).drop 1) props)) en (en.set i (some (chD false top props w))) := fun Q X hq => by
  rw [asR_n rfl]
  refine ev_call_fv f1 h ?_
  rw [hC]
  exact w_empty W _ _ hq
theorem as_thrown0 {G : Gb} {top props : Nat} {w : List Int} {i : Nat} {C : D} {en : En} (W : Wk top props w) (h : (en[i]?).join = some C) (hC : frz C = chD false top props w) (f1 : G.fns "thrown_sum" = some s_thrown_sum := by rfl) : As G (.call "thrown_sum" (.cons (.fv i) (.cons (.int 0) .nil))) (.int (thrownI w props 0)) en (en.set i (some (chD false top props w))) := fun Q X hq => by
  have hz := as_fv (G := G) h
  rw [hC] at hz
  rw [asR_n rfl, ev_call, evr_c]
  refine hz _ _ ?_
  rw [evr_c, asR_n rfl, ev_int, evr_0, f1, callW_some (by rfl)]
  refine w_thrown (free := 0) W (by rw [W.len]; omega) _ _ ?_
  simp only [putA_v]
  unfold putA
  exact hq
theorem ev_new {G : Gb} {c : String} {es : Es} {en : En} {Q : D → En → Prop} {X : Xp} : ev G (.new c es) en Q X = ((G.mth c "__init__").isSome = true ∧ evr G es en (fun rs e1 => match G.mth c "__init__", takeA e1 rs with
    | some F, some (ds, en2) => F (.ins true (Str.ofString c) [] [] :: ds) (fun r us => r = .non ∧ ∃ d, us.head?.join = some d ∧ Q d (putA en2 rs us.tail)) (fun cn fs us => X cn fs (putA en2 rs us.tail))
    | _, _ => False) X) := by
  rw [ev] <;> rfl
theorem map_one (m : Nat) : ((List.range' 0 m).map fun _ => D.int 1) = (onesI m).map D.int := by
  unfold onesI
  rw [List.map_replicate]
  refine List.ext_getElem (by simp) fun i h1 h2 => by simp
/-- [1 for turn in range(e)] -/
theorem lc_ones {G : Gb} {e : E} {j m : Nat} {en : En} (hm : m ≤ 100000) (h : As G e (.int m) en en) (hn : noVar e = true) (hj : en.set j none = en) : As G (.lc [j] (.rng (.cons e .nil)) .nil (.int 1)) (.lst true ((onesI m).map .int)) en en := fun Q X hQ => by
  have h' := as_ev hn h
  rw [asR_n rfl, ev_lc]
  simp only [evSrc, evs]
  refine h' _ _ ?_
  try dsimp only
  refine ⟨by omega, ?_⟩
  rw [rgL_0]
  simp only [offs]
  rw [hj]
  refine lc_all (fun i : Nat => D.int (i : Int)) (fun _ : Nat => D.int 1) (fun a ha Kn Ky hy => ?_) (by rw [List.length_range']; omega) (by rw [map_one]; exact hQ)
  simp only [bindW, evTs, ev, offs, List.set_set, hj, if_true]
  exact hy
theorem as_new {G : Gb} {a b c : E} {top props : Nat} {w : List Int} {en en1 en2 en3 : En} (h1 : 1 ≤ top) (hp : props ≤ top) (hl : w.length = top - props + 1) (hz : top ≤ 1000) (ha : As G a (.int top) en en1) (hb : As G b (.int props) en1 en2) (hc : As G c (.lst true (w.map .int)) en2 en3) (f1 : G.mth "Chance" "__init__" = some s_Chance_init := by rfl) : As G (.new "Chance" (.cons a (.cons b (.cons c .nil)))) (chD true top props w) en en3 := fun Q X hq => by
  rw [asR_n rfl, ev_new, f1]
  refine ⟨rfl, ?_⟩
  rw [evr_c]
  refine ha _ _ ?_
  rw [evr_c]
  refine hb _ _ ?_
  rw [evr_c]
  refine hc _ _ ?_
  rw [evr_0]
  refine w_Chance (W0 := .lst true (w.map .int)) (W := .lst false (w.map .int)) (by rw [frz, frzs_of _ (by simp)]) rfl rfl h1 hp hl hz _ _ ?_
  refine ⟨rfl, _, rfl, ?_⟩
  exact hq
theorem take_nat (ds : List Int) {m : Int} (hm : 0 < m) : ∃ k : Nat, takeI ds m = (k : Int) ∧ (k : Int) < m := by
  have h := takeI_lt ds hm
  exact ⟨(takeI ds m).toNat, by omega, by omega⟩
end Pf

namespace Pf
open PySem PySem.Spec PyProof.Rows L2
def sfD (g : List Nat) : D := .lst false ((sortI (rI g)).map .int)
def soD (g : List Nat) : D := .lst true ((sortI (rI g)).map .int)
theorem fz_sfD (g : List Nat) : fz (sfD g) = true := fz_lst_ints _
theorem fzs_sfD (L : List (List Nat)) : fzs (L.map sfD) = true := by
  induction L with
  | nil => rfl
  | cons r L ih => rw [List.map_cons, fzs, ih, fz_sfD]; rfl
theorem frz_sfD (L : List (List Nat)) : frz (.lst false (L.map sfD)) = .lst false (L.map sfD) := by rw [frz, frzs_of _ (fzs_sfD L)]
theorem frz_soD (L : List (List Nat)) : frz (.lst true (L.map soD)) = .lst false (L.map sfD) := by
  rw [frz]
  congr 1
  induction L with
  | nil => rfl
  | cons r L ih => rw [List.map_cons, frzs, ih, List.map_cons]; simp [soD, sfD, frz]
def bareE : E := .lc [8] (.rng (.cons (.bin .Add (.var 1) (.int 1)) .nil)) (.cons (.cmp .NotIn (.var 8) (.var 6)) .nil) (.var 8)
def likeE : E := .lc [10] (.it (.fv 5)) (.cons (.cmp .Eq (.var 10) (.fv 7)) .nil) (.var 10)
theorem rI_has (r : List Nat) (a : Nat) : (rI r).contains (a : Int) = r.contains a := by
  unfold rI
  induction r with
  | nil => rfl
  | cons x r ih =>
    rw [List.map_cons, List.contains_cons, List.contains_cons, ih]
    congr 1
    rw [Bool.eq_iff_iff, beq_iff_eq, beq_iff_eq]
    omega
theorem bare_ev {top : Nat} {A0 A2 A3 A5 A7 A9 A11 A12 A13 : Option D} {r : List Nat} {Q : D → En → Prop} {X : Xp} (ht : top ≤ 1000) (hQ : Q (.lst true ((rI (bareN top r)).map .int)) [A0, some (.int top), A2, A3, none, A5, some (tD r), A7, none, A9, none, A11, A12, A13]) :
    ev GL bareE [A0, some (.int top), A2, A3, none, A5, some (tD r), A7, none, A9, none, A11, A12, A13] Q X := by
  have h6 : fz (tD r) = true := fz_tup_ints _
  unfold bareE
  rw [ev_lc]
  simp only [evSrc, evs]
  rw [ev_bin, asR_vf (d := .int (top : Int)) rfl rfl, asR_n rfl, ev_int]
  simp only [rv, bopW, addW]
  refine ⟨by omega, ?_⟩
  rw [show (top : Int) + 1 = ((top + 1 : Nat) : Int) by push_cast; rfl, rgL_0]
  simp only [offs, List.set_cons_succ, List.set_cons_zero]
  refine lc_mp (fun x : Nat => D.int (x : Int)) (fun x => !r.contains x) (fun x : Nat => D.int (x : Int)) (fun a ha Kn Ky hn hy => ?_) (by simp; omega) ?_
  · simp only [bindW, List.set_cons_succ, List.set_cons_zero, evTs]
    rw [ev_cmp, asR_vf (d := .int (a : Int)) rfl rfl, asR_vf (d := tD r) rfl h6]
    simp only [rv, cmpW, inW, tD, itms, Pf.flat]
    refine ⟨⟨trivial, all_flat_ints _⟩, ?_⟩
    rw [any_deq, rI_has]
    refine ⟨_, rfl, ?_⟩
    rw [Bool.true_xor]
    by_cases hp : (!r.contains a) = true
    · rw [if_pos hp, ev_vf (d := .int (a : Int)) rfl rfl]
      simp only [offs, List.set_cons_succ, List.set_cons_zero]
      exact hy hp
    · rw [if_neg hp]
      simp only [offs, List.set_cons_succ, List.set_cons_zero]
      exact hn (by simpa using hp)
  · rw [List.nil_append]
    unfold bareN rI at hQ
    rw [List.map_map] at hQ
    exact hQ
theorem like_ev {top : Nat} {A0 A1 A2 A3 A6 A9 A11 A12 A13 : Option D} {r : List Nat} {G5 B : D} {Q : D → En → Prop} {X : Xp} (h5 : frz G5 = .lst false ((partP (top + 1)).map sfD)) (hl : (partP (top + 1)).length ≤ 1000) (hB : frz B = .lst false ((rI (bareN top r)).map .int))
    (hQ : ∀ (L : List D) B', L.length = cntN top r → frz B' = .lst false ((rI (bareN top r)).map .int) → Q (.lst true L) [A0, A1, A2, A3, none, some (.lst false ((partP (top + 1)).map sfD)), A6, some B', none, A9, none, A11, A12, A13]) :
    ev GL likeE [A0, A1, A2, A3, none, some G5, A6, some B, none, A9, none, A11, A12, A13] Q X := by
  unfold likeE
  rw [ev_lc, src_it]
  refine ev_fv (d := G5) rfl ?_
  rw [h5]
  refine ⟨_, rfl, ?_⟩
  rw [frzs_of _ (fzs_sfD _)]
  simp only [offs, List.set_cons_succ, List.set_cons_zero]
  refine lc_inv (fun ds acc en => ∃ (gs : List (List Nat)) (B' : D), ds = gs.map sfD ∧ frz B' = .lst false ((rI (bareN top r)).map .int) ∧ en = [A0, A1, A2, A3, none, some (.lst false ((partP (top + 1)).map sfD)), A6, some B', none, A9, none, A11, A12, A13] ∧ acc.length + (gs.filter fun g => isrt g == bareN top r).length = cntN top r) ?_ ?_ _ _ _ (by simp; omega) ⟨partP (top + 1), B, rfl, hB, rfl, by simp [cntN]⟩
  · rintro d ds acc en Kn Ky ⟨gs, B', e1, e2, e3, e4⟩ hn hy
    cases gs with
    | nil => cases e1
    | cons g gs =>
      rw [List.map_cons] at e1
      cases e1
      subst e3
      simp only [bindW, List.set_cons_succ, List.set_cons_zero, evTs]
      rw [ev_cmp, asR_vf (d := sfD g) rfl (fz_sfD g), asR_fv]
      refine ev_fv (d := B') rfl ?_
      rw [e2]
      simp only [rv, cmpW, eqW, sfD, dat, deq, dats_ints, deqs_ints, List.set_cons_succ, List.set_cons_zero, Bool.false_xor]
      refine ⟨⟨trivial, trivial⟩, _, rfl, ?_⟩
      have hfz : frz (.lst false ((rI (bareN top r)).map .int)) = .lst false ((rI (bareN top r)).map .int) := by rw [frz, frzs_of _ (by simp)]
      rw [List.filter_cons] at e4
      by_cases hp : isrt g = bareN top r
      · rw [if_pos (by rw [beq_iff_eq]; exact hp), List.length_cons] at e4
        rw [if_pos (decide_eq_true (by rw [sort_isrt, hp]))]
        rw [ev_vf (d := .lst false ((sortI (rI g)).map .int)) rfl (fz_lst_ints _)]
        simp only [offs, List.set_cons_succ, List.set_cons_zero]
        exact hy _ _ ⟨gs, _, rfl, hfz, rfl, by rw [List.length_append, List.length_singleton]; omega⟩
      · rw [if_neg (by rw [beq_iff_eq]; exact hp)] at e4
        rw [if_neg (by rw [decide_eq_true_eq, sort_isrt, rI_inj]; exact hp)]
        simp only [offs, List.set_cons_succ, List.set_cons_zero]
        exact hn _ ⟨gs, _, rfl, hfz, rfl, e4⟩
  · rintro acc en ⟨gs, B', e1, e2, e3, e4⟩
    cases gs with
    | cons g gs => cases e1
    | nil =>
      subst e3
      exact hQ _ _ (by simpa using e4) e2
def loB : Ss := .cons (.asg 7 bareE) (.cons (.asg 9 (.blt .len (.cons likeE .nil))) (.cons (.iff (.nt (.call "_law_same" (.cons (.meth "Chance" "share" (.fv 3) (.cons (.var 6) .nil)) (.cons (.var 9) .nil)))) (.cons (.ret (.bl false)) .nil) .nil) .nil))
theorem ev_meth {G : Gb} {c m : String} {a : E} {es : Es} {en : En} {Q : D → En → Prop} {X : Xp} : ev G (.meth c m a es) en Q X = ((G.mth c m).isSome = true ∧ asR a (ev G a) en (fun r e1 => (∃ o ns fs, rv e1 r = some (.ins o (Str.ofString c) ns fs) ∧ ns.contains (Str.ofString m) = false) ∧ evr G es e1 (fun rs e2 => callW (G.mth c m) (r :: rs) e2 Q X) X) X) := by rw [ev]
theorem lo_loop {top props : Nat} {A0 A2 A11 A12 A13 : Option D} {fin : En → Prop} {rt : D → En → Prop} {bk : En → Prop} {ex : Xp} (h1 : 1 ≤ top) (h2 : top ≤ 5) (hp : props ≤ top) (hf : ∀ C G5 y6 y7 y9, fin [A0, some (.int top), A2, some C, none, some G5, y6, y7, none, y9, none, A11, A12, A13]) : ∀ (rows : List (List Nat)) (C G5 : D) (y6 y7 y9 : Option D), (∀ r ∈ rows, r ∈ choP top props) → frz C = chD false top props (onesI (top - props + 1)) → frz G5 = .lst false ((partP (top + 1)).map sfD) →
    frW [6] (fun e2 K => runs GL loB e2 { nx := K, rt := rt, bk := bk, ct := K, ex := ex }) fin (rows.map tD) [A0, some (.int top), A2, some C, none, some G5, y6, y7, none, y9, none, A11, A12, A13]
  | [], C, G5, y6, y7, y9, _, _, _ => hf _ _ _ _ _
  | r :: rows, C, G5, y6, y7, y9, hr, hC, h5 => by
    have hrc := hr r List.mem_cons_self
    have W := wk_ones h1 hp (by omega : top ≤ 1000)
    have u := (cho_up h1 (by omega) hp).1 r hrc
    have h6 : fz (tD r) = true := fz_tup_ints _
    have hc : fz (chD false top props (onesI (top - props + 1))) = true := fz_ch _ _ _
    have hok := List.all_eq_true.mp part_ok (top + 1) (List.mem_range.mpr (by omega))
    rw [Bool.and_eq_true] at hok
    have hpl := of_decide_eq_true hok.1
    have hcnt : cntN top r ≤ 1000 := by
      unfold cntN
      exact Nat.le_trans (List.length_filter_le _ _) hpl
    have ih := fun y7 y9 => lo_loop (fin := fin) (rt := rt) (bk := bk) (ex := ex) (A0 := A0) (A2 := A2) (A11 := A11) (A12 := A12) (A13 := A13) h1 h2 hp hf rows (chD false top props (onesI (top - props + 1))) (.lst false ((partP (top + 1)).map sfD)) (some (tD r)) y7 y9 (fun r' h => hr r' (List.mem_cons_of_mem _ h)) (frz_ch _ _ _ _) (frz_sfD _)
    have f1 : GL.fns "_law_same" = some s__law_same := rfl
    have f2 : GL.mth "Chance" "share" = some s_Chance_share := rfl
    rw [List.map_cons, frW]
    simp only [bindW, List.set_cons_succ, List.set_cons_zero]
    have eb : loB = .cons (.asg 7 bareE) (.cons (.asg 9 (.blt .len (.cons likeE .nil))) (.cons (.iff (.nt (.call "_law_same" (.cons (.meth "Chance" "share" (.fv 3) (.cons (.var 6) .nil)) (.cons (.var 9) .nil)))) (.cons (.ret (.bl false)) .nil) .nil) .nil)) := rfl
    rw [eb] at ih ⊢
    rw [runs_c, run_asg]
    refine bare_ev (by omega) ?_
    simp only [List.set_cons_succ, List.set_cons_zero]
    rw [runs_c, run_asg, ev_blt, evr_c, asR_n rfl]
    refine like_ev (r := r) h5 hpl (by rw [frz, frzs_of _ (by simp)]) fun L B' hL hB => ?_
    rw [evr_0]
    simp only [rvs, rv, bltW, lenW, List.set_cons_succ, List.set_cons_zero]
    rw [hL, runs_1, run_iff, ev_nt, ev_call, evr_c, asR_n rfl, ev_meth]
    refine ⟨rfl, ?_⟩
    rw [asR_fv]
    refine ev_fv (d := C) rfl ?_
    rw [hC]
    refine ⟨⟨false, chN, chV top props _, rfl, by decide⟩, ?_⟩
    simp only [List.set_cons_succ, List.set_cons_zero]
    rw [evr_c, asR_vf (d := tD r) rfl h6, evr_0, f2, callW_some (by rfl)]
    refine w_share (O := tD r) (frz_of _ h6) rfl rfl W u _ _ ?_
    simp only [putA_v]
    unfold putA
    rw [evr_c, asR_vf (d := .int (cntN top r : Int)) rfl rfl, evr_0, f1, callW_some (by rfl), cnt_eq h1 h2 hp hrc]
    refine w_same _ _ ?_
    refine ⟨_, rfl, _, rfl, ?_⟩
    simp only [putA_v]
    unfold putA
    rw [if_neg (by simp), runs_0]
    exact ih _ _
end Pf

namespace Pf
open PySem PySem.Spec PyProof.Rows L2
theorem runs_k {G : Gb} {s : S} {ss : Ss} {en : En} {P : Pt} : runs G (.cons s ss) en P = run G s en { P with nx := fun e1 => runs G ss e1 P } := by
  cases ss with
  | nil =>
    rw [runs_1]
    have e : (fun e1 => runs G .nil e1 P) = P.nx := funext fun e => runs_0
    rw [e]
  | cons s2 ss => rw [runs_c]
theorem as_fi {G : Gb} {i : Nat} {v : Int} {en : En} (h : (en[i]?).join = some (.int v)) : As G (.fv i) (.int v) en en := fun Q X hq => by
  rw [asR_fv, ev_fvf h rfl]
  exact hq
abbrev takeE (n : Int) : E := .call "_law_take" (.cons (.var 0) (.cons (.int n) .nil))
abbrev fE (i : Nat) : E := .bin .Add (.bin .Sub (.var i) (.var 2)) (.int 1)
abbrev onesE (e : E) : E := .lc [4] (.rng (.cons e .nil)) .nil (.int 1)
abbrev mnE : E := .blt .min2 (.cons (.var 12) (.cons (.var 13) .nil))
def lotB : Ss := dropS 5 m__law_lots_told
def lotC : Ss := dropS 10 m__law_lots_told
def lotD : Ss := match nthS 12 m__law_lots_told with
  | .iff _ a _ => a
  | _ => .nil
theorem told_D {A1 A2 A3 A5 A6 A7 A9 A11 A12 A13 : Option D} (ds : List Int) {P : Pt} (h : ∀ (ds' : List Int) (n m : Nat) (A2 A3 A7 A9 : Option D), n ≤ 1000 → m ≤ 1000 → P.nx [some (.lst true (ds'.map .int)), A1, A2, A3, none, A5, A6, A7, none, A9, none, A11, some (.int n), some (.int m)]) :
    runs GL lotD [some (.lst true (ds.map .int)), A1, A2, A3, none, A5, A6, A7, none, A9, none, A11, A12, A13] P := by
  have eb : lotD = .cons (.asg 12 (.bin .Add (.int 100) (takeE 100))) (.cons (.asg 13 (.bin .Add (.int 1) (takeE 100))) (.cons (.asg 3 (.new "Chance" (.cons (.var 12) (.cons (.blt .max2 (.cons (.int 0) (.cons (.bin .Sub (.var 12) (.var 13)) .nil))) (.cons (onesE (.bin .Add mnE (.int 1))) .nil))))) (.cons (.asg 9 (.call "_law_lots" (.cons (.bin .Add (.var 12) (.int 1)) (.cons (.bin .Add mnE (.int 1)) .nil)))) (.cons (.iff (.bop false (.cons (.nt (.call "_law_same" (.cons (.call "total_share" (.cons (.fv 3) .nil)) (.cons (.var 9) .nil)))) (.cons (.nt (.call "_law_same" (.cons (.call "lot_ways" (.cons (.bin .Add (.var 12) (.int 1)) (.cons (.bin .Add mnE (.int 1)) .nil))) (.cons (.var 9) .nil)))) .nil))) (.cons (.ret (.bl false)) .nil) .nil) (.cons (.asg 7 (.call "_law_lots" (.cons (.var 12) (.cons mnE .nil)))) (.cons (.iff (.bop false (.cons (.nt (.call "_law_same" (.cons (.call "empty_sum" (.cons (.fv 3) .nil)) (.cons (.fv 7) .nil)))) (.cons (.nt (.call "_law_same" (.cons (.call "thrown_sum" (.cons (.fv 3) (.cons (.int 0) .nil))) (.cons (.bin .Sub (.var 9) (.fv 7)) .nil)))) .nil))) (.cons (.ret (.bl false)) .nil) .nil) .nil)))))) := rfl
  obtain ⟨k, hk, hk'⟩ := take_nat ds (m := 100) (by decide)
  obtain ⟨l, hl, hl'⟩ := take_nat ds.dropLast (m := 100) (by decide)
  rw [eb, runs_k, run_asg]
  refine as_ev rfl (as_add as_i (as_take (by decide) as_i)) _ _ ?_
  rw [hk, show (100 : Int) + (k : Int) = ((100 + k : Nat) : Int) by push_cast; rfl]
  generalize hn : 100 + k = n
  have hn1 : n ≤ 199 := by omega
  have hn2 : 100 ≤ n := by omega
  simp only [List.set_cons_succ, List.set_cons_zero]
  rw [runs_k, run_asg]
  refine as_ev rfl (as_add as_i (as_take (by decide) as_i)) _ _ ?_
  rw [hl, show (1 : Int) + (l : Int) = ((1 + l : Nat) : Int) by push_cast; rfl]
  generalize hm : 1 + l = m
  have hm1 : m ≤ 100 := by omega
  simp only [List.set_cons_succ, List.set_cons_zero]
  rw [runs_k, run_asg]
  have hp : n - m ≤ n := by omega
  have W := wk_ones (top := n) (props := n - m) (by omega) hp (by omega)
  have vmin : (if (m : Int) < (n : Int) then (m : Int) else (n : Int)) = ((n - (n - m) : Nat) : Int) := by split <;> omega
  have vmin1 : (if (m : Int) < (n : Int) then (m : Int) else (n : Int)) + 1 = ((n - (n - m) + 1 : Nat) : Int) := by split <;> omega
  have vmax : (if (n : Int) - (m : Int) > 0 then (n : Int) - (m : Int) else 0) = ((n - m : Nat) : Int) := by split <;> omega
  have vn1 : (n : Int) + 1 = ((n + 1 : Nat) : Int) := by push_cast; rfl
  refine as_ev rfl (as_new (w := onesI (n - (n - m) + 1)) (by omega) hp (ones_len _) (by omega) (as_v rfl rfl) (as_cast (as_max as_i (as_sub (as_v rfl rfl) (as_v rfl rfl))) vmax) (lc_ones (by omega) (as_cast (as_add (as_min (as_v rfl rfl) (as_v rfl rfl)) as_i) vmin1) rfl rfl)) _ _ ?_
  simp only [List.set_cons_succ, List.set_cons_zero]
  rw [runs_k, run_asg]
  refine as_ev rfl (as_lots (n := n + 1) (m := n - (n - m) + 1) (by omega) (by omega) (as_cast (as_add (as_v rfl rfl) as_i) vn1) (as_cast (as_add (as_min (as_v rfl rfl) (as_v rfl rfl)) as_i) vmin1)) _ _ ?_
  simp only [List.set_cons_succ, List.set_cons_zero]
  rw [runs_k]
  refine two_same (as_cast (as_total W rfl (frz_ch _ _ _ _)) (total_ones hp)) (as_v rfl rfl) (as_ways (n := n + 1) (m := n - (n - m) + 1) (by omega) (by omega) (as_cast (as_add (as_v rfl rfl) as_i) vn1) (as_cast (as_add (as_min (as_v rfl rfl) (as_v rfl rfl)) as_i) vmin1)) (as_v rfl rfl) ?_
  simp only [List.set_cons_succ, List.set_cons_zero]
  rw [runs_k, run_asg]
  refine as_ev rfl (as_lots (n := n) (m := n - (n - m)) (by omega) (by omega) (as_v rfl rfl) (as_cast (as_min (as_v rfl rfl) (as_v rfl rfl)) vmin)) _ _ ?_
  simp only [List.set_cons_succ, List.set_cons_zero]
  rw [runs_k]
  refine two_same (as_cast (as_empty W rfl (frz_ch _ _ _ _)) (empty_ones hp)) (as_fi rfl) (as_cast (as_thrown0 W rfl (frz_ch _ _ _ _)) (thrown_ones hp)) (as_sub (as_v rfl rfl) (as_fi rfl)) ?_
  simp only [List.set_cons_succ, List.set_cons_zero]
  rw [runs_0]
  exact h _ _ _ _ _ _ _ (by omega) (by omega)
theorem told_C {A1 A2 A3 A5 A6 A7 A9 A11 A12 A13 : Option D} (ds : List Int) {P : Pt} (h : ∀ (ds' : List Int) (r : En), P.rt (.bl true) (some (.lst true (ds'.map .int)) :: r)) :
    runs GL lotC [some (.lst true (ds.map .int)), A1, A2, A3, none, A5, A6, A7, none, A9, none, A11, A12, A13] P := by
  have eb : lotC = .cons (.asg 12 (takeE 13)) (.cons (.asg 13 (takeE 15)) (.cons (.iff (.cmp .Eq (takeE 16) (.int 15)) lotD .nil) (.cons (.ret (.call "_law_same" (.cons (.call "lot_ways" (.cons (.var 12) (.cons (.var 13) .nil))) (.cons (.call "_law_lots" (.cons (.var 12) (.cons (.var 13) .nil))) .nil)))) .nil))) := rfl
  have f1 : GL.fns "_law_same" = some s__law_same := rfl
  have fin : ∀ (ds' : List Int) (n m : Nat) (A2 A3 A7 A9 : Option D), n ≤ 1000 → m ≤ 1000 → runs GL (.cons (.ret (.call "_law_same" (.cons (.call "lot_ways" (.cons (.var 12) (.cons (.var 13) .nil))) (.cons (.call "_law_lots" (.cons (.var 12) (.cons (.var 13) .nil))) .nil)))) .nil) [some (.lst true (ds'.map .int)), A1, A2, A3, none, A5, A6, A7, none, A9, none, A11, some (.int n), some (.int m)] P := fun ds' n m A2 A3 A7 A9 hn hm => by
    rw [runs_1, run_ret rfl, ev_call, evr_c]
    refine as_go (as_ways (n := n) (m := m) (by omega) (by omega) (as_v rfl rfl) (as_v rfl rfl)) ?_
    rw [evr_c]
    refine as_go (as_lots (n := n) (m := m) (by omega) (by omega) (as_v rfl rfl) (as_v rfl rfl)) ?_
    rw [evr_0, f1, callW_some (by rfl)]
    refine w_same _ _ ?_
    simp only [putA_v]
    unfold putA
    rw [decide_true]
    exact h _ _
  obtain ⟨n, hn, hn'⟩ := take_nat ds (m := 13) (by decide)
  obtain ⟨m, hm, hm'⟩ := take_nat ds.dropLast (m := 15) (by decide)
  rw [eb, runs_k, run_asg]
  refine as_ev rfl (as_take (by decide) as_i) _ _ ?_
  rw [hn]
  simp only [List.set_cons_succ, List.set_cons_zero]
  rw [runs_k, run_asg]
  refine as_ev rfl (as_take (by decide) as_i) _ _ ?_
  rw [hm]
  simp only [List.set_cons_succ, List.set_cons_zero]
  rw [runs_k, run_iff, ev_cmp]
  refine as_go (as_take (m := 16) (by decide) as_i) ?_
  rw [asR_n rfl, ev_int]
  simp only [rv, cmpW, eqW, dat, deq]
  refine ⟨⟨trivial, trivial⟩, _, rfl, ?_⟩
  by_cases hc : takeI ds.dropLast.dropLast 16 = 15
  · rw [if_pos (by simp [hc])]
    refine told_D _ fun ds' n m A2 A3 A7 A9 hn hm => ?_
    exact fin _ _ _ _ _ _ _ hn hm
  · rw [if_neg (by simp [hc]), runs_0]
    exact fin _ _ _ _ _ _ _ (by omega) (by omega)
theorem told_B {A1 A2 A3 A5 A6 A7 A9 A11 A12 A13 : Option D} (ds : List Int) {P : Pt} (h : ∀ (ds' : List Int) (r : En), P.rt (.bl true) (some (.lst true (ds'.map .int)) :: r)) :
    runs GL lotB [some (.lst true (ds.map .int)), A1, A2, A3, none, A5, A6, A7, none, A9, none, A11, A12, A13] P := by
  have eb : lotB = .cons (.asg 11 (.bin .Add (.int 1) (takeE 60))) (.cons (.asg 2 (.call "_law_take" (.cons (.var 0) (.cons (.bin .Add (.var 11) (.int 1)) .nil)))) (.cons (.asg 3 (.new "Chance" (.cons (.var 11) (.cons (.var 2) (.cons (onesE (fE 11)) .nil))))) (.cons (.asg 9 (.call "_law_lots" (.cons (.bin .Add (.var 11) (.int 1)) (.cons (fE 11) .nil)))) (.cons (.iff (.bop false (.cons (.nt (.call "_law_same" (.cons (.call "total_share" (.cons (.fv 3) .nil)) (.cons (.var 9) .nil)))) (.cons (.nt (.call "_law_same" (.cons (.call "lot_ways" (.cons (.bin .Add (.var 11) (.int 1)) (.cons (fE 11) .nil))) (.cons (.var 9) .nil)))) .nil))) (.cons (.ret (.bl false)) .nil) .nil) lotC)))) := rfl
  obtain ⟨k, hk, hk'⟩ := take_nat ds (m := 60) (by decide)
  rw [eb, runs_k, run_asg]
  refine as_ev rfl (as_add as_i (as_take (by decide) as_i)) _ _ ?_
  rw [hk, show (1 : Int) + (k : Int) = ((1 + k : Nat) : Int) by push_cast; rfl]
  generalize hn : 1 + k = n
  have hn1 : n ≤ 60 := by omega
  have hn2 : 1 ≤ n := by omega
  have vn1 : (n : Int) + 1 = ((n + 1 : Nat) : Int) := by push_cast; rfl
  obtain ⟨p, hp, hp'⟩ := take_nat ds.dropLast (m := (n : Int) + 1) (by omega)
  simp only [List.set_cons_succ, List.set_cons_zero]
  rw [runs_k, run_asg]
  refine as_ev rfl (as_take (m := (n : Int) + 1) (by omega) (as_add (as_v rfl rfl) as_i)) _ _ ?_
  rw [hp]
  have hpn : p ≤ n := by omega
  have W := wk_ones (top := n) (props := p) (by omega) hpn (by omega)
  have vf : (n : Int) - (p : Int) + 1 = ((n - p + 1 : Nat) : Int) := by omega
  simp only [List.set_cons_succ, List.set_cons_zero]
  rw [runs_k, run_asg]
  refine as_ev rfl (as_new (w := onesI (n - p + 1)) (by omega) hpn (ones_len _) (by omega) (as_v rfl rfl) (as_v rfl rfl) (lc_ones (by omega) (as_cast (as_add (as_sub (as_v rfl rfl) (as_v rfl rfl)) as_i) vf) rfl rfl)) _ _ ?_
  simp only [List.set_cons_succ, List.set_cons_zero]
  rw [runs_k, run_asg]
  refine as_ev rfl (as_lots (n := n + 1) (m := n - p + 1) (by omega) (by omega) (as_cast (as_add (as_v rfl rfl) as_i) vn1) (as_cast (as_add (as_sub (as_v rfl rfl) (as_v rfl rfl)) as_i) vf)) _ _ ?_
  simp only [List.set_cons_succ, List.set_cons_zero]
  rw [runs_k]
  refine two_same (as_cast (as_total W rfl (frz_ch _ _ _ _)) (total_ones hpn)) (as_v rfl rfl) (as_ways (n := n + 1) (m := n - p + 1) (by omega) (by omega) (as_cast (as_add (as_v rfl rfl) as_i) vn1) (as_cast (as_add (as_sub (as_v rfl rfl) (as_v rfl rfl)) as_i) vf)) (as_v rfl rfl) ?_
  simp only [List.set_cons_succ, List.set_cons_zero]
  exact told_C _ h
theorem w_lots_told (ds : List Int) {q : D → List (Option D) → Prop} {x : String → List D → List (Option D) → Prop} (h : ∀ ds' : List Int, q (.bl true) [some (.lst true (ds'.map .int))]) : s__law_lots_told [.lst true (ds.map .int)] q x := by
  have f1 : GL.fns "_law_partings" = some s__law_partings := rfl
  have f2 : GL.fns "_law_choices" = some s__law_choices := rfl
  unfold s__law_lots_told semF
  refine ⟨rfl, ?_⟩
  have eb : m__law_lots_told = .cons (.asg 1 (.bin .Add (.int 1) (takeE 5))) (.cons (.asg 2 (.call "_law_take" (.cons (.var 0) (.cons (.bin .Add (.var 1) (.int 1)) .nil)))) (.cons (.asg 3 (.new "Chance" (.cons (.var 1) (.cons (.var 2) (.cons (onesE (fE 1)) .nil))))) (.cons (.asg 5 (.call "_law_partings" (.cons (.bin .Add (.var 1) (.int 1)) .nil))) (.cons (.forr [6] (.it (.call "_law_choices" (.cons (.var 1) (.cons (.var 2) .nil)))) loB) lotB)))) := rfl
  obtain ⟨k, hk, hk'⟩ := take_nat ds (m := 5) (by decide)
  rw [eb, runs_k, run_asg]
  simp only [List.map_cons, List.map_nil, List.cons_append, List.nil_append, List.replicate]
  refine as_ev rfl (as_add as_i (as_take (by decide) as_i)) _ _ ?_
  rw [hk, show (1 : Int) + (k : Int) = ((1 + k : Nat) : Int) by push_cast; rfl]
  generalize hn : 1 + k = n
  have hn1 : n ≤ 5 := by omega
  have hn2 : 1 ≤ n := by omega
  have vn1 : (n : Int) + 1 = ((n + 1 : Nat) : Int) := by push_cast; rfl
  obtain ⟨p, hp, hp'⟩ := take_nat ds.dropLast (m := (n : Int) + 1) (by omega)
  simp only [List.set_cons_succ, List.set_cons_zero]
  rw [runs_k, run_asg]
  refine as_ev rfl (as_take (m := (n : Int) + 1) (by omega) (as_add (as_v rfl rfl) as_i)) _ _ ?_
  rw [hp]
  have hpn : p ≤ n := by omega
  have vf : (n : Int) - (p : Int) + 1 = ((n - p + 1 : Nat) : Int) := by omega
  simp only [List.set_cons_succ, List.set_cons_zero]
  rw [runs_k, run_asg]
  refine as_ev rfl (as_new (w := onesI (n - p + 1)) (by omega) hpn (ones_len _) (by omega) (as_v rfl rfl) (as_v rfl rfl) (lc_ones (by omega) (as_cast (as_add (as_sub (as_v rfl rfl) (as_v rfl rfl)) as_i) vf) rfl rfl)) _ _ ?_
  simp only [List.set_cons_succ, List.set_cons_zero]
  rw [runs_k, run_asg, ev_call, evr_c]
  refine as_cast (as_add (as_v rfl rfl) as_i) vn1 _ _ ?_
  rw [evr_0, f1, callW_some (by rfl)]
  refine w_partings (t := n + 1) (by omega) _ _ ?_
  simp only [putA_v]
  unfold putA
  simp only [List.set_cons_succ, List.set_cons_zero]
  rw [runs_k, run_forr, src_it, ev_call, evr_c]
  refine as_v rfl rfl _ _ ?_
  rw [evr_c]
  refine as_v rfl rfl _ _ ?_
  rw [evr_0, f2, callW_some (by rfl)]
  refine w_choices hn2 (by omega) hpn _ _ ?_
  simp only [putA_v]
  unfold putA
  refine ⟨_, rfl, ?_⟩
  have hfz : ∀ L : List (List Nat), fzs (L.map tD) = true := fun L => by
    induction L with
    | nil => rfl
    | cons r L ih => rw [List.map_cons, fzs, ih]; simp [tD]
  rw [frzs_of _ (hfz _)]
  refine lo_loop (fin := _) hn2 hn1 hpn (fun C G5 y6 y7 y9 => ?_) (choP n p) _ _ none none none (fun r hr => hr) (frz_ch _ _ _ _) (frz_soD _)
  refine told_B _ fun ds' r => ?_
  simp only [back]
  exact h ds'
end Pf

namespace Pf
open PySem PySem.Spec PyProof.Rows L2
theorem draw_big {A at' od e : D} {f : Option D} {rt : D → En → Prop} {bk : En → Prop} {ex : Xp} {fin : En → Prop} {xs : List Int} : ∀ {l : List Int} {cell : Int} {t : Option D}, l.length + xs.length ≤ 10000 → (∀ (l' : List Int) cell t, l'.length ≤ l.length + xs.length → fin [some A, some (.lst true (l'.map .int)), some at', some (.int cell), some od, t, f]) →
    frW [5] (fun e2 K => runs (mkH fs26 ms2 fkL exL emL ciL) (.cons (.iff (.cmp .Gt (.var 3) (.int 0)) (.cons (.expr (.mut .append 1 (.cons (.bin .Mod (.blt .int1 (.cons (.var 3) .nil)) (.int 30)) .nil))) (.cons (.asg 3 (.bin .FloorDiv (.var 3) (.int 30))) .nil)) .nil) .nil) e2 { nx := K, rt := rt, bk := bk, ct := K, ex := ex }) fin (xs.map .int)
      [some A, some (.lst true (l.map .int)), some at', some (.int cell), some od, t, f] := by
  intro l cell t hl hf
  refine fr_inv (fun ds en => ∃ (l' : List Int) (cell : Int) (t : Option D), l'.length + ds.length ≤ l.length + xs.length ∧ (∃ xs' : List Int, ds = xs'.map .int) ∧ en = [some A, some (.lst true (l'.map .int)), some at', some (.int cell), some od, t, f]) ?_ ?_ _ _ ⟨l, cell, t, by simp, ⟨xs, rfl⟩, rfl⟩
  · rintro d ds en K ⟨l', c, t, hb, ⟨xs', e⟩, rfl⟩ hK
    cases xs' with
    | nil => cases e
    | cons x0 xs' =>
      cases e
      rw [List.length_cons] at hb
      simp only [bindW, List.set_cons_succ, List.set_cons_zero]
      by_cases hc : 0 < c
      · rw [runs_1]; simp [run, ev, evs, evr, evB, evTs, evO, evSrc, asR, rv, rvs, isS, bindW, setN, offs, takeA, putA, callW, bopW, cmpW, addW, subW, mulW, fdivW, modW, powW, intW, eqW, inW, isW, isNon, negW, ixW, slW, lenW, bltW, intsW, isLst, itms, isiT, isiB, mutW, fz, frz, fzs, frzs, fzs_append, dat, dats, deq, deqs, Pf.flat, back, hnd, uv, uvs, offO, e_excs, e_exm, sq_none, sortI_len, hc]
        rw [runs_c]; simp [run, ev, evs, evr, evB, evTs, evO, evSrc, asR, rv, rvs, isS, bindW, setN, offs, takeA, putA, callW, bopW, cmpW, addW, subW, mulW, fdivW, modW, powW, intW, eqW, inW, isW, isNon, negW, ixW, slW, lenW, bltW, intsW, isLst, itms, isiT, isiB, mutW, fz, frz, fzs, frzs, fzs_append, dat, dats, deq, deqs, Pf.flat, back, hnd, uv, uvs, offO, e_excs, e_exm, sq_none, sortI_len]
        refine ⟨by omega, ?_⟩
        rw [runs_1]; simp [run, ev, evs, evr, evB, evTs, evO, evSrc, asR, rv, rvs, isS, bindW, setN, offs, takeA, putA, callW, bopW, cmpW, addW, subW, mulW, fdivW, modW, powW, intW, eqW, inW, isW, isNon, negW, ixW, slW, lenW, bltW, intsW, isLst, itms, isiT, isiB, mutW, fz, frz, fzs, frzs, fzs_append, dat, dats, deq, deqs, Pf.flat, back, hnd, uv, uvs, offO, e_excs, e_exm, sq_none, sortI_len]
        refine ⟨by decide, ?_⟩
        have := hK [some A, some (.lst true ((l' ++ [c % 30]).map .int)), some at', some (.int (c / 30)), some od, some (.int x0), f] ⟨_, _, _, by rw [List.length_append, List.length_singleton]; omega, ⟨xs', rfl⟩, rfl⟩
        simpa using this
      · rw [runs_1]; simp [run, ev, evs, evr, evB, evTs, evO, evSrc, asR, rv, rvs, isS, bindW, setN, offs, takeA, putA, callW, bopW, cmpW, addW, subW, mulW, fdivW, modW, powW, intW, eqW, inW, isW, isNon, negW, ixW, slW, lenW, bltW, intsW, isLst, itms, isiT, isiB, mutW, fz, frz, fzs, frzs, fzs_append, dat, dats, deq, deqs, Pf.flat, back, hnd, uv, uvs, offO, e_excs, e_exm, sq_none, sortI_len, hc]
        rw [runs_0]
        exact hK _ ⟨l', c, _, by omega, ⟨xs', rfl⟩, rfl⟩
  · rintro en ⟨l', c, t, hb, _, rfl⟩
    exact hf _ _ _ (by simpa using hb)
theorem draw_small {A od e : D} {at' : Int} {rt : D → En → Prop} {bk : En → Prop} {ex : Xp} {fin : En → Prop} {xs : List Int} : ∀ {l : List Int} {cell : D} {nb : Int} {t : Option D}, (0 ≤ nb ∧ nb < 1000003) → l.length + xs.length ≤ 10000 → (∀ (l' : List Int) nb t, l'.length ≤ l.length + xs.length → fin [some A, some (.lst true (l'.map .int)), some (.int at'), some cell, some od, t, nb]) →
    frW [5] (fun e2 K => runs (mkH fs26 ms2 fkL exL emL ciL) (.cons (.asg 6 (.bin .Mod (.blt .int1 (.cons (.bin .Add (.bin .Add (.bin .Add (.bin .Mult (.var 6) (.var 6)) (.bin .Mult (.var 5) (.int 613))) (.bin .Mult (.var 2) (.int 17))) (.int 1)) .nil)) (.int 1000003))) (.cons (.expr (.mut .append 1 (.cons (.var 6) .nil))) .nil)) e2 { nx := K, rt := rt, bk := bk, ct := K, ex := ex }) fin (xs.map .int)
      [some A, some (.lst true (l.map .int)), some (.int at'), some cell, some od, t, some (.int nb)] := by
  intro l cell nb t hnb hl hf
  refine fr_inv (fun ds en => ∃ (l' : List Int) (nb : Int) (t : Option D), (0 ≤ nb ∧ nb < 1000003) ∧ l'.length + ds.length ≤ l.length + xs.length ∧ (∃ xs' : List Int, ds = xs'.map .int) ∧ en = [some A, some (.lst true (l'.map .int)), some (.int at'), some cell, some od, t, some (.int nb)]) ?_ ?_ _ _ ⟨l, nb, t, hnb, by simp, ⟨xs, rfl⟩, rfl⟩
  · rintro d ds en K ⟨l', c, t, hn, hb, ⟨xs', e⟩, rfl⟩ hK
    cases xs' with
    | nil => cases e
    | cons x0 xs' =>
      cases e
      rw [List.length_cons] at hb
      simp only [bindW, List.set_cons_succ, List.set_cons_zero]
      rw [runs_c]; simp [run, ev, evs, evr, evB, evTs, evO, evSrc, asR, rv, rvs, isS, bindW, setN, offs, takeA, putA, callW, bopW, cmpW, addW, subW, mulW, fdivW, modW, powW, intW, eqW, inW, isW, isNon, negW, ixW, slW, lenW, bltW, intsW, isLst, itms, isiT, isiB, mutW, fz, frz, fzs, frzs, fzs_append, dat, dats, deq, deqs, Pf.flat, back, hnd, uv, uvs, offO, e_excs, e_exm, sq_none, sortI_len]
      refine ⟨.inl ⟨by omega, by omega⟩, ?_⟩
      rw [runs_1]; simp [run, ev, evs, evr, evB, evTs, evO, evSrc, asR, rv, rvs, isS, bindW, setN, offs, takeA, putA, callW, bopW, cmpW, addW, subW, mulW, fdivW, modW, powW, intW, eqW, inW, isW, isNon, negW, ixW, slW, lenW, bltW, intsW, isLst, itms, isiT, isiB, mutW, fz, frz, fzs, frzs, fzs_append, dat, dats, deq, deqs, Pf.flat, back, hnd, uv, uvs, offO, e_excs, e_exm, sq_none, sortI_len]
      refine ⟨by omega, ?_⟩
      have := hK [some A, some (.lst true ((l' ++ [(c * c + x0 * 613 + at' * 17 + 1) % 1000003]).map .int)), some (.int at'), some cell, some od, some (.int x0), some (.int ((c * c + x0 * 613 + at' * 17 + 1) % 1000003))] ⟨_, _, _, ⟨Int.emod_nonneg _ (by decide), Int.emod_lt_of_pos _ (by decide)⟩, by rw [List.length_append, List.length_singleton]; omega, ⟨xs', rfl⟩, rfl⟩
      simpa using this
  · rintro en ⟨l', c, t, _, hb, _, rfl⟩
    exact hf _ _ _ (by simpa using hb)
theorem draw_tail {A : D} {l : List Int} {j c od : Int} {f g : Option D} {K : En → Prop} {rt : D → En → Prop} {bk : En → Prop} {ex : Xp} (hl : l.length ≤ 4000) (hK : ∀ (l' : List Int) (a b c d e : Option D), l'.length ≤ l.length + 48 → K [some A, some (.lst true (l'.map .int)), a, b, c, d, e]) :
    runs (mkH fs26 ms2 fkL exL emL ciL) (.cons (.iff (.cmp .GtE (.var 3) (.bin .Pow (.int 10) (.int 18))) (.cons (.forr [5] (.rng (.cons (.int 48) .nil)) (.cons (.iff (.cmp .Gt (.var 3) (.int 0)) (.cons (.expr (.mut .append 1 (.cons (.bin .Mod (.blt .int1 (.cons (.var 3) .nil)) (.int 30)) .nil))) (.cons (.asg 3 (.bin .FloorDiv (.var 3) (.int 30))) .nil)) .nil) .nil)) .nil) (.cons (.asg 6 (.bin .Mod (.blt .int1 (.cons (.bin .Add (.bin .Add (.bin .Add (.bin .Mult (.var 3) (.int 7919)) (.bin .Mult (.var 2) (.int 104729))) (.bin .Mult (.var 4) (.int 31))) (.int 5)) .nil)) (.int 999983))) (.cons (.forr [5] (.rng (.cons (.int 6) .nil)) (.cons (.asg 6 (.bin .Mod (.blt .int1 (.cons (.bin .Add (.bin .Add (.bin .Add (.bin .Mult (.var 6) (.var 6)) (.bin .Mult (.var 5) (.int 613))) (.bin .Mult (.var 2) (.int 17))) (.int 1)) .nil)) (.int 1000003))) (.cons (.expr (.mut .append 1 (.cons (.var 6) .nil))) .nil))) .nil))) .nil) [some A, some (.lst true (l.map .int)), some (.int j), some (.int c), some (.int od), f, g] { nx := K, rt := rt, bk := bk, ct := K, ex := ex } := by
  by_cases hb : 1000000000000000000 ≤ c
  · rw [runs_1]; simp [run, ev, evs, evr, evB, evTs, evO, evSrc, asR, rv, rvs, isS, bindW, setN, offs, takeA, putA, callW, bopW, cmpW, addW, subW, mulW, fdivW, modW, powW, intW, eqW, inW, isW, isNon, negW, ixW, slW, lenW, bltW, intsW, isLst, itms, isiT, isiB, mutW, fz, frz, fzs, frzs, fzs_append, dat, dats, deq, deqs, Pf.flat, back, hnd, uv, uvs, offO, e_excs, e_exm, sq_none, sortI_len, hb]
    rw [runs_1, run_forr]; simp [run, ev, evs, evr, evB, evTs, evO, evSrc, asR, rv, rvs, isS, bindW, setN, offs, takeA, putA, callW, bopW, cmpW, addW, subW, mulW, fdivW, modW, powW, intW, eqW, inW, isW, isNon, negW, ixW, slW, lenW, bltW, intsW, isLst, itms, isiT, isiB, mutW, fz, frz, fzs, frzs, fzs_append, dat, dats, deq, deqs, Pf.flat, back, hnd, uv, uvs, offO, e_excs, e_exm, sq_none, sortI_len]
    have e := rg_map 48
    rw [show ((48 : Nat) : Int) = 48 from rfl] at e
    rw [e]
    refine draw_big (e := .non) (by simp; omega) fun l' cell t hb' => hK _ _ _ _ _ _ (by simpa using hb')
  · rw [runs_1]; simp [run, ev, evs, evr, evB, evTs, evO, evSrc, asR, rv, rvs, isS, bindW, setN, offs, takeA, putA, callW, bopW, cmpW, addW, subW, mulW, fdivW, modW, powW, intW, eqW, inW, isW, isNon, negW, ixW, slW, lenW, bltW, intsW, isLst, itms, isiT, isiB, mutW, fz, frz, fzs, frzs, fzs_append, dat, dats, deq, deqs, Pf.flat, back, hnd, uv, uvs, offO, e_excs, e_exm, sq_none, sortI_len, hb]
    rw [runs_c]; simp [run, ev, evs, evr, evB, evTs, evO, evSrc, asR, rv, rvs, isS, bindW, setN, offs, takeA, putA, callW, bopW, cmpW, addW, subW, mulW, fdivW, modW, powW, intW, eqW, inW, isW, isNon, negW, ixW, slW, lenW, bltW, intsW, isLst, itms, isiT, isiB, mutW, fz, frz, fzs, frzs, fzs_append, dat, dats, deq, deqs, Pf.flat, back, hnd, uv, uvs, offO, e_excs, e_exm, sq_none, sortI_len]
    rw [runs_1, run_forr]; simp [run, ev, evs, evr, evB, evTs, evO, evSrc, asR, rv, rvs, isS, bindW, setN, offs, takeA, putA, callW, bopW, cmpW, addW, subW, mulW, fdivW, modW, powW, intW, eqW, inW, isW, isNon, negW, ixW, slW, lenW, bltW, intsW, isLst, itms, isiT, isiB, mutW, fz, frz, fzs, frzs, fzs_append, dat, dats, deq, deqs, Pf.flat, back, hnd, uv, uvs, offO, e_excs, e_exm, sq_none, sortI_len]
    have e := rg_map 6
    rw [show ((6 : Nat) : Int) = 6 from rfl] at e
    rw [e]
    have h1 := Int.emod_nonneg (c * 7919 + j * 104729 + od * 31 + 5) (b := 999983) (by decide)
    have h2 := Int.emod_lt_of_pos (c * 7919 + j * 104729 + od * 31 + 5) (b := 999983) (by decide)
    refine draw_small (e := .non) ⟨h1, by omega⟩ (by simp; omega) fun l' nb t hb' => hK _ _ _ _ _ _ (by have := hb'; simp at this; omega)
theorem w_draws {ns : List Int} (hl : ns.length ≤ 63) {q : D → List (Option D) → Prop} {x} (h : ∀ l : List Int, q (.lst true (l.map .int)) [some (.lst false (ns.map .int))]) : s__law_draws [.lst false (ns.map .int)] q x := by
  unfold s__law_draws semF m__law_draws
  refine ⟨rfl, ?_⟩
  have hl' : ¬ ((63 : Int) < ns.length) := by omega
  rw [runs_c]; simp [run, ev, evs, evr, evB, evTs, evO, evSrc, asR, rv, rvs, isS, bindW, setN, offs, takeA, putA, callW, bopW, cmpW, addW, subW, mulW, fdivW, modW, powW, intW, eqW, inW, isW, isNon, negW, ixW, slW, lenW, bltW, intsW, isLst, itms, isiT, isiB, mutW, fz, frz, fzs, frzs, fzs_append, dat, dats, deq, deqs, Pf.flat, back, hnd, uv, uvs, offO, e_excs, e_exm, sq_none, sortI_len]
  rw [runs_c, run_forr]; simp [run, ev, evs, evr, evB, evTs, evO, evSrc, asR, rv, rvs, isS, bindW, setN, offs, takeA, putA, callW, bopW, cmpW, addW, subW, mulW, fdivW, modW, powW, intW, eqW, inW, isW, isNon, negW, ixW, slW, lenW, bltW, intsW, isLst, itms, isiT, isiB, mutW, fz, frz, fzs, frzs, fzs_append, dat, dats, deq, deqs, Pf.flat, back, hnd, uv, uvs, offO, e_excs, e_exm, sq_none, sortI_len, hl']
  refine ⟨by omega, ?_⟩
  rw [rg_map]
  refine fr_inv (fun ds en => ∃ (xs l : List Int) (a b c d e : Option D), ds = xs.map .int ∧ (∀ x ∈ xs, ∃ i : Nat, x = i ∧ i < ns.length) ∧ l.length + 48 * xs.length ≤ 3024 ∧ en = [some (.lst false (ns.map .int)), some (.lst true (l.map .int)), a, b, c, d, e]) ?_ ?_ _ _ ⟨_, [], none, none, none, none, none, rfl, fun x hx => ?_, by simp; omega, rfl⟩
  · rintro d ds en K ⟨xs, l, a, b, c, d', e, ed, hx, hb, rfl⟩ hK
    cases xs with
    | nil => cases ed
    | cons x0 xs =>
      cases ed
      obtain ⟨j, rfl, hj⟩ := hx _ List.mem_cons_self
      rw [List.length_cons] at hb
      simp only [bindW, List.set_cons_succ, List.set_cons_zero]
      rw [runs_c]; simp [run, ev, evs, evr, evB, evTs, evO, evSrc, asR, rv, rvs, isS, bindW, setN, offs, takeA, putA, callW, bopW, cmpW, addW, subW, mulW, fdivW, modW, powW, intW, eqW, inW, isW, isNon, negW, ixW, slW, lenW, bltW, intsW, isLst, itms, isiT, isiB, mutW, fz, frz, fzs, frzs, fzs_append, dat, dats, deq, deqs, Pf.flat, back, hnd, uv, uvs, offO, e_excs, e_exm, sq_none, sortI_len, atI_int hj]
      rw [runs_c]; simp [run, ev, evs, evr, evB, evTs, evO, evSrc, asR, rv, rvs, isS, bindW, setN, offs, takeA, putA, callW, bopW, cmpW, addW, subW, mulW, fdivW, modW, powW, intW, eqW, inW, isW, isNon, negW, ixW, slW, lenW, bltW, intsW, isLst, itms, isiT, isiB, mutW, fz, frz, fzs, frzs, fzs_append, dat, dats, deq, deqs, Pf.flat, back, hnd, uv, uvs, offO, e_excs, e_exm, sq_none, sortI_len]
      by_cases hneg : ns[j] < 0
      · rw [runs_c]; simp [run, ev, evs, evr, evB, evTs, evO, evSrc, asR, rv, rvs, isS, bindW, setN, offs, takeA, putA, callW, bopW, cmpW, addW, subW, mulW, fdivW, modW, powW, intW, eqW, inW, isW, isNon, negW, ixW, slW, lenW, bltW, intsW, isLst, itms, isiT, isiB, mutW, fz, frz, fzs, frzs, fzs_append, dat, dats, deq, deqs, Pf.flat, back, hnd, uv, uvs, offO, e_excs, e_exm, sq_none, sortI_len, hneg]
        rw [runs_c]; simp [run, ev, evs, evr, evB, evTs, evO, evSrc, asR, rv, rvs, isS, bindW, setN, offs, takeA, putA, callW, bopW, cmpW, addW, subW, mulW, fdivW, modW, powW, intW, eqW, inW, isW, isNon, negW, ixW, slW, lenW, bltW, intsW, isLst, itms, isiT, isiB, mutW, fz, frz, fzs, frzs, fzs_append, dat, dats, deq, deqs, Pf.flat, back, hnd, uv, uvs, offO, e_excs, e_exm, sq_none, sortI_len]
        rw [runs_1]; simp [run, ev, evs, evr, evB, evTs, evO, evSrc, asR, rv, rvs, isS, bindW, setN, offs, takeA, putA, callW, bopW, cmpW, addW, subW, mulW, fdivW, modW, powW, intW, eqW, inW, isW, isNon, negW, ixW, slW, lenW, bltW, intsW, isLst, itms, isiT, isiB, mutW, fz, frz, fzs, frzs, fzs_append, dat, dats, deq, deqs, Pf.flat, back, hnd, uv, uvs, offO, e_excs, e_exm, sq_none, sortI_len]
        exact draw_tail (by omega) fun l' a b c d e hb' => hK _ ⟨xs, l', a, b, c, d, e, rfl, fun x hx' => hx x (List.mem_cons_of_mem _ hx'), by omega, rfl⟩
      · rw [runs_c]; simp [run, ev, evs, evr, evB, evTs, evO, evSrc, asR, rv, rvs, isS, bindW, setN, offs, takeA, putA, callW, bopW, cmpW, addW, subW, mulW, fdivW, modW, powW, intW, eqW, inW, isW, isNon, negW, ixW, slW, lenW, bltW, intsW, isLst, itms, isiT, isiB, mutW, fz, frz, fzs, frzs, fzs_append, dat, dats, deq, deqs, Pf.flat, back, hnd, uv, uvs, offO, e_excs, e_exm, sq_none, sortI_len, hneg]
        rw [runs_0]; dsimp only
        exact draw_tail (by omega) fun l' a b c d e hb' => hK _ ⟨xs, l', a, b, c, d, e, rfl, fun x hx' => hx x (List.mem_cons_of_mem _ hx'), by omega, rfl⟩
  · rintro en ⟨xs, l, a, b, c, d', e, ed, _, _, rfl⟩
    rw [runs_c]; simp [run, ev, evs, evr, evB, evTs, evO, evSrc, asR, rv, rvs, isS, bindW, setN, offs, takeA, putA, callW, bopW, cmpW, addW, subW, mulW, fdivW, modW, powW, intW, eqW, inW, isW, isNon, negW, ixW, slW, lenW, bltW, intsW, isLst, itms, isiT, isiB, mutW, fz, frz, fzs, frzs, fzs_append, dat, dats, deq, deqs, Pf.flat, back, hnd, uv, uvs, offO, e_excs, e_exm, sq_none, sortI_len]
    rw [runs_1]; simp [run, ev, evs, evr, evB, evTs, evO, evSrc, asR, rv, rvs, isS, bindW, setN, offs, takeA, putA, callW, bopW, cmpW, addW, subW, mulW, fdivW, modW, powW, intW, eqW, inW, isW, isNon, negW, ixW, slW, lenW, bltW, intsW, isLst, itms, isiT, isiB, mutW, fz, frz, fzs, frzs, fzs_append, dat, dats, deq, deqs, Pf.flat, back, hnd, uv, uvs, offO, e_excs, e_exm, sq_none, sortI_len]
    have := h l.reverse
    simpa using this
  · obtain ⟨i, hi, rfl⟩ := List.mem_map.mp hx
    exact ⟨i, rfl, by simpa using hi⟩
end Pf

namespace Pf
open PySem PySem.Spec PyProof.Rows L2
abbrev GT : Gb := mkH fs27 ms2 fkL exL emL ciL
/-! ### the law -/
theorem sum_in {B : Int} (hB : 0 ≤ B) : ∀ (l : List Int), (∀ a ∈ l, -B ≤ a ∧ a ≤ B) → -((l.length : Int) * B) ≤ l.sum ∧ l.sum ≤ (l.length : Int) * B
  | [], _ => by simp
  | a :: l, h => by
    have h1 := h a List.mem_cons_self
    have h2 := sum_in hB l fun b hb => h b (List.mem_cons_of_mem _ hb)
    rw [List.sum_cons, List.length_cons]
    push_cast
    rw [Int.add_mul, Int.one_mul]
    omega
theorem sm7_of {top props : Nat} {w : List Int} (h1 : 1 ≤ top) (h7 : top ≤ 7) (hp : props ≤ top) (hl : w.length = top - props + 1) (hw : ∀ a ∈ w, -1000000000000 ≤ a ∧ a ≤ 1000000000000) : Sm7 top props w := by
  refine { t1 := h1, pt := hp, len := hl, t2 := by omega, tb := fun a ha => ?_, wb := fun a ha => ?_, t7 := h7 }
  · unfold tailsI at ha
    obtain ⟨i, _, rfl⟩ := List.mem_map.mp ha
    have h := sum_in (B := 1000000000000) (by decide) (w.drop i) fun a ha => hw a (List.mem_of_mem_drop ha)
    have hd : (w.drop i).length ≤ 8 := by rw [List.length_drop]; omega
    unfold tl
    omega
  · have := hw a ha
    omega
theorem as_take1 {G : Gb} {ds : List Int} {e : E} {m : Int} {S : Option D} {r : En} (hm : 0 < m) (he : As G e (.int m) (S :: some (.lst true (ds.map .int)) :: r) (S :: some (.lst true (ds.map .int)) :: r)) (f1 : G.fns "_law_take" = some s__law_take := by rfl) : As G (.call "_law_take" (.cons (.var 1) (.cons e .nil))) (.int (takeI ds m)) (S :: some (.lst true (ds.map .int)) :: r) (S :: some (.lst true (ds.dropLast.map .int)) :: r) := fun Q X hq => by
  rw [asR_n rfl, ev_call, evr_c, asR_vo (d := .lst true (ds.map .int)) rfl rfl, evr_c]
  refine he _ _ ?_
  rw [evr_0, f1, callW_some (ds := [.lst true (ds.map .int), .int m]) (en2 := S :: none :: r) (by rfl)]
  refine w_take ds hm _ _ ?_
  exact hq
theorem frz_li {o : Bool} (xs : List Int) : frz (.lst o (xs.map .int)) = .lst false (xs.map .int) := by rw [frz, frzs_of _ (by simp)]
theorem as_fr {G : Gb} {i : Nat} {d d' : D} {en : En} (h : (en[i]?).join = some d) (hd : frz d = d') : As G (.fv i) d' en (en.set i (some d')) := fun Q X hq => by
  subst hd
  exact as_fv h Q X hq
theorem as_ff {G : Gb} {i : Nat} {d : D} {en : En} (h : (en[i]?).join = some d) (hd : fz d = true) : As G (.fv i) d en en := fun Q X hq => by
  rw [asR_fv, ev_fvf h hd]
  exact hq
theorem as_list1 {G : Gb} {i : Nat} {o : Bool} {xs : List Int} {en : En} (h : (en[i]?).join = some (.lst o (xs.map .int))) : As G (.blt .list1 (.cons (.fv i) .nil)) (.lst true (xs.map .int)) en (en.set i (some (.lst false (xs.map .int)))) := fun Q X hq => by
  rw [asR_n rfl, ev_blt, evr_c]
  refine as_fr h (by rw [frz, frzs_of _ (by simp)]) _ _ ?_
  rw [evr_0]
  refine ⟨_, rfl, by simp, hq⟩
/-- [take(draws, k) - c for turn in range(e)] -/
theorem lc_takes {G : Gb} {e : E} {j m : Nat} {k c : Int} {S : Option D} {dr dr2 : List Int} {r : En} {Q : D → En → Prop} {X : Xp} (hk : 0 < k) (hm : m ≤ 100000) (hj : r.set j none = r) (he : ∀ (Q : D → En → Prop) (X : Xp), Q (.int m) (S :: some (.lst true (dr2.map .int)) :: r) → ev G e (S :: some (.lst true (dr.map .int)) :: r) Q X)
    (hQ : ∀ (w dr' : List Int), w.length = m → (∀ a ∈ w, -c ≤ a ∧ a < k - c) → Q (.lst true (w.map .int)) (S :: some (.lst true (dr'.map .int)) :: r)) (f1 : G.fns "_law_take" = some s__law_take := by rfl) :
    ev G (.lc [j + 2] (.rng (.cons e .nil)) .nil (.bin .Sub (.call "_law_take" (.cons (.var 1) (.cons (.int k) .nil))) (.int c))) (S :: some (.lst true (dr.map .int)) :: r) Q X := by
  rw [ev_lc]
  simp only [evSrc, evs]
  refine he _ _ ?_
  refine ⟨by omega, ?_⟩
  rw [rgL_0]
  simp only [offs, List.set_cons_succ]
  rw [hj]
  refine lc_inv (fun ds acc en => ∃ (l : List Nat) (dr acc' : List Int), ds = l.map (fun i : Nat => D.int (i : Int)) ∧ acc = acc'.map .int ∧ acc'.length + l.length = m ∧ (∀ a ∈ acc', -c ≤ a ∧ a < k - c) ∧ en = S :: some (.lst true (dr.map .int)) :: r) ?_ ?_ _ _ _ (by simp; omega) ⟨List.range' 0 m, dr2, [], rfl, rfl, by simp, by simp, rfl⟩
  · rintro d ds acc en Kn Ky ⟨l, dr, acc', e1, e2, e3, e4, e5⟩ hn hy
    cases l with
    | nil => cases e1
    | cons i l =>
      rw [List.map_cons] at e1
      cases e1
      subst e5 e2
      simp only [bindW, List.set_cons_succ, evTs, if_true]
      refine as_ev rfl (as_sub (as_take1 hk as_i f1) as_i) _ _ ?_
      simp only [offs, List.set_cons_succ, List.set_set, hj]
      have ht := takeI_lt dr hk
      rw [List.length_cons] at e3
      refine hy _ _ ⟨l, dr.dropLast, acc' ++ [takeI dr k - c], rfl, by rw [List.map_append]; rfl, by rw [List.length_append, List.length_singleton]; omega, fun a ha => ?_, rfl⟩
      rcases List.mem_append.mp ha with ha | ha
      · exact e4 a ha
      · rw [List.mem_singleton] at ha
        omega
  · rintro acc en ⟨l, dr, acc', e1, e2, e3, e4, e5⟩
    cases l with
    | cons i l => cases e1
    | nil =>
      subst e5 e2
      exact hQ _ _ (by simpa using e3) e4
theorem lc_great {ns : List Int} {m : Nat} {A1 A2 A3 A5 : Option D} {r : En} {Q : D → En → Prop} {X : Xp} (hm : m ≤ 100000)
    (hQ : ∀ w : List Int, w.length = m → (∀ a ∈ w, -1000000000000 ≤ a ∧ a ≤ 1000000000000) → Q (.lst true (w.map .int)) (some (.lst false (ns.map .int)) :: A1 :: A2 :: A3 :: some (.int m) :: A5 :: none :: r)) :
    ev GT (.lc [6] (.rng (.cons (.var 4) .nil)) .nil (.call "_law_great" (.cons (.var 0) (.cons (.var 6) (.cons (.bin .Pow (.int 10) (.int 12)) .nil))))) (some (.lst false (ns.map .int)) :: A1 :: A2 :: A3 :: some (.int m) :: A5 :: none :: r) Q X := by
  have f1 : GT.fns "_law_great" = some s__law_great := rfl
  rw [ev_lc]
  simp only [evSrc, evs]
  rw [ev_vf (d := .int (m : Int)) rfl rfl]
  refine ⟨by omega, ?_⟩
  rw [rgL_0]
  simp only [offs, List.set_cons_succ, List.set_cons_zero]
  refine lc_all (fun i : Nat => D.int (i : Int)) (fun i : Nat => D.int (greatI ns i 1000000000000)) (fun i hi Kn Ky hy => ?_) (by simp; omega) ?_
  · simp only [bindW, evTs, if_true, List.set_cons_succ, List.set_cons_zero]
    rw [ev_call, evr_c, asR_vf (d := .lst false (ns.map .int)) rfl (fz_lst_ints _), evr_c, asR_vf (d := .int (i : Int)) rfl rfl, evr_c, asR_n rfl, ev_bin, asR_n rfl, ev_int, asR_n rfl, ev_int]
    simp only [rv, bopW, powW]
    refine ⟨⟨by omega, by omega, by decide⟩, ?_⟩
    rw [show ((10 : Int) ^ (12 : Int).toNat) = 1000000000000 by decide, evr_0, f1, callW_some (by rfl)]
    refine w_great (by decide) _ _ ?_
    simp only [putA_v]
    unfold putA
    simp only [offs, List.set_cons_succ, List.set_cons_zero]
    exact hy
  · have h := hQ ((List.range' 0 m).map fun i : Nat => greatI ns i 1000000000000) (by simp) fun a ha => by
      obtain ⟨i, _, rfl⟩ := List.mem_map.mp ha
      exact greatI_le ns i (by decide)
    rw [List.map_map] at h
    exact h
theorem lc_shares {top props : Nat} {w : List Int} {T0 L0 : D} {B0 B1 B2 B3 B4 B5 B6 B7 B10 B12 B13 B14 B15 : Option D} {Q : D → En → Prop} {X : Xp} (W : Sm7 top props w) (hT : frz T0 = .lst false ((tailsI w).map .int)) (hL : frz L0 = .lst false ((choP top props).map tD))
    (hQ : ∀ T, frz T = .lst false ((tailsI w).map .int) → Q (.lst true (((choP top props).map (shV w)).map .int)) [B0, B1, B2, B3, B4, B5, B6, B7, some T, some (.lst false ((choP top props).map tD)), B10, none, B12, B13, B14, B15]) :
    ev GT (.lc [11] (.it (.fv 9)) .nil (.call "_law_share" (.cons (.fv 8) (.cons (.var 11) .nil)))) [B0, B1, B2, B3, B4, B5, B6, B7, some T0, some L0, B10, none, B12, B13, B14, B15] Q X := by
  have f1 : GT.fns "_law_share" = some s__law_share := rfl
  have hfz : ∀ L : List (List Nat), fzs (L.map tD) = true := fun L => by
    induction L with
    | nil => rfl
    | cons r L ih => rw [List.map_cons, fzs, ih]; simp [tD]
  have hu := cho_up W.t1 W.t7 W.pt
  have hTf : frz (.lst false ((tailsI w).map D.int)) = .lst false ((tailsI w).map .int) := by rw [frz, frzs_of _ (by simp)]
  rw [ev_lc, src_it]
  refine ev_fv (d := L0) rfl ?_
  rw [hL]
  refine ⟨_, rfl, ?_⟩
  rw [frzs_of _ (hfz _)]
  simp only [offs, List.set_cons_succ, List.set_cons_zero]
  refine lc_inv (fun ds acc en => ∃ (rows : List (List Nat)) (T : D), ds = rows.map tD ∧ (∀ r ∈ rows, r ∈ choP top props) ∧ frz T = .lst false ((tailsI w).map .int) ∧ acc ++ (rows.map (shV w)).map .int = ((choP top props).map (shV w)).map D.int ∧ en = [B0, B1, B2, B3, B4, B5, B6, B7, some T, some (.lst false ((choP top props).map tD)), B10, none, B12, B13, B14, B15]) ?_ ?_ _ _ _ (by have := hu.2; simp; omega) ⟨choP top props, T0, rfl, fun r h => h, hT, rfl, rfl⟩
  · rintro d ds acc en Kn Ky ⟨rows, T, e1, e2, e3, e4, e5⟩ hn hy
    cases rows with
    | nil => cases e1
    | cons r rows =>
      rw [List.map_cons] at e1
      cases e1
      subst e5
      have u := hu.1 r (e2 r List.mem_cons_self)
      have h11 : fz (tD r) = true := fz_tup_ints _
      simp only [bindW, List.set_cons_succ, List.set_cons_zero, evTs, if_true]
      rw [ev_call, evr_c]
      refine as_fr (d := T) rfl e3 _ _ ?_
      simp only [List.set_cons_succ, List.set_cons_zero]
      rw [evr_c, asR_vf (d := tD r) rfl h11, evr_0, f1, callW_some (by rfl)]
      refine w_law_share (T := .lst false ((tailsI w).map .int)) (O := tD r) (fz_lst_ints _) rfl h11 rfl W.toWk u _ _ ?_
      simp only [putA_v]
      unfold putA
      simp only [offs, List.set_cons_succ, List.set_cons_zero]
      refine hy _ _ ⟨rows, _, rfl, fun r' h => e2 r' (List.mem_cons_of_mem _ h), hTf, ?_, rfl⟩
      rw [List.map_cons, List.map_cons] at e4
      rw [List.append_assoc]
      exact e4
  · rintro acc en ⟨rows, T, e1, e2, e3, e4, e5⟩
    cases rows with
    | cons r rows => cases e1
    | nil =>
      subst e5
      rw [List.map_nil, List.map_nil, List.append_nil] at e4
      rw [e4]
      exact hQ T e3
def lawR : Ss := dropS 5 m_law
def lawE : Ss := dropS 11 m_law
theorem law_end {top props : Nat} {w ds : List Int} {S A2 A3 A4 A8 A9 A10 : Option D} {P : Pt} (h : ∀ en, P.rt (.bl true) en) :
    runs GT lawE [S, some (.lst true (ds.map .int)), A2, A3, A4, some (.lst false (w.map .int)), none, some (chD false top props w), A8, A9, A10, none, none, none, none, none] P := by
  have f1 : GT.fns "rising_sum" = some s_rising_sum := rfl
  have f2 : GT.fns "_law_rising" = some s__law_rising := rfl
  have f3 : GT.fns "_law_same" = some s__law_same := rfl
  have f4 : GT.fns "_law_refusals" = some s__law_refusals := rfl
  have eb : lawE = .cons (.asg 12 (.lc [13] (.rng (.cons (.call "_law_take" (.cons (.var 1) (.cons (.int 41) .nil))) .nil)) .nil (.bin .Sub (.call "_law_take" (.cons (.var 1) (.cons (.int 7) .nil))) (.int 3)))) (.cons (.asg 14 (.call "_law_take" (.cons (.var 1) (.cons (.int 41) .nil)))) (.cons (.asg 15 (.blt .list1 (.cons (.fv 12) .nil))) (.cons (.iff (.bop false (.cons (.nt (.call "_law_same" (.cons (.call "rising_sum" (.cons (.fv 15) (.cons (.var 14) .nil))) (.cons (.call "_law_rising" (.cons (.fv 12) (.cons (.var 14) .nil))) .nil)))) (.cons (.cmp .NotEq (.fv 15) (.fv 12)) .nil))) (.cons (.ret (.bl false)) .nil) .nil) (.cons (.iff (.nt (.call "_law_same" (.cons (.call "rising_sum" (.cons (.tup .nil) (.cons (.var 14) .nil))) (.cons (.call "_law_rising" (.cons (.lst .nil) (.cons (.var 14) .nil))) .nil)))) (.cons (.ret (.bl false)) .nil) .nil) (.cons (.ret (.call "_law_refusals" (.cons (.var 1) (.cons (.fv 7) (.cons (.fv 5) (.cons (.fv 12) .nil)))))) .nil))))) := rfl
  obtain ⟨m, hm, hm'⟩ := take_nat ds (m := 41) (by decide)
  rw [eb, runs_k, run_asg]
  refine lc_takes (j := 11) (m := m) (k := 7) (c := 3) (dr2 := ds.dropLast) (by decide) (by omega) rfl (fun Q X hq => as_ev rfl (as_take1 (by decide) as_i) _ _ (by rw [hm]; exact hq)) fun xs dr' hx hb => ?_
  simp only [List.set_cons_succ, List.set_cons_zero]
  obtain ⟨k, hk, hk'⟩ := take_nat dr' (m := 41) (by decide)
  rw [runs_k, run_asg]
  refine as_ev rfl (as_take1 (by decide) as_i) _ _ ?_
  rw [hk]
  simp only [List.set_cons_succ, List.set_cons_zero]
  rw [runs_k, run_asg]
  refine as_ev rfl (as_list1 (o := true) (xs := xs) rfl) _ _ ?_
  simp only [List.set_cons_succ, List.set_cons_zero]
  have hxf : frz (.lst false (xs.map D.int)) = .lst false (xs.map .int) := by rw [frz, frzs_of _ (by simp)]
  have hxt : frz (.lst true (xs.map D.int)) = .lst false (xs.map .int) := by rw [frz, frzs_of _ (by simp)]
  have hfx := fz_lst_ints xs
  have sm : ∀ a ∈ xs, -(2 ^ 64) < a ∧ a < 2 ^ 64 := fun a ha => by
    have := hb a ha
    omega
  rw [runs_k, run_iff, ev_bopc, ev_nt, ev_call, evr_c, asR_n rfl, ev_call, evr_c]
  refine as_fr (d := .lst true (xs.map .int)) rfl hxt _ _ ?_
  simp only [List.set_cons_succ, List.set_cons_zero]
  rw [evr_c, asR_vf (d := .int (k : Int)) rfl rfl, evr_0, f1, callW_some (by rfl)]
  refine w_rising (S := .lst false (xs.map .int)) hxf rfl rfl (by omega) (by omega) sm _ _ ?_
  simp only [putA_v]
  unfold putA
  rw [evr_c, asR_n rfl, ev_call, evr_c]
  refine as_fr (d := .lst false (xs.map .int)) rfl hxf _ _ ?_
  simp only [List.set_cons_succ, List.set_cons_zero]
  rw [evr_c, asR_vf (d := .int (k : Int)) rfl rfl, evr_0, f2, callW_some (by rfl)]
  refine w_law_rising (S := .lst false (xs.map .int)) hxf rfl (by omega) sm _ _ ?_
  simp only [putA_v]
  unfold putA
  rw [evr_0, f3, callW_some (by rfl)]
  refine w_same _ _ ?_
  refine ⟨_, rfl, _, rfl, ?_⟩
  simp only [putA_v]
  unfold putA
  rw [if_pos (by simp), ev_bop1, ev_cmp, asR_fv, ev_fvf (d := .lst false (xs.map .int)) rfl hfx, asR_fv, ev_fvf (d := .lst false (xs.map .int)) rfl hfx]
  simp only [rv, cmpW, eqW, dat, deq, dats_ints, deqs_ints]
  refine ⟨⟨trivial, trivial⟩, _, rfl, ?_⟩
  rw [if_neg (by simp), runs_0]
  dsimp only
  rw [runs_k, run_iff, ev_nt, ev_call, evr_c, asR_n rfl, ev_call, evr_c, asR_n rfl, ev_tup, evs_0, evr_c, asR_vf (d := .int (k : Int)) rfl rfl, evr_0, f1, callW_some (by rfl)]
  refine w_rising (S := .tup []) (xs := []) rfl rfl rfl (by simp) (by omega) (by simp) _ _ ?_
  simp only [putA_v]
  unfold putA
  rw [evr_c, asR_n rfl, ev_call, evr_c, asR_n rfl, ev_lst, evs_0, evr_c, asR_vf (d := .int (k : Int)) rfl rfl, evr_0, f2, callW_some (by rfl)]
  refine w_law_rising (S := .lst false []) (xs := []) rfl rfl (by omega) (by simp) _ _ ?_
  simp only [putA_v]
  unfold putA
  rw [evr_0, f3, callW_some (by rfl)]
  refine w_same _ _ ?_
  refine ⟨_, rfl, _, rfl, ?_⟩
  simp only [putA_v]
  unfold putA
  rw [if_neg (by simp), runs_0]
  dsimp only
  rw [runs_1, run_ret rfl, ev_call, evr_c, asR_vo (d := .lst true (dr'.dropLast.map .int)) rfl rfl, evr_c, asR_fv, ev_fvf (d := chD false top props w) rfl (fz_ch _ _ _), evr_c, asR_fv, ev_fvf (d := .lst false (w.map .int)) rfl (fz_lst_ints _), evr_c, asR_fv, ev_fvf (d := .lst false (xs.map .int)) rfl hfx, evr_0, f4, callW_some (by rfl)]
  refine w_refusals (fz_lst_ints _) rfl hfx rfl (by omega) fun us => ?_
  exact h _
theorem law_rest {top props : Nat} {w ds : List Int} {S A4 : Option D} (W : Sm7 top props w) {P : Pt} (h : ∀ en, P.rt (.bl true) en) :
    runs GT lawR [S, some (.lst true (ds.map .int)), some (.int top), some (.int props), A4, some (.lst true (w.map .int)), none, none, none, none, none, none, none, none, none, none] P := by
  have f1 : GT.fns "_law_tails" = some s__law_tails := rfl
  have f2 : GT.fns "_law_choices" = some s__law_choices := rfl
  have f3 : GT.fns "_law_sums" = some s__law_sums := rfl
  have f4 : GT.fns "_law_means" = some s__law_means := rfl
  have f5 : GT.fns "_law_lots_told" = some s__law_lots_told := rfl
  have eb : lawR = .cons (.asg 7 (.new "Chance" (.cons (.var 2) (.cons (.var 3) (.cons (.blt .list1 (.cons (.fv 5) .nil)) .nil))))) (.cons (.asg 8 (.call "_law_tails" (.cons (.fv 5) .nil))) (.cons (.asg 9 (.call "_law_choices" (.cons (.var 2) (.cons (.var 3) .nil)))) (.cons (.asg 10 (.lc [11] (.it (.fv 9)) .nil (.call "_law_share" (.cons (.fv 8) (.cons (.var 11) .nil))))) (.cons (.iff (.nt (.call "_law_sums" (.cons (.fv 7) (.cons (.fv 5) (.cons (.fv 8) (.cons (.fv 9) (.cons (.fv 10) .nil))))))) (.cons (.ret (.bl false)) .nil) .nil) (.cons (.iff (.bop false (.cons (.nt (.call "_law_means" (.cons (.fv 7) (.cons (.fv 5) (.cons (.fv 8) (.cons (.fv 9) .nil)))))) (.cons (.nt (.call "_law_lots_told" (.cons (.var 1) .nil))) .nil))) (.cons (.ret (.bl false)) .nil) .nil) lawE))))) := rfl
  have hwf : frz (.lst false (w.map D.int)) = .lst false (w.map .int) := by rw [frz, frzs_of _ (by simp)]
  have hlen := W.len
  have h7 := W.t7
  have hfz : ∀ L : List (List Nat), fzs (L.map tD) = true := fun L => by
    induction L with
    | nil => rfl
    | cons r L ih => rw [List.map_cons, fzs, ih]; simp [tD]
  have hLt : frz (.lst true ((choP top props).map tD)) = .lst false ((choP top props).map tD) := by rw [frz, frzs_of _ (hfz _)]
  have hLf : fz (.lst false ((choP top props).map tD)) = true := by rw [fz, hfz]; rfl
  rw [eb, runs_k, run_asg]
  refine as_ev rfl (as_new W.t1 W.pt W.len W.t2 (as_v rfl rfl) (as_v rfl rfl) (as_list1 (o := true) (xs := w) rfl)) _ _ ?_
  simp only [List.set_cons_succ, List.set_cons_zero]
  rw [runs_k, run_asg]
  refine ev_call_fv f1 (d := .lst false (w.map .int)) rfl ?_
  rw [hwf]
  refine w_tails (fz_lst_ints _) rfl (by omega) _ _ ?_
  simp only [List.set_cons_succ, List.set_cons_zero]
  rw [runs_k, run_asg, ev_call, evr_c]
  refine as_v rfl rfl _ _ ?_
  rw [evr_c]
  refine as_v rfl rfl _ _ ?_
  rw [evr_0, f2, callW_some (by rfl)]
  refine w_choices W.t1 h7 W.pt _ _ ?_
  simp only [putA_v]
  unfold putA
  simp only [List.set_cons_succ, List.set_cons_zero]
  rw [runs_k, run_asg]
  refine lc_shares W (by rw [frz, frzs_of _ (by simp)]) hLt fun T hT => ?_
  simp only [List.set_cons_succ, List.set_cons_zero]
  rw [runs_k, run_iff, ev_nt, ev_call, evr_c]
  refine as_fr (d := chD true top props w) rfl (frz_ch _ _ _ _) _ _ ?_
  simp only [List.set_cons_succ, List.set_cons_zero]
  rw [evr_c]
  refine as_fr (d := .lst false (w.map .int)) rfl hwf _ _ ?_
  simp only [List.set_cons_succ, List.set_cons_zero]
  rw [evr_c]
  refine as_fr (d := T) rfl hT _ _ ?_
  simp only [List.set_cons_succ, List.set_cons_zero]
  rw [evr_c]
  refine as_ff (d := .lst false ((choP top props).map tD)) rfl hLf _ _ ?_
  rw [evr_c]
  refine as_fr (d := .lst true (((choP top props).map (shV w)).map .int)) rfl (frz_li _) _ _ ?_
  simp only [List.set_cons_succ, List.set_cons_zero]
  rw [evr_0, f3, callW_some (by rfl)]
  refine w_sums W (fz_lst_ints _) rfl (fz_lst_ints _) rfl hLf rfl (fz_lst_ints _) rfl _ _ ?_
  refine ⟨_, rfl, _, rfl, ?_⟩
  simp only [putA_v]
  unfold putA
  rw [if_neg (by simp), runs_0]
  dsimp only
  rw [runs_k, run_iff, ev_bopc, ev_nt, ev_call, evr_c, asR_fv, ev_fvf (d := chD false top props w) rfl (fz_ch _ _ _), evr_c, asR_fv, ev_fvf (d := .lst false (w.map .int)) rfl (fz_lst_ints _), evr_c, asR_fv, ev_fvf (d := .lst false ((tailsI w).map .int)) rfl (fz_lst_ints _), evr_c, asR_fv, ev_fvf (d := .lst false ((choP top props).map tD)) rfl hLf, evr_0, f4, callW_some (by rfl)]
  refine w_means W (fz_lst_ints _) rfl (fz_lst_ints _) rfl hLf rfl _ _ ?_
  refine ⟨_, rfl, _, rfl, ?_⟩
  simp only [putA_v]
  unfold putA
  rw [if_pos (by simp), ev_bop1, ev_nt, ev_call, evr_c, asR_vo (d := .lst true (ds.map .int)) rfl rfl, evr_0, f5, callW_some (by rfl)]
  refine w_lots_told ds fun ds' => ?_
  refine ⟨_, rfl, _, rfl, ?_⟩
  rw [if_neg (by simp), runs_0]
  exact law_end h
theorem law_true : ∀ ns : List Int, ns.length ≤ 63 → s_law [.lst false (ns.map D.int)] (fun d _ => d = .bl true) (fun _ _ _ => False) := by
  intro ns hl
  have f1 : GT.fns "_law_draws" = some s__law_draws := rfl
  unfold s_law semF
  refine ⟨rfl, ?_⟩
  have eb : m_law = .cons (.asg 1 (.call "_law_draws" (.cons (.var 0) .nil))) (.cons (.asg 2 (.bin .Add (.int 1) (.call "_law_take" (.cons (.var 1) (.cons (.int 7) .nil))))) (.cons (.asg 3 (.call "_law_take" (.cons (.var 1) (.cons (.bin .Add (.var 2) (.int 1)) .nil)))) (.cons (.asg 4 (.bin .Add (.bin .Sub (.var 2) (.var 3)) (.int 1))) (.cons (.iff (.cmp .Eq (.call "_law_take" (.cons (.var 1) (.cons (.int 4) .nil))) (.int 3)) (.cons (.asg 5 (.lc [6] (.rng (.cons (.var 4) .nil)) .nil (.call "_law_great" (.cons (.var 0) (.cons (.var 6) (.cons (.bin .Pow (.int 10) (.int 12)) .nil)))))) .nil) (.cons (.asg 5 (.lc [6] (.rng (.cons (.var 4) .nil)) .nil (.bin .Sub (.call "_law_take" (.cons (.var 1) (.cons (.int 9) .nil))) (.int 4)))) .nil)) lawR)))) := rfl
  rw [eb, runs_k, run_asg]
  simp only [List.map_cons, List.map_nil, List.cons_append, List.nil_append, List.replicate]
  rw [ev_call, evr_c, asR_vf (d := .lst false (ns.map .int)) rfl (fz_lst_ints _), evr_0, f1, callW_some (by rfl)]
  refine w_draws hl fun ds => ?_
  simp only [putA_v]
  unfold putA
  simp only [List.set_cons_succ, List.set_cons_zero]
  obtain ⟨k, hk, hk'⟩ := take_nat ds (m := 7) (by decide)
  rw [runs_k, run_asg]
  refine as_ev rfl (as_add as_i (as_take1 (by decide) as_i)) _ _ ?_
  rw [hk, show (1 : Int) + (k : Int) = ((1 + k : Nat) : Int) by push_cast; rfl]
  generalize hn : 1 + k = n
  have hn1 : n ≤ 7 := by omega
  have hn2 : 1 ≤ n := by omega
  obtain ⟨p, hp, hp'⟩ := take_nat ds.dropLast (m := (n : Int) + 1) (by omega)
  simp only [List.set_cons_succ, List.set_cons_zero]
  rw [runs_k, run_asg]
  refine as_ev rfl (as_take1 (m := (n : Int) + 1) (by omega) (as_add (as_v rfl rfl) as_i)) _ _ ?_
  rw [hp]
  have hpn : p ≤ n := by omega
  have vf : (n : Int) - (p : Int) + 1 = ((n - p + 1 : Nat) : Int) := by omega
  simp only [List.set_cons_succ, List.set_cons_zero]
  rw [runs_k, run_asg]
  refine as_ev rfl (as_cast (as_add (as_sub (as_v rfl rfl) (as_v rfl rfl)) as_i) vf) _ _ ?_
  simp only [List.set_cons_succ, List.set_cons_zero]
  rw [runs_k, run_iff, ev_cmp]
  refine as_go (as_take1 (m := 4) (by decide) as_i) ?_
  rw [asR_n rfl, ev_int]
  simp only [rv, cmpW, eqW, dat, deq]
  refine ⟨⟨trivial, trivial⟩, _, rfl, ?_⟩
  split
  · rw [runs_1, run_asg]
    refine lc_great (m := n - p + 1) (by omega) fun w hw hb => ?_
    simp only [List.set_cons_succ, List.set_cons_zero]
    exact law_rest (sm7_of hn2 hn1 hpn hw hb) fun en => rfl
  · rw [runs_1, run_asg]
    refine lc_takes (j := 4) (m := n - p + 1) (k := 9) (c := 4) (by decide) (by omega) rfl (fun Q X hq => by rw [ev_vf (d := .int ((n - p + 1 : Nat) : Int)) rfl rfl]; exact hq) fun w dr' hw hb => ?_
    simp only [List.set_cons_succ, List.set_cons_zero]
    exact law_rest (sm7_of hn2 hn1 hpn hw fun a ha => by have := hb a ha; omega) fun en => rfl
end Pf


open PySem PySem.W PySem.Calls PyProof.Rows
theorem PySem.Challenge.cw_landings_k86_sums_means_lots_holds : PySem.Challenge.rw_landings_k86_sums_means_lots.Holds := by
  w_on; o_law
  refine HandSHeadRun.head_imp (r := OpenLaw.row PySem.Challenge.rw_landings_k86_sums_means_lots) (q := view (OpenLaw.row PySem.Challenge.rw_landings_k86_sums_means_lots).prog [0, 42]) (H := Pf.hk) (ob := Pf.ob) (M := 20000) (loose := ([("_wall" : PySem.Str), ("LandingsError" : PySem.Str), ("BadNumber" : PySem.Str), ("TooMany" : PySem.Str), ("BadSet" : PySem.Str), ("BadWeights" : PySem.Str), ("is_whole" : PySem.Str), ("is_row" : PySem.Str), ("check_whole" : PySem.Str), ("_numbers_of" : PySem.Str), ("rising_sum" : PySem.Str), ("total_share" : PySem.Str), ("empty_sum" : PySem.Str), ("thrown_sum" : PySem.Str), ("lot_ways" : PySem.Str), ("SETS_AT_MOST" : PySem.Str), ("_all_sets" : PySem.Str), ("_set_of" : PySem.Str), ("Chance" : PySem.Str), ("_law_draws" : PySem.Str), ("_law_take" : PySem.Str), ("_law_great" : PySem.Str), ("_law_whole" : PySem.Str), ("_law_tails" : PySem.Str), ("_law_choices" : PySem.Str), ("_law_share" : PySem.Str), ("_law_onward" : PySem.Str), ("_law_same" : PySem.Str), ("_law_rising" : PySem.Str), ("_law_lots" : PySem.Str), ("_law_sums" : PySem.Str), ("_law_means" : PySem.Str), ("_law_partings" : PySem.Str), ("_law_lots_told" : PySem.Str), ("_law_door" : PySem.Str), ("_law_refusals" : PySem.Str)] : List PySem.Str)) (d := HandSHeadRun.topDef (OpenLaw.row PySem.Challenge.rw_landings_k86_sums_means_lots).prog 42) (kwd := []) Pf.ob_eq
    Pf.hrun (by kernel_rfl) (by kernel_rfl) (by kernel_rfl) (by rfl) (by first | assumption | decide +kernel) (by decide +kernel) ⟨rfl, rfl, rfl, rfl, rfl, by decide +kernel⟩ ?hw ?hc
  case hw => w_witness2
  case hc =>
    refine L2.walk_ofE (l := PySem.Challenge.rw_landings_k86_sums_means_lots) (n := 63) (k := 34) (x := "script") (CX := L2.CX0) rfl (by decide) (by kernel_rfl) ⟨rfl, by decide, by decide⟩ ?F (fun _ _ _ _ z => z)
    intro w mg fa h Y G hmg0
    obtain ⟨K, KX, c⟩ := Y
    have hmg : mg ("law" : PySem.Str) = some (.ref fa) := by
      have e : (HandSHeadRun.topDef (OpenLaw.row PySem.Challenge.rw_landings_k86_sums_means_lots).prog 42).name = ("law" : PySem.Str) := by kernel_rfl
      rw [← e]
      exact hmg0
    obtain ⟨fd, hb, hK, hF⟩ := Pf.law_all (P := (PySem.Challenge.rw_landings_k86_sums_means_lots).prog) (w := w) KX G hmg c
    exact ⟨K, fd, (fun vs H Q _ => Pf.spOf K (He.ga K) (Pf.mkH Pf.fs27 Pf.ms2 Pf.fkL Pf.exL Pf.emL Pf.ciL) Pf.s_law vs H Q L2.E0), KX, hb, fun H a ns hl _ hS => Pf.law_sp (n := 63) Pf.law_true hK hl hS, fun base _ _ => hF base⟩
