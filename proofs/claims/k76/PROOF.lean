import PyProof.Rows.All
import Wide.All
import OpenK.AllK
import Wide.FinOn
import HandS.ForMost
import HandS.Walk
import HandS.Zip
import HandS.Rev
import HandS.Deep
import HandS.HeadHook2
import HandS.HeadEnd
import HandS.Head2
import HandS.Wide
import HandS.TupAny
import HandS.TupMul
import HandS.TupLe
import HandS.IsInst
import HandS.More
import PyProof.StrOps2
import KE.KTupSum
import KE.DataMinMax
import KE.DataAny
import KE.GoesZip
import KE.GoesEnum
import KE.GoesEnumKw
import KE.GoesMore
import HandS.TryOnly
import HandS.Style
import HandS.SortKw
import PyProof.Rows.StrCountLaw
import PyProof.P3Eq
import Lean
import PySem.Challenge.RW_dunebooks_k76_whole_long_books_between
set_option Elab.async false
set_option linter.all false
set_option maxRecDepth 100000
set_option maxHeartbeats 0
/-! DL: a layer of values over HandS: what an expression computes, as a function of plain data; what a def keeps is told by labels of addresses. -/
namespace DL
open PySem PySem.Spec PyProof.Rows L2

abbrev D := PyData
/-- a field of an instance that is owned: data, or a list that is the field's own -/
inductive FB where
  | val (d : D) | lst (ds : List D)
/-- what a slot holds: data that never changes, a list of its own, the script, an instance of its own -/
inductive B where
  | val (d : D) | lst (ds : List D) | scr (ns : List Int) | ins (c : Str) (fs : List (Str × FB)) | dk (kvs : List (Key × D)) | dt (kvs : List (List Key × D))
/-- whose an address is: nobody's, data for ever, a caller's, the part k of slot i (none: of what was just reckoned) -/
inductive Lab where
  | out | frz | frm | own (i : Option Nat) (k : Nat)
  deriving DecidableEq
abbrev Ow := Addr → Lab
def res (H : Hp) (ow : Ow) (l : Lab) : Hp := fun b => if ow b = l then H b else none
abbrev Fz (H : Hp) (ow : Ow) : Hp := res H ow .frz
theorem res_at {H : Hp} {ow : Ow} {l : Lab} {b : Addr} (h : ow b = l) : res H ow l b = H b := if_pos h
theorem res_some {H : Hp} {ow : Ow} {l : Lab} {b : Addr} {o : HO} (h : res H ow l b = some o) : ow b = l ∧ H b = some o := by
  unfold res at h
  by_cases e : ow b = l
  · rw [if_pos e] at h
    exact ⟨e, h⟩
  · rw [if_neg e] at h
    cases h
theorem res_sub {H : Hp} {ow : Ow} {l : Lab} : Same (res H ow l) H := fun b o h => (res_some h).2

/-! ### data in a heap -/
mutual
inductive Rp (K : PySem.W.Frag) (H : Hp) : V → D → Prop
  | non : Rp K H .non .none
  | bl (b : Bool) : Rp K H (.bl b) (.bool b)
  | int (i : Int) : Rp K H (.int i) (.int i)
  | str (x : Str) : Rp K H (.str x) (.str x)
  | lst {a : Addr} {xs : List V} {ds : List D} : H a = some (.lst xs) → RpAll K H xs ds → Rp K H (.ref a) (.list ds)
  | tup {a : Addr} {xs : List V} {ds : List D} : SqT K H a xs → RpAll K H xs ds → Rp K H (.ref a) (.tuple ds)
inductive RpAll (K : PySem.W.Frag) (H : Hp) : List V → List D → Prop
  | nil : RpAll K H [] []
  | cons {v : V} {vs : List V} {d : D} {ds : List D} : Rp K H v d → RpAll K H vs ds → RpAll K H (v :: vs) (d :: ds)
end
theorem Same.rd {H H' : Hp} {a : Addr} {u : HO} (e : Same H H') (h : Rd H a u) : Rd H' a u := by
  rcases h with h | ⟨o, h⟩
  · exact .inl (e _ _ h)
  · exact .inr ⟨o, e _ _ h⟩
theorem Same.sqT {K : PySem.W.Frag} {H H' : Hp} {a : Addr} {xs : List V} (e : Same H H') (h : SqT K H a xs) : SqT K H' a xs := by
  rcases h with h | h
  · exact .inl (Same.rd e h)
  · exact .inr h
section
variable {K : PySem.W.Frag} {H H' : Hp}
mutual
theorem Rp.mono (e : Same H H') : ∀ {d : D} {v : V}, Rp K H v d → Rp K H' v d
  | _, _, .non => .non
  | _, _, .bl b => .bl b
  | _, _, .int i => .int i
  | _, _, .str x => .str x
  | _, _, .lst h r => .lst (e _ _ h) (RpAll.mono e r)
  | _, _, .tup h r => .tup (Same.sqT e h) (RpAll.mono e r)
theorem RpAll.mono (e : Same H H') : ∀ {ds : List D} {vs : List V}, RpAll K H vs ds → RpAll K H' vs ds
  | _, _, .nil => .nil
  | _, _, .cons h r => .cons (Rp.mono e h) (RpAll.mono e r)
end
mutual
theorem Rp.dp : ∀ {d : D} {v : V}, Rp K H v d → Dp K H v d
  | _, _, .non => .non
  | _, _, .bl b => .bl b
  | _, _, .int i => .int i
  | _, _, .str x => .str x
  | _, _, .lst h r => .lst (SqL.of h) (RpAll.dp r)
  | _, _, .tup h r => .tup h (RpAll.dp r)
theorem RpAll.dp : ∀ {ds : List D} {vs : List V}, RpAll K H vs ds → DpAll K H vs ds
  | _, _, .nil => .nil
  | _, _, .cons h r => .cons (Rp.dp h) (RpAll.dp r)
end
theorem RpAll.length : ∀ {ds : List D} {vs : List V}, RpAll K H vs ds → vs.length = ds.length
  | _, _, .nil => rfl
  | _, _, .cons _ r => congrArg Nat.succ (RpAll.length r)
theorem RpAll.get : ∀ {ds : List D} {vs : List V} {i : Nat} {d : D}, RpAll K H vs ds → ds[i]? = some d → ∃ v, vs[i]? = some v ∧ Rp K H v d
  | _, _, _, _, .nil, e => by simp at e
  | _, _, 0, _, .cons h _, e => by simp at e; subst e; exact ⟨_, rfl, h⟩
  | _, _, i + 1, _, .cons _ r, e => by
    obtain ⟨v, h1, h2⟩ := RpAll.get (i := i) r (by simpa using e)
    exact ⟨v, by simpa using h1, h2⟩
theorem RpAll.getV : ∀ {ds : List D} {vs : List V} {i : Nat} {v : V}, RpAll K H vs ds → vs[i]? = some v → ∃ d, ds[i]? = some d ∧ Rp K H v d
  | _, _, _, _, .nil, e => by simp at e
  | _, _, 0, _, .cons h _, e => by simp at e; subst e; exact ⟨_, rfl, h⟩
  | _, _, i + 1, _, .cons _ r, e => by
    obtain ⟨v, h1, h2⟩ := RpAll.getV (i := i) r (by simpa using e)
    exact ⟨v, by simpa using h1, h2⟩
theorem RpAll.append : ∀ {ds es : List D} {vs us : List V}, RpAll K H vs ds → RpAll K H us es → RpAll K H (vs ++ us) (ds ++ es)
  | _, _, _, _, .nil, s => s
  | _, _, _, _, .cons h r, s => .cons h (RpAll.append r s)
theorem RpAll.take : ∀ {ds : List D} {vs : List V} (n : Nat), RpAll K H vs ds → RpAll K H (vs.take n) (ds.take n)
  | _, _, 0, _ => .nil
  | _, _, _ + 1, .nil => .nil
  | _, _, n + 1, .cons h r => .cons h (RpAll.take n r)
theorem RpAll.drop : ∀ {ds : List D} {vs : List V} (n : Nat), RpAll K H vs ds → RpAll K H (vs.drop n) (ds.drop n)
  | _, _, 0, r => r
  | _, _, _ + 1, .nil => .nil
  | _, _, n + 1, .cons _ r => RpAll.drop n r
theorem RpAll.reverse : ∀ {ds : List D} {vs : List V}, RpAll K H vs ds → RpAll K H vs.reverse ds.reverse
  | _, _, .nil => .nil
  | _, _, .cons h r => by
    rw [List.reverse_cons, List.reverse_cons]
    exact (RpAll.reverse r).append (.cons h .nil)
theorem RpAll.set {d : D} {v : V} (h : Rp K H v d) : ∀ {ds : List D} {vs : List V} (n : Nat), RpAll K H vs ds → RpAll K H (vs.set n v) (ds.set n d)
  | _, _, _, .nil => .nil
  | _, _, 0, .cons _ r => .cons h r
  | _, _, n + 1, .cons q r => .cons q (RpAll.set h n r)
theorem rp_int {v : V} {i : Int} (h : Rp K H v (.int i)) : v = .int i := by cases h; rfl
theorem rp_bl {v : V} {b : Bool} (h : Rp K H v (.bool b)) : v = .bl b := by cases h; rfl
theorem rp_str {v : V} {x : Str} (h : Rp K H v (.str x)) : v = .str x := by cases h; rfl
theorem rp_non {v : V} (h : Rp K H v .none) : v = .non := by cases h; rfl
theorem rp_lst {v : V} {ds : List D} (h : Rp K H v (.list ds)) : ∃ a xs, v = .ref a ∧ H a = some (.lst xs) ∧ RpAll K H xs ds := by
  cases h with
  | lst h r => exact ⟨_, _, rfl, h, r⟩
theorem rp_tup {v : V} {ds : List D} (h : Rp K H v (.tuple ds)) : ∃ a xs, v = .ref a ∧ SqT K H a xs ∧ RpAll K H xs ds := by
  cases h with
  | tup h r => exact ⟨_, _, rfl, h, r⟩
theorem rpAll_ints : ∀ {ns : List Int} {vs : List V}, RpAll K H vs (ns.map PyData.int) → vs = ns.map V.int
  | [], _, h => by cases h; rfl
  | n :: ns, _, h => by
    cases h with
    | cons h r => rw [rp_int h, rpAll_ints r]; rfl
theorem rpAll_bls : ∀ {bs : List Bool} {vs : List V}, RpAll K H vs (bs.map PyData.bool) → vs = bs.map V.bl
  | [], _, h => by cases h; rfl
  | b :: bs, _, h => by
    cases h with
    | cons h r => rw [rp_bl h, rpAll_bls r]; rfl
theorem rpAll_strs : ∀ {ss : List Str} {vs : List V}, RpAll K H vs (ss.map PyData.str) → vs = ss.map V.str
  | [], _, h => by cases h; rfl
  | b :: bs, _, h => by
    cases h with
    | cons h r => rw [rp_str h, rpAll_strs r]; rfl
end

/-! ### what slots hold -/
section
variable (K : PySem.W.Frag) (H : Hp) (ow : Ow)
def FRep (i : Option Nat) (k : Nat) : FB → V → Prop
  | .val d, v => Rp K (Fz H ow) v d
  | .lst ds, v => ∃ a vs, v = .ref a ∧ ow a = .own i k ∧ H a = some (.lst vs) ∧ RpAll K (Fz H ow) vs ds
def FsRep (i : Option Nat) : Nat → List (Str × FB) → List (Str × V) → Prop
  | _, [], vs => vs = []
  | k, f :: fs, vs => ∃ v r, vs = (f.1, v) :: r ∧ FRep K H ow i k f.2 v ∧ FsRep i (k + 1) fs r
/-- a dict's pairs: the same keys, data -/
def RpKV {κ : Type} (K : PySem.W.Frag) (F : Hp) (vs : List (κ × V)) (kvs : List (κ × D)) : Prop := vs.map (·.1) = kvs.map (·.1) ∧ RpAll K F (vs.map (·.2)) (kvs.map (·.2))
theorem RpKV.mono {κ : Type} {K : PySem.W.Frag} {F F' : Hp} {vs : List (κ × V)} {kvs : List (κ × D)} (e : Same F F') (h : RpKV K F vs kvs) : RpKV K F' vs kvs := ⟨h.1, RpAll.mono e h.2⟩
def BRep (i : Option Nat) : B → V → Prop
  | .val d, v => Rp K (Fz H ow) v d
  | .lst ds, v => ∃ a vs, v = .ref a ∧ ow a = .own i 0 ∧ H a = some (.lst vs) ∧ RpAll K (Fz H ow) vs ds
  | .scr ns, v => ∃ a, v = .ref a ∧ SqL K (Fz H ow) a (ns.map V.int)
  | .ins c fs, v => ∃ a dx vs, v = .ref a ∧ ow a = .own i 0 ∧ H a = some (.ins (He.ga K c) dx vs) ∧ FsRep K H ow i 1 fs vs
  | .dk kvs, v => ∃ a vs, v = .ref a ∧ ow a = .own i 0 ∧ H a = some (.dK vs) ∧ RpKV K (Fz H ow) vs kvs
  | .dt kvs, v => ∃ a vs, v = .ref a ∧ ow a = .own i 0 ∧ H a = some (.dT vs) ∧ RpKV K (Fz H ow) vs kvs
abbrev Env := List (Option B)
structure Sta (σ : L2.St) (en : Env) : Prop where
  len : en.length = σ.length
  rep : ∀ i b, en[i]? = some (some b) → ∃ v, σ[i]? = some (some v) ∧ BRep K H ow (some i) b v
  dom : ∀ b, ow b ≠ .out → H b ≠ none
end
/-- what stays for ever, what callers own: from one state to a later one -/
structure Ext (H : Hp) (ow : Ow) (H' : Hp) (ow' : Ow) : Prop where
  frz : ∀ b, ow b = .frz → ow' b = .frz ∧ H' b = H b
  frm : ∀ b, ow b = .frm → ow' b = .frm ∧ H' b = H b
theorem Ext.refl (H : Hp) (ow : Ow) : Ext H ow H ow := ⟨fun _ h => ⟨h, rfl⟩, fun _ h => ⟨h, rfl⟩⟩
theorem Ext.trans {H H1 H2 : Hp} {ow ow1 ow2 : Ow} (a : Ext H ow H1 ow1) (b : Ext H1 ow1 H2 ow2) : Ext H ow H2 ow2 :=
  ⟨fun x h => ⟨(b.frz x (a.frz x h).1).1, (b.frz x (a.frz x h).1).2.trans (a.frz x h).2⟩, fun x h => ⟨(b.frm x (a.frm x h).1).1, (b.frm x (a.frm x h).1).2.trans (a.frm x h).2⟩⟩
theorem Ext.fz {H H1 : Hp} {ow ow1 : Ow} (a : Ext H ow H1 ow1) : Same (Fz H ow) (Fz H1 ow1) := fun b o h => by
  obtain ⟨h1, h2⟩ := res_some h
  obtain ⟨h3, h4⟩ := a.frz b h1
  exact (res_at h3).trans (h4.trans h2)
section
variable {K : PySem.W.Frag} {H H' : Hp} {ow ow' : Ow}
theorem FRep.mono {i : Option Nat} {k : Nat} (e : Same (Fz H ow) (Fz H' ow')) (o : ∀ b k, ow b = .own i k → ow' b = .own i k ∧ H' b = H b) : ∀ {f : FB} {v : V}, FRep K H ow i k f v → FRep K H' ow' i k f v
  | .val d, v, h => Rp.mono e h
  | .lst ds, v, ⟨a, vs, h1, h2, h3, h4⟩ => ⟨a, vs, h1, (o a k h2).1, (o a k h2).2.trans h3, RpAll.mono e h4⟩
theorem FsRep.mono {i : Option Nat} (e : Same (Fz H ow) (Fz H' ow')) (o : ∀ b k, ow b = .own i k → ow' b = .own i k ∧ H' b = H b) : ∀ {fs : List (Str × FB)} {k : Nat} {vs : List (Str × V)}, FsRep K H ow i k fs vs → FsRep K H' ow' i k fs vs
  | [], _, _, h => h
  | f :: fs, k, vs, ⟨v, r, h1, h2, h3⟩ => ⟨v, r, h1, FRep.mono e o h2, FsRep.mono e o h3⟩
theorem BRep.mono {i : Option Nat} (e : Same (Fz H ow) (Fz H' ow')) (o : ∀ b k, ow b = .own i k → ow' b = .own i k ∧ H' b = H b) : ∀ {b : B} {v : V}, BRep K H ow i b v → BRep K H' ow' i b v
  | .val d, v, h => Rp.mono e h
  | .lst ds, v, ⟨a, vs, h1, h2, h3, h4⟩ => ⟨a, vs, h1, (o a 0 h2).1, (o a 0 h2).2.trans h3, RpAll.mono e h4⟩
  | .scr ns, v, ⟨a, h1, h2⟩ => ⟨a, h1, L2.Same.seq e h2⟩
  | .ins c fs, v, ⟨a, dx, vs, h1, h2, h3, h4⟩ => ⟨a, dx, vs, h1, (o a 0 h2).1, (o a 0 h2).2.trans h3, FsRep.mono e o h4⟩
  | .dk kvs, v, ⟨a, vs, h1, h2, h3, h4⟩ => ⟨a, vs, h1, (o a 0 h2).1, (o a 0 h2).2.trans h3, RpKV.mono e h4⟩
  | .dt kvs, v, ⟨a, vs, h1, h2, h3, h4⟩ => ⟨a, vs, h1, (o a 0 h2).1, (o a 0 h2).2.trans h3, RpKV.mono e h4⟩
/-- all own parts relabelled from i to j -/
theorem FRep.move {i j : Option Nat} {k : Nat} (e : Same (Fz H ow) (Fz H' ow')) (o : ∀ b k, ow b = .own i k → ow' b = .own j k ∧ H' b = H b) : ∀ {f : FB} {v : V}, FRep K H ow i k f v → FRep K H' ow' j k f v
  | .val d, v, h => Rp.mono e h
  | .lst ds, v, ⟨a, vs, h1, h2, h3, h4⟩ => ⟨a, vs, h1, (o a k h2).1, (o a k h2).2.trans h3, RpAll.mono e h4⟩
theorem FsRep.move {i j : Option Nat} (e : Same (Fz H ow) (Fz H' ow')) (o : ∀ b k, ow b = .own i k → ow' b = .own j k ∧ H' b = H b) : ∀ {fs : List (Str × FB)} {k : Nat} {vs : List (Str × V)}, FsRep K H ow i k fs vs → FsRep K H' ow' j k fs vs
  | [], _, _, h => h
  | f :: fs, k, vs, ⟨v, r, h1, h2, h3⟩ => ⟨v, r, h1, FRep.move e o h2, FsRep.move e o h3⟩
theorem BRep.move {i j : Option Nat} (e : Same (Fz H ow) (Fz H' ow')) (o : ∀ b k, ow b = .own i k → ow' b = .own j k ∧ H' b = H b) : ∀ {b : B} {v : V}, BRep K H ow i b v → BRep K H' ow' j b v
  | .val d, v, h => Rp.mono e h
  | .lst ds, v, ⟨a, vs, h1, h2, h3, h4⟩ => ⟨a, vs, h1, (o a 0 h2).1, (o a 0 h2).2.trans h3, RpAll.mono e h4⟩
  | .scr ns, v, ⟨a, h1, h2⟩ => ⟨a, h1, L2.Same.seq e h2⟩
  | .ins c fs, v, ⟨a, dx, vs, h1, h2, h3, h4⟩ => ⟨a, dx, vs, h1, (o a 0 h2).1, (o a 0 h2).2.trans h3, FsRep.move e o h4⟩
  | .dk kvs, v, ⟨a, vs, h1, h2, h3, h4⟩ => ⟨a, vs, h1, (o a 0 h2).1, (o a 0 h2).2.trans h3, RpKV.mono e h4⟩
  | .dt kvs, v, ⟨a, vs, h1, h2, h3, h4⟩ => ⟨a, vs, h1, (o a 0 h2).1, (o a 0 h2).2.trans h3, RpKV.mono e h4⟩
end
end DL

namespace DL
open PySem PySem.Spec PyProof.Rows L2
/-! ### what is reckoned -/
abbrev M (α : Type) := Env → Option (α × Env)
def ret {α : Type} (a : α) : M α := fun en => some (a, en)
def stuck {α : Type} : M α := fun _ => none
def bd {α β : Type} (m : M α) (f : α → M β) : M β := fun en => match m en with
  | some (a, en') => f a en'
  | none => none
/-- data for ever out of what was reckoned -/
def toD : B → M D
  | .val d => ret d
  | .lst ds => ret (.list ds)
  | _ => stuck
def mD (m : M B) : M D := bd m toD

section
variable (K : PySem.W.Frag)
def rB (H : Hp) (ow : Ow) (b : B) (v : V) : Prop := BRep K H ow none b v
def rD (H : Hp) (ow : Ow) (d : D) (v : V) : Prop := Rp K (Fz H ow) v d
def rDs (H : Hp) (ow : Ow) (ds : List D) (vs : List V) : Prop := RpAll K (Fz H ow) vs ds
def rT (H : Hp) (ow : Ow) (b : Bool) (c : Bool) : Prop := c = b
variable {α β : Type} (rep : Hp → Ow → α → β → Prop)
def Go (σ : L2.St) (r : Option (α × Env)) (H : Hp) (ow : Ow) (Q : β → Hp → Prop) : Prop :=
  ∃ a en', r = some (a, en') ∧ ∀ H' ow' x, Ext H ow H' ow' → Sta K H' ow' σ en' → rep H' ow' a x → Q x H'
def tM (m : M α) : L2.St → Hp → (β → Hp → Prop) → Prop := fun σ H Q => ∃ ow en, Sta K H ow σ en ∧ Go K rep σ (m en) H ow Q
end
section
variable {K : PySem.W.Frag} {α β γ δ : Type} {rep : Hp → Ow → α → β → Prop} {rep2 : Hp → Ow → γ → δ → Prop} {σ : L2.St} {H : Hp} {ow : Ow} {Q : β → Hp → Prop} {en : Env}
theorem Go.mono {r : Option (α × Env)} {H0 : Hp} {ow0 : Ow} (e : Ext H0 ow0 H ow) (h : Go K rep σ r H0 ow0 Q) : Go K rep σ r H ow Q := by
  obtain ⟨a, en', h1, h2⟩ := h
  exact ⟨a, en', h1, fun H' ow' x e' s q => h2 H' ow' x (e.trans e') s q⟩
theorem Go.bind {m : M γ} {f : γ → M α} (h : Go K rep σ (bd m f en) H ow Q) :
    Go K rep2 σ (m en) H ow (fun y H1 => ∃ ow1 en1 c, Ext H ow H1 ow1 ∧ Sta K H1 ow1 σ en1 ∧ rep2 H1 ow1 c y ∧ Go K rep σ (f c en1) H1 ow1 Q) := by
  obtain ⟨a, en', h1, h2⟩ := h
  unfold bd at h1
  cases e : m en with
  | none =>
    rw [e] at h1
    cases h1
  | some p =>
    obtain ⟨c, en1⟩ := p
    rw [e] at h1
    refine ⟨c, en1, rfl, fun H1 ow1 y x1 s1 q1 => ⟨ow1, en1, c, x1, s1, q1, a, en', h1, fun H' ow' x e' s q => h2 H' ow' x (x1.trans e') s q⟩⟩
theorem tM.of {m : M α} (s : Sta K H ow σ en) (h : Go K rep σ (m en) H ow Q) : tM K rep m σ H Q := ⟨ow, en, s, h⟩
theorem Go.ret_ {a : α} (h : Go K rep σ (ret a en) H ow Q) {H' : Hp} {ow' : Ow} {x : β} (e : Ext H ow H' ow') (s : Sta K H' ow' σ en) (q : rep H' ow' a x) : Q x H' := by
  obtain ⟨b, en', h1, h2⟩ := h
  cases h1
  exact h2 H' ow' x e s q
theorem Go.stuck_ (h : Go K rep σ (stuck en) H ow Q) : False := by
  obtain ⟨_, _, h1, _⟩ := h
  cases h1
end

/-! ### steps of a primitive: nothing of slots changes -/
structure Step (H : Hp) (ow : Ow) (H' : Hp) (ow' : Ow) : Prop where
  ext : Ext H ow H' ow'
  own : ∀ b i k, ow b = .own (some i) k → ow' b = .own (some i) k ∧ H' b = H b
  dom : ∀ b, ow' b ≠ .out → H' b ≠ none
theorem Step.refl {H : Hp} {ow : Ow} (d : ∀ b, ow b ≠ .out → H b ≠ none) : Step H ow H ow := ⟨.refl _ _, fun _ _ _ h => ⟨h, rfl⟩, d⟩
theorem Step.trans {H H1 H2 : Hp} {ow ow1 ow2 : Ow} (a : Step H ow H1 ow1) (b : Step H1 ow1 H2 ow2) : Step H ow H2 ow2 :=
  ⟨a.ext.trans b.ext, fun x i k h => ⟨(b.own x i k (a.own x i k h).1).1, (b.own x i k (a.own x i k h).1).2.trans (a.own x i k h).2⟩, b.dom⟩
theorem Step.sta {K : PySem.W.Frag} {H H' : Hp} {ow ow' : Ow} {σ : L2.St} {en : Env} (a : Step H ow H' ow') (s : Sta K H ow σ en) : Sta K H' ow' σ en :=
  ⟨s.len, fun i b h => let ⟨v, h1, h2⟩ := s.rep i b h; ⟨v, h1, BRep.mono a.ext.fz (fun b k e => a.own b i k e) h2⟩, a.dom⟩
def setL (ow : Ow) (a : Addr) (l : Lab) : Ow := fun b => if b = a then l else ow b
theorem setL_same {ow : Ow} {a : Addr} {l : Lab} : setL ow a l a = l := if_pos rfl
theorem setL_ne {ow : Ow} {a b : Addr} {l : Lab} (h : b ≠ a) : setL ow a l b = ow b := if_neg h
/-- a new object, of no slot -/
theorem Step.new {H : Hp} {ow : Ow} {p : Addr} {o : HO} {l : Lab} (d : ∀ b, ow b ≠ .out → H b ≠ none) (hp : H p = none) (hl : ∀ i k, l ≠ .own (some i) k) : Step H ow (upd H p o) (setL ow p l) := by
  have hpo : ow p = .out := by
    by_cases e : ow p = .out
    · exact e
    · exact absurd hp (d p e)
  have ne : ∀ b, ow b ≠ .out → b ≠ p := fun b h e => h (by rw [e]; exact hpo)
  refine ⟨⟨fun b h => ?_, fun b h => ?_⟩, fun b i k h => ?_, fun b h => ?_⟩
  · have n := ne b (by rw [h]; intro z; cases z)
    rw [setL_ne n, upd_ne n]
    exact ⟨h, rfl⟩
  · have n := ne b (by rw [h]; intro z; cases z)
    rw [setL_ne n, upd_ne n]
    exact ⟨h, rfl⟩
  · have n := ne b (by rw [h]; intro z; cases z)
    rw [setL_ne n, upd_ne n]
    exact ⟨h, rfl⟩
  · by_cases e : b = p
    · rw [e, upd_same]
      intro z
      cases z
    · rw [setL_ne e] at h
      rw [upd_ne e]
      exact d b h
/-- what was reckoned goes over to data for ever -/
theorem Step.frz {H : Hp} {ow : Ow} {a : Addr} {k : Nat} (d : ∀ b, ow b ≠ .out → H b ≠ none) (h : ow a = .own none k) : Step H ow H (setL ow a .frz) := by
  have ne : ∀ b, (∀ k, ow b ≠ .own none k) → b ≠ a := fun b z e => z k (by rw [e]; exact h)
  refine ⟨⟨fun b e => ?_, fun b e => ?_⟩, fun b i k e => ?_, fun b e => ?_⟩
  · rw [setL_ne (ne b fun k z => by rw [e] at z; cases z)]
    exact ⟨e, rfl⟩
  · rw [setL_ne (ne b fun k z => by rw [e] at z; cases z)]
    exact ⟨e, rfl⟩
  · rw [setL_ne (ne b fun k z => by rw [e] at z; cases z)]
    exact ⟨e, rfl⟩
  · by_cases n : b = a
    · rw [n]
      exact d a (by rw [h]; intro z; cases z)
    · rw [setL_ne n] at e
      exact d b e
section
variable {K : PySem.W.Frag} {H : Hp} {ow : Ow} {σ : L2.St} {en : Env} {v : V}
/-- data for ever, by a step -/
theorem toD_ok {b : B} {en1 : Env} {d : D} (dm : ∀ b, ow b ≠ .out → H b ≠ none) (r : BRep K H ow none b v) (e : toD b en = some (d, en1)) : en1 = en ∧ ∃ ow', Step H ow H ow' ∧ Rp K (Fz H ow') v d := by
  cases b with
  | val d' =>
    cases e
    exact ⟨rfl, ow, .refl dm, r⟩
  | lst ds =>
    cases e
    obtain ⟨a, vs, rfl, h1, h2, h3⟩ := r
    have st := Step.frz dm h1
    refine ⟨rfl, _, st, .lst ?_ (RpAll.mono st.ext.fz h3)⟩
    exact (res_at setL_same).trans h2
  | scr ns => cases e
  | ins c fs => cases e
  | dk kvs => cases e
  | dt kvs => cases e
theorem Go.toD_ {b : B} {Q : V → Hp → Prop} (s : Sta K H ow σ en) (r : BRep K H ow none b v) (h : Go K (rD K) σ (toD b en) H ow Q) : Q v H := by
  obtain ⟨d, en1, h1, h2⟩ := h
  obtain ⟨rfl, ow', st, q⟩ := toD_ok s.dom r h1
  exact h2 H ow' v st.ext (st.sta s) q
end

/-! ### the judgements -/
section
variable (X : Cx)
def DE (e : Expr) (m : M B) : Prop := PE X e (tM X.K (rB X.K) m)
def DD (e : Expr) (m : M D) : Prop := PE X e (tM X.K (rD X.K) m)
def DT (e : Expr) (m : M Bool) : Prop := PT X e (tM X.K rT m)
def DA (es : List Expr) (m : M (List D)) : Prop := PA X es (tM X.K (rDs X.K) m)
end
theorem PE.of {X : Cx} {e : Expr} {t t' : TE} (h : PE X e t) (w : ∀ σ H Q, t' σ H Q → t σ H Q) : PE X e t' := ⟨fun pins s σ H Q I q => h.run pins s σ H Q I (w σ H Q q)⟩
theorem PT.of {X : Cx} {e : Expr} {t t' : TT} (h : PT X e t) (w : ∀ σ H Q, t' σ H Q → t σ H Q) : PT X e t' := ⟨fun pins s σ H Q I q => h.run pins s σ H Q I (w σ H Q q)⟩
theorem PA.of {X : Cx} {e : List Expr} {t t' : TA} (h : PA X e t) (w : ∀ σ H Q, t' σ H Q → t σ H Q) : PA X e t' := ⟨fun pos pins s σ H Q I q => h.run pos pins s σ H Q I (w σ H Q q)⟩
theorem PI.of {X : Cx} {tg e : Expr} {t t' : TI} (h : PI X tg e t) (w : ∀ σ H Q, t' σ H Q → t σ H Q) : PI X tg e t' := ⟨fun pins s σ H Q I q => h.run pins s σ H Q I (w σ H Q q)⟩
theorem PG.of {X : Cx} {tg : Expr} {t t' : TG} (h : PG X tg t) (w : ∀ v σ H Q, t' v σ H Q → t v σ H Q) : PG X tg t' := ⟨fun pins s σ H v u Q I r q => h.run pins s σ H v u Q I r (w v σ H Q q)⟩
theorem PS.of {X : Cx} {e : Stmt} {t t' : TS} (h : PS X e t) (w : ∀ D σ H, t' D σ H → t D σ H) : PS X e t' := ⟨fun pins s σ H D I q => h.run pins s σ H D I (w D σ H q)⟩
theorem PSs.of {X : Cx} {e : List Stmt} {t t' : TS} (h : PSs X e t) (w : ∀ D σ H, t' D σ H → t D σ H) : PSs X e t' := ⟨fun pins s σ H D I q => h.run pins s σ H D I (w D σ H q)⟩
section
variable {X : Cx} {e a b c : Expr} {es : List Expr} {m ma mb mc : M B} {pos : Pos}
theorem DE.d (h : DE X e m) : DD X e (mD m) := PE.of h fun σ H Q ⟨ow, en, s, g⟩ => by
  obtain ⟨a, en', h1, h2⟩ := g.bind (rep2 := rB X.K)
  refine ⟨ow, en, s, a, en', h1, fun H' ow' x e' s' q => ?_⟩
  obtain ⟨ow1, en1, c, x1, s1, q1, g1⟩ := h2 H' ow' x e' s' q
  exact g1.toD_ s1 q1
/-! ### a primitive, by values -/
end
/-- what a primitive asks: data, its value, and what comes behind any step to that value -/
def rPrim (K : PySem.W.Frag) (sem : List D → Option B) : List V → Hp → VK → Prop := fun vs H Q =>
  ∃ ow ds b, (∀ b, ow b ≠ .out → H b ≠ none) ∧ RpAll K (Fz H ow) vs ds ∧ sem ds = some b ∧ ∀ H' ow' v, Step H ow H' ow' → BRep K H' ow' none b v → Q v H'
def lift (o : Option B) : M B := fun en => match o with
  | some b => some (b, en)
  | none => none
theorem Go.lift_ {K : PySem.W.Frag} {σ : L2.St} {H : Hp} {ow : Ow} {en : Env} {Q : VK} {sem : List D → Option B} {vs : List V} {ds : List D} (s : Sta K H ow σ en) (r : RpAll K (Fz H ow) vs ds) (h : Go K (rB K) σ (lift (sem ds) en) H ow Q) : rPrim K sem vs H Q := by
  obtain ⟨b, en1, h1, h2⟩ := h
  unfold lift at h1
  cases e : sem ds with
  | none =>
    rw [e] at h1
    cases h1
  | some b' =>
    rw [e] at h1
    cases h1
    exact ⟨ow, ds, b, s.dom, r, e, fun H' ow' v st q => h2 H' ow' v st.ext (st.sta s) q⟩
/-- a plain value -/
theorem rPrim.val {K : PySem.W.Frag} {H : Hp} {Q : VK} {ow : Ow} {d : D} {v : V} (dm : ∀ b, ow b ≠ .out → H b ≠ none) (q : ∀ H' ow' v, Step H ow H' ow' → BRep K H' ow' none (.val d) v → Q v H') (r : Rp K (Fz H ow) v d) : Q v H := q H ow v (.refl dm) r
/-- a new list of its own -/
theorem rPrim.lst {K : PySem.W.Frag} {H : Hp} {Q : VK} {ow : Ow} {ds : List D} {xs : List V} (dm : ∀ b, ow b ≠ .out → H b ≠ none) (q : ∀ H' ow' v, Step H ow H' ow' → BRep K H' ow' none (.lst ds) v → Q v H') (r : RpAll K (Fz H ow) xs ds) : ∀ p, H p = none → Q (.ref p) (upd H p (.lst xs)) := fun p hp => by
  have st := Step.new (o := .lst xs) (l := .own none 0) dm hp (fun i k z => by cases z)
  exact q _ _ _ st ⟨p, xs, rfl, setL_same, upd_same, RpAll.mono st.ext.fz r⟩
/-- a new tuple -/
theorem rPrim.tup {K : PySem.W.Frag} {H : Hp} {Q : VK} {ow : Ow} {ds : List D} {xs : List V} (dm : ∀ b, ow b ≠ .out → H b ≠ none) (q : ∀ H' ow' v, Step H ow H' ow' → BRep K H' ow' none (.val (.tuple ds)) v → Q v H') (r : RpAll K (Fz H ow) xs ds) : ∀ p, H p = none → Q (.ref p) (upd H p (.tup xs)) := fun p hp => by
  have st := Step.new (o := .tup xs) (l := .frz) dm hp (fun i k z => by cases z)
  exact q _ _ _ st (.tup (.inl (.inl ((res_at setL_same).trans upd_same))) (RpAll.mono st.ext.fz r))
end DL

namespace L2
open PySem PySem.Spec PyProof.Rows
def repS (x : Str) (n : Nat) : Str := ⟨(List.replicate n x.cps).foldl (· ++ ·) #[]⟩
theorem repS_len (x : Str) (n : Nat) : (repS x n).length = x.length * n := by
  have : ∀ (n : Nat) (a : Array Nat), ((List.replicate n x.cps).foldl (· ++ ·) a).size = a.size + x.cps.size * n := by
    intro n
    induction n with
    | zero => intro a; simp
    | succ n ih =>
      intro a
      rw [List.replicate_succ, List.foldl_cons, ih, Array.size_append, Nat.mul_succ]
      omega
  have q := this n #[]
  simpa [repS, Str.length] using q
theorem op_repStr {X : Cx} : OpR X (binaryOp .Mult) (fun x y H Q => ∃ z k, x = .str z ∧ y = .int k ∧ -(2 ^ 62) ≤ k ∧ k ≤ 100000 ∧ z.length ≤ 100 ∧ Q (.str (repS z k.toNat)) H) := by
  intro pins s σ H x y v u Q I rx ry h
  obtain ⟨z, k, rfl, rfl, h1, h2, h3, q⟩ := h
  obtain ⟨t, rfl⟩ := rx
  obtain ⟨t2, rfl⟩ := ry
  have hlen : z.length * k.toNat ≤ 10000000 := by
    have h4 : k.toNat ≤ 100000 := by omega
    exact Nat.le_trans (Nat.mul_le_mul h3 h4) (by decide)
  refine P.mul_str ?_ (fun _ _ => ?_) (fun _ _ => ?_) ?_
  · rw [decide_eq_false (by omega), decide_eq_false (by omega)]
    rfl
  · intro hgt
    have hk1 : 1 ≤ k := by omega
    have h5 : (2 ^ 63 - 1 : Int) / 100000 ≤ (2 ^ 63 - 1) / k := by
      rw [Int.le_ediv_iff_mul_le (by omega)]
      have a1 : ((2 ^ 63 - 1 : Int) / 100000) * k ≤ ((2 ^ 63 - 1 : Int) / 100000) * 100000 := Int.mul_le_mul_of_nonneg_left h2 (by decide)
      have a2 : ((2 ^ 63 - 1 : Int) / 100000) * 100000 ≤ 2 ^ 63 - 1 := by decide
      omega
    have h6 : (100 : Int) ≤ (2 ^ 63 - 1) / 100000 := by decide
    omega
  · unfold Builtin.Str.tooLong
    rw [sizeLine_eq]
    exact decide_eq_false (by omega)
  · split
    · rename_i hk
      have e : k.toNat = 0 := by omega
      rw [e] at q
      exact ⟨by decide, .str Str.empty, H, I.tok _, ⟨_, rfl⟩, q⟩
    · split
      · rename_i hk hz
        have e : repS z k.toNat = z := by
          rcases Bool.or_eq_true _ _ |>.mp hz with hz | hz
          · have : k = 1 := by simpa using hz
            subst this
            unfold repS
            simp
          · have h0 : z.cps = #[] := by
              have : z.cps.size = 0 := by simpa [Str.length] using hz
              exact Array.eq_empty_of_size_eq_zero this
            have f0 : ∀ m : Nat, (List.replicate m (#[] : Array Nat)).foldl (· ++ ·) #[] = #[] := fun m => by
              induction m with
              | zero => rfl
              | succ m ih => rw [List.replicate_succ, List.foldl_cons]; simpa using ih
            unfold repS
            rw [h0, f0]
            cases z
            simp at h0
            rw [h0]
        rw [e] at q
        exact ⟨.str z, H, I, ⟨_, rfl⟩, q⟩
      · refine ⟨?_, .str _, H, I.tok _, ⟨_, rfl⟩, q⟩
        have := repS_len z k.toNat
        unfold repS at this
        rw [sizeLine_eq]
        omega
end L2

namespace L2
open PySem PySem.Spec PyProof.Rows
theorem tuple_mul1 (l : Addr) (items : Array Value) (n : Nat) (dd : Option Addr) (sl : Array (Option Value)) (u : Tok) :
    Meets (Builtin.«tuple.__mul__» ⟨[.ref l, .int 1 u], []⟩) (fun _ R s => s.heap.get? l = some { cls := .type "tuple", dict := dd, data := .seq items n, slots := sl } ∧ R (.ok (.ret (Value.ref l))) s) :=
  .of_wp fun prog w A R s h => by
    obtain ⟨hp, g, d, tk, os⟩ := s
    obtain ⟨hl, h⟩ := h
    have f1 := AutoSeq1.idx_int
    wp_walk using wpAny_loadPart' hl
    exact ⟨_, rfl, h⟩
/-- a tuple once: the same -/
theorem op_rep1 {X : Cx} : OpR X (binaryOp .Mult) (fun x y H Q => ∃ l xs, x = .ref l ∧ y = .int 1 ∧ SqT X.K H l xs ∧ Q (.ref l) H) := by
  intro pins s σ H x y v u Q I rx ry h
  obtain ⟨l, xs, rfl, rfl, hT, q⟩ := h
  cases rx
  obtain ⟨t, rfl⟩ := ry
  obtain ⟨its, r, ⟨⟨cls, dd, data, sl⟩, ho, hc, n, hd⟩, hs⟩ := I.tuple hT
  simp only at hc hd
  subst hc hd
  exact wpAny_binaryOp_repeat_ref (T := "tuple") (U := "int") (by decide) ⟨_, ho, rfl⟩ (fun s' => typeIs_int s' 1 t) noFill_tuple_mul F.fills_int_mul F.slot_int_rmul repeat_tuple F.slot_int_index.lookup
    (call_meets F.slot_int_rmul (typeIs_int s 1 t) F.entry_int_rmul (F.args_int_rmul_2 _ _) (int_rmul_tuple 1 t l its.toArray n dd sl)
      ⟨ho, rfl, ⟨_, ho, rfl⟩, call_meets F.slot_tuple_mul ⟨_, ho, rfl⟩ F.entry_tuple_mul (F.args_tuple_mul_2 _ _) (tuple_mul1 l its.toArray n dd sl t) ⟨ho, ⟨.ref l, H, I, rfl, q⟩⟩⟩)
end L2
namespace DL
open PySem PySem.Spec PyProof.Rows L2
/-! ### operators on data -/
def cap : Nat := 16777216
theorem cap_eq : sizeLine = cap := sizeLine_eq
def mulOk (i j : Int) : Bool := (decide (-(2 ^ 64) < i) && decide (i < 2 ^ 64)) || (decide (-(2 ^ 64) < j) && decide (j < 2 ^ 64))
def addS : List D → Option B
  | [.int i, .int j] => some (.val (.int (i + j)))
  | [.str x, .str y] => if x.length + y.length ≤ cap then some (.val (.str (x ++ y))) else none
  | [.list xs, .list ys] => if xs.length + ys.length ≤ cap then some (.lst (xs ++ ys)) else none
  | [.tuple xs, .tuple ys] => if xs.length + ys.length ≤ cap then some (.val (.tuple (xs ++ ys))) else none
  | _ => none
def subS : List D → Option B
  | [.int i, .int j] => some (.val (.int (i - j)))
  | _ => none
def mulS : List D → Option B
  | [.int i, .int j] => if mulOk i j = true then some (.val (.int (i * j))) else none
  | [.list xs, .int k] => if 0 ≤ k ∧ k ≤ 100000 ∧ xs.length ≤ 100 then some (.lst (List.replicate k.toNat xs).flatten) else none
  | [.tuple xs, .int k] => if 1 ≤ k ∧ k ≤ 1000 ∧ xs.length ≤ 1000 ∧ xs ≠ [] then some (.val (.tuple (List.replicate k.toNat xs).flatten)) else none
  | [.str x, .int k] => if -(2 ^ 62) ≤ k ∧ k ≤ 100000 ∧ x.length ≤ 100 then some (.val (.str (repS x k.toNat))) else none
  | _ => none
def fdivS : List D → Option B
  | [.int i, .int j] => if 0 < j ∧ j < 2 ^ 64 then some (.val (.int (i / j))) else none
  | _ => none
def modS : List D → Option B
  | [.int i, .int j] => if 0 < j then some (.val (.int (i % j))) else none
  | _ => none
def powS : List D → Option B
  | [.int i, .int j] => if 0 ≤ j ∧ j ≤ 1000 ∧ i.natAbs < 2 ^ 60 then some (.val (.int (i ^ j.toNat))) else none
  | _ => none
def opS : Operator → List D → Option B
  | .Add => addS
  | .Sub => subS
  | .Mult => mulS
  | .FloorDiv => fdivS
  | .Mod => modS
  | .Pow => powS
  | _ => fun _ => none
section
variable {X : Cx} {K : PySem.W.Frag} {H : Hp} {ow : Ow}
theorem rp2 {x y : V} {ds : List D} (h : RpAll K H [x, y] ds) : ∃ d e, ds = [d, e] ∧ Rp K H x d ∧ Rp K H y e := by
  cases h with
  | cons h r =>
    cases r with
    | cons h2 r =>
      cases r
      exact ⟨_, _, rfl, h, h2⟩
theorem rp1 {x : V} {ds : List D} (h : RpAll K H [x] ds) : ∃ d, ds = [d] ∧ Rp K H x d := by
  cases h with
  | cons h r =>
    cases r
    exact ⟨_, rfl, h⟩
theorem rp_list_in {v : V} {ds : List D} (h : Rp K (Fz H ow) v (.list ds)) : ∃ a xs, v = .ref a ∧ ow a = .frz ∧ H a = some (.lst xs) ∧ RpAll K (Fz H ow) xs ds := by
  obtain ⟨a, xs, e, h1, h2⟩ := rp_lst h
  obtain ⟨h3, h4⟩ := res_some h1
  exact ⟨a, xs, e, h3, h4, h2⟩
theorem rp_tuple_in {v : V} {ds : List D} (h : Rp K (Fz H ow) v (.tuple ds)) : ∃ a xs, v = .ref a ∧ SqT K H a xs ∧ RpAll K (Fz H ow) xs ds := by
  obtain ⟨a, xs, e, h1, h2⟩ := rp_tup h
  exact ⟨a, xs, e, Same.sqT res_sub h1, h2⟩
theorem rpAll_flatten {xs : List V} {ds : List D} (h : RpAll K H xs ds) : ∀ n : Nat, RpAll K H (List.replicate n xs).flatten (List.replicate n ds).flatten
  | 0 => .nil
  | n + 1 => by
    rw [List.replicate_succ, List.replicate_succ, List.flatten_cons, List.flatten_cons]
    exact h.append (rpAll_flatten h n)
theorem op_addP : OpR X (binaryOp .Add) (fun x y H Q => rPrim X.K addS [x, y] H Q) := by
  intro pins s σ H x y v u Q I rx ry h
  obtain ⟨ow, ds, b, dm, r, e, q⟩ := h
  obtain ⟨d1, d2, rfl, h1, h2⟩ := rp2 r
  unfold addS at e
  split at e
  · rename_i i j z
    cases z
    cases e
    rw [rp_int h1] at rx
    rw [rp_int h2] at ry
    exact op_add pins s σ H _ _ v u Q I rx ry ⟨i, j, rfl, rfl, rPrim.val dm q (.int _)⟩
  · rename_i i j z
    cases z
    split at e
    · cases e
      rw [rp_str h1] at rx
      rw [rp_str h2] at ry
      exact op_add_str pins s σ H _ _ v u Q I rx ry ⟨i, j, rfl, rfl, by rw [cap_eq]; assumption, rPrim.val dm q (.str _)⟩
    · cases e
  · rename_i xs ys z
    cases z
    split at e
    · rename_i hz
      cases e
      obtain ⟨a, vs, rfl, _, g1, g2⟩ := rp_list_in h1
      obtain ⟨a', vs', rfl, _, g1', g2'⟩ := rp_list_in h2
      exact op_cat pins s σ H _ _ v u Q I rx ry ⟨a, a', vs, vs', rfl, rfl, g1, g1', by rw [g2.length, g2'.length, cap_eq]; exact hz, rPrim.lst dm q (g2.append g2')⟩
    · cases e
  · rename_i xs ys z
    cases z
    split at e
    · rename_i hz
      cases e
      obtain ⟨a, vs, rfl, g1, g2⟩ := rp_tuple_in h1
      obtain ⟨a', vs', rfl, g1', g2'⟩ := rp_tuple_in h2
      refine op_catA pins s σ H _ _ v u Q I rx ry ⟨a, a', vs, vs', rfl, rfl, g1, g1', by rw [g2.length, g2'.length, cap_eq]; exact hz, fun z => ?_, fun _ z => ?_, fun _ _ => rPrim.tup dm q (g2.append g2')⟩
      · subst z
        have l := g2.length
        have e : xs = [] := List.eq_nil_of_length_eq_zero l.symm
        subst e
        exact rPrim.val dm q h2
      · subst z
        have l := g2'.length
        have e : ys = [] := List.eq_nil_of_length_eq_zero l.symm
        subst e
        rw [List.append_nil] at q
        exact rPrim.val dm q h1
    · cases e
  · cases e
theorem mulOk_ok {i j : Int} (h : mulOk i j = true) : CMul i j := by
  unfold mulOk at h
  simp only [Bool.or_eq_true, Bool.and_eq_true, decide_eq_true_eq] at h
  exact h
theorem op_mulP : OpR X (binaryOp .Mult) (fun x y H Q => rPrim X.K mulS [x, y] H Q) := by
  intro pins s σ H x y v u Q I rx ry h
  obtain ⟨ow, ds, b, dm, r, e, q⟩ := h
  obtain ⟨d1, d2, rfl, h1, h2⟩ := rp2 r
  unfold mulS at e
  split at e
  · rename_i i j z
    cases z
    split at e
    · rename_i hz
      cases e
      rw [rp_int h1] at rx
      rw [rp_int h2] at ry
      exact op_mul pins s σ H _ _ v u Q I rx ry ⟨i, j, rfl, rfl, mulOk_ok hz, rPrim.val dm q (.int _)⟩
    · cases e
  · rename_i xs k z
    cases z
    split at e
    · rename_i hz
      cases e
      obtain ⟨a, vs, rfl, _, g1, g2⟩ := rp_list_in h1
      rw [rp_int h2] at ry
      refine op_rep pins s σ H _ _ v u Q I rx ry ⟨a, k, vs, rfl, rfl, g1, by omega, by omega, ?_, rPrim.lst dm q (rpAll_flatten g2 _)⟩
      rw [g2.length, cap_eq]
      have h3 : k.toNat ≤ 100000 := by omega
      exact Nat.le_trans (Nat.mul_le_mul hz.2.2 h3) (by decide)
    · cases e
  · rename_i xs k z
    cases z
    split at e
    · rename_i hz
      cases e
      obtain ⟨a, vs, rfl, g1, g2⟩ := rp_tuple_in h1
      rw [rp_int h2] at ry
      by_cases k1 : k = 1
      · subst k1
        refine op_rep1 pins s σ H _ _ v u Q I rx ry ⟨a, vs, rfl, rfl, g1, rPrim.val dm q ?_⟩
        have e : (List.replicate (1 : Int).toNat xs).flatten = xs := by
          show (List.replicate 1 xs).flatten = xs
          simp
        rw [e]
        exact h1
      refine op_repT pins s σ H _ _ v u Q I rx ry ⟨a, k, vs, rfl, rfl, g1, fun z => ?_, by omega, hz.2.1, by rw [g2.length]; exact hz.2.2.1, rPrim.tup dm q (rpAll_flatten g2 _)⟩
      subst z
      exact hz.2.2.2 (List.eq_nil_of_length_eq_zero g2.length.symm)
    · cases e
  · rename_i x k z
    cases z
    split at e
    · rename_i hz
      cases e
      rw [rp_str h1] at rx
      rw [rp_int h2] at ry
      exact op_repStr pins s σ H _ _ v u Q I rx ry ⟨_, _, rfl, rfl, hz.1, hz.2.1, hz.2.2, rPrim.val dm q (.str _)⟩
    · cases e
  · cases e
theorem op_subP : OpR X (binaryOp .Sub) (fun x y H Q => rPrim X.K subS [x, y] H Q) := by
  intro pins s σ H x y v u Q I rx ry h
  obtain ⟨ow, ds, b, dm, r, e, q⟩ := h
  obtain ⟨d1, d2, rfl, h1, h2⟩ := rp2 r
  unfold subS at e
  split at e
  · rename_i i j z
    cases z
    cases e
    rw [rp_int h1] at rx
    rw [rp_int h2] at ry
    exact op_sub pins s σ H _ _ v u Q I rx ry ⟨i, j, rfl, rfl, rPrim.val dm q (.int _)⟩
  · cases e
theorem log2_64 {j : Int} (h0 : 0 < j) (h : j < 2 ^ 64) : CDivW 0 j := by
  refine ⟨h0, ?_⟩
  have h1 : j.natAbs < 2 ^ 64 := by omega
  have h2 := PySem.Flt.log2_lt_of (by decide : 0 < 64) h1
  omega
theorem op_fdivP : OpR X (binaryOp .FloorDiv) (fun x y H Q => rPrim X.K fdivS [x, y] H Q) := by
  intro pins s σ H x y v u Q I rx ry h
  obtain ⟨ow, ds, b, dm, r, e, q⟩ := h
  obtain ⟨d1, d2, rfl, h1, h2⟩ := rp2 r
  unfold fdivS at e
  split at e
  · rename_i i j z
    cases z
    split at e
    · rename_i hz
      cases e
      rw [rp_int h1] at rx
      rw [rp_int h2] at ry
      exact op_fdivW pins s σ H _ _ v u Q I rx ry ⟨i, j, rfl, rfl, log2_64 hz.1 hz.2, rPrim.val dm q (.int _)⟩
    · cases e
  · cases e
theorem op_modP : OpR X (binaryOp .Mod) (fun x y H Q => rPrim X.K modS [x, y] H Q) := by
  intro pins s σ H x y v u Q I rx ry h
  obtain ⟨ow, ds, b, dm, r, e, q⟩ := h
  obtain ⟨d1, d2, rfl, h1, h2⟩ := rp2 r
  unfold modS at e
  split at e
  · rename_i i j z
    cases z
    split at e
    · rename_i hz
      cases e
      rw [rp_int h1] at rx
      rw [rp_int h2] at ry
      exact op_mod pins s σ H _ _ v u Q I rx ry ⟨i, j, rfl, rfl, hz, rPrim.val dm q (.int _)⟩
    · cases e
  · cases e
theorem op_powP : OpR X (binaryOp .Pow) (fun x y H Q => rPrim X.K powS [x, y] H Q) := by
  intro pins s σ H x y v u Q I rx ry h
  obtain ⟨ow, ds, b, dm, r, e, q⟩ := h
  obtain ⟨d1, d2, rfl, h1, h2⟩ := rp2 r
  unfold powS at e
  split at e
  · rename_i i j z
    cases z
    split at e
    · rename_i hz
      cases e
      rw [rp_int h1] at rx
      rw [rp_int h2] at ry
      exact op_pow pins s σ H _ _ v u Q I rx ry ⟨i, j, rfl, rfl, ⟨hz.1, by omega, Nat.lt_trans hz.2.2 (by decide)⟩, rPrim.val dm q (.int _)⟩
    · cases e
  · cases e
theorem op_prim (op : Operator) : OpR X (binaryOp op) (fun x y H Q => rPrim X.K (opS op) [x, y] H Q) := by
  have nope : ∀ f, OpR X f (fun x y H Q => rPrim X.K (fun _ => none) [x, y] H Q) := fun f => by
    intro pins s σ H x y v u Q I rx ry h
    obtain ⟨ow, ds, b, dm, r, e, q⟩ := h
    cases e
  cases op <;> first | exact op_addP | exact op_subP | exact op_mulP | exact op_fdivP | exact op_modP | exact op_powP | exact nope _
end
end DL

namespace DL
open PySem PySem.Spec PyProof.Rows L2
/-! ### data that is looked at: a list may be a slot's own -/
def Pk (K : PySem.W.Frag) (H : Hp) (ow : Ow) (v : V) : D → Prop
  | .list ds => ∃ a vs, v = .ref a ∧ SqL K H a vs ∧ RpAll K (Fz H ow) vs ds
  | d => Rp K (Fz H ow) v d
inductive PkAll (K : PySem.W.Frag) (H : Hp) (ow : Ow) : List V → List D → Prop
  | nil : PkAll K H ow [] []
  | cons {v : V} {vs : List V} {d : D} {ds : List D} : Pk K H ow v d → PkAll K H ow vs ds → PkAll K H ow (v :: vs) (d :: ds)
section
variable {K : PySem.W.Frag} {H : Hp} {ow : Ow}
theorem Rp.pk {d : D} {v : V} (h : Rp K (Fz H ow) v d) : Pk K H ow v d := by
  cases d with
  | list ds =>
    obtain ⟨a, xs, e, _, h1, h2⟩ := rp_list_in h
    exact ⟨a, xs, e, SqL.of h1, h2⟩
  | _ => exact h
theorem RpAll.pk : ∀ {ds : List D} {vs : List V}, RpAll K (Fz H ow) vs ds → PkAll K H ow vs ds
  | _, _, .nil => .nil
  | _, _, .cons h r => .cons (Rp.pk h) (RpAll.pk r)
theorem Pk.dp {d : D} {v : V} (h : Pk K H ow v d) : Dp K H v d := by
  cases d with
  | list ds =>
    obtain ⟨a, xs, rfl, h1, h2⟩ := h
    exact .lst h1 (RpAll.dp (RpAll.mono res_sub h2))
  | none => exact Rp.dp (Rp.mono res_sub h)
  | bool b => exact Rp.dp (Rp.mono res_sub h)
  | int b => exact Rp.dp (Rp.mono res_sub h)
  | str b => exact Rp.dp (Rp.mono res_sub h)
  | tuple b => exact Rp.dp (Rp.mono res_sub h)
  | dict b => exact Rp.dp (Rp.mono res_sub h)
theorem pk_int {v : V} {i : Int} (h : Pk K H ow v (.int i)) : v = .int i := rp_int h
theorem pk_bl {v : V} {b : Bool} (h : Pk K H ow v (.bool b)) : v = .bl b := rp_bl h
theorem pk_str {v : V} {x : Str} (h : Pk K H ow v (.str x)) : v = .str x := rp_str h
theorem pk_non {v : V} (h : Pk K H ow v .none) : v = .non := rp_non h
theorem pk_lst {v : V} {ds : List D} (h : Pk K H ow v (.list ds)) : ∃ a vs, v = .ref a ∧ SqL K H a vs ∧ RpAll K (Fz H ow) vs ds := h
theorem pk_tup {v : V} {ds : List D} (h : Pk K H ow v (.tuple ds)) : ∃ a vs, v = .ref a ∧ SqT K H a vs ∧ RpAll K (Fz H ow) vs ds := rp_tuple_in h
theorem pk1 {x : V} {ds : List D} (h : PkAll K H ow [x] ds) : ∃ d, ds = [d] ∧ Pk K H ow x d := by
  cases h with
  | cons h r =>
    cases r
    exact ⟨_, rfl, h⟩
theorem pk2 {x y : V} {ds : List D} (h : PkAll K H ow [x, y] ds) : ∃ d e, ds = [d, e] ∧ Pk K H ow x d ∧ Pk K H ow y e := by
  cases h with
  | cons h r =>
    obtain ⟨e, rfl, h2⟩ := pk1 r
    exact ⟨_, _, rfl, h, h2⟩
theorem PkAll.len1 {xs : List V} {d : D} (h : PkAll K H ow xs [d]) : ∃ x, xs = [x] ∧ Pk K H ow x d := by
  cases h with
  | cons h r =>
    cases r
    exact ⟨_, rfl, h⟩
theorem PkAll.len2 {xs : List V} {d e : D} (h : PkAll K H ow xs [d, e]) : ∃ x y, xs = [x, y] ∧ Pk K H ow x d ∧ Pk K H ow y e := by
  cases h with
  | cons h r =>
    obtain ⟨y, rfl, h2⟩ := r.len1
    exact ⟨_, _, rfl, h, h2⟩
end
def rPk (K : PySem.W.Frag) (sem : List D → Option B) : List V → Hp → VK → Prop := fun vs H Q =>
  ∃ ow ds b, (∀ b, ow b ≠ .out → H b ≠ none) ∧ PkAll K H ow vs ds ∧ sem ds = some b ∧ ∀ H' ow' v, Step H ow H' ow' → BRep K H' ow' none b v → Q v H'
theorem Go.liftP {K : PySem.W.Frag} {σ : L2.St} {H : Hp} {ow : Ow} {en : Env} {Q : VK} {sem : List D → Option B} {vs : List V} {ds : List D} (s : Sta K H ow σ en) (r : PkAll K H ow vs ds) (h : Go K (rB K) σ (lift (sem ds) en) H ow Q) : rPk K sem vs H Q := by
  obtain ⟨b, en1, h1, h2⟩ := h
  unfold lift at h1
  cases e : sem ds with
  | none =>
    rw [e] at h1
    cases h1
  | some b' =>
    rw [e] at h1
    cases h1
    exact ⟨ow, ds, b, s.dom, r, e, fun H' ow' v st q => h2 H' ow' v st.ext (st.sta s) q⟩
/-! ### comparisons -/
def flatD : D → Bool
  | .none => true
  | .bool _ => true
  | .int _ => true
  | .str _ => true
  | _ => false
def cmpI (p : Int → Int → Bool) : List D → Option B
  | [.int i, .int j] => some (.val (.bool (p i j)))
  | _ => none
/-- not, where it is asked so -/
def ng (neg b : Bool) : Bool := match neg with
  | true => !b
  | false => b
def eqS (neg : Bool) : List D → Option B
  | [d, e] => if (SeqAt.shaped d && SeqAt.shaped e) = true then some (.val (.bool (ng neg (PyData.eqv d e)))) else none
  | _ => none
def isS (neg : Bool) : List D → Option B
  | [.none, .none] => some (.val (.bool (!neg)))
  | [.bool a, .bool b] => some (.val (.bool (ng neg (decide (a = b)))))
  | [_, .none] => some (.val (.bool neg))
  | _ => none
def inS (neg : Bool) : List D → Option B
  | [d, .list ds] => if (SeqAt.shaped d && SeqAt.shaped (.list ds)) = true then some (.val (.bool (ng neg (ds.any fun z => PyData.eqv z d)))) else none
  | [d, .tuple ds] => if (flatD d && ds.all flatD) = true then some (.val (.bool (ng neg (ds.any fun z => PyData.eqv z d)))) else none
  | _ => none
def cmpS : CmpOp → List D → Option B
  | .Lt => cmpI fun i j => decide (i < j)
  | .LtE => cmpI fun i j => decide (i ≤ j)
  | .Gt => cmpI fun i j => decide (j < i)
  | .GtE => cmpI fun i j => decide (j ≤ i)
  | .Eq => eqS false
  | .NotEq => eqS true
  | .Is => isS false
  | .IsNot => isS true
  | .In => inS false
  | .NotIn => inS true
section
variable {X : Cx}
theorem op_cmpI {op : CmpOp} {p : Int → Int → Bool} (h : OpR X (compareOp op) (rI0 fun i j => .bl (p i j))) : OpR X (compareOp op) (fun x y H Q => rPk X.K (cmpI p) [x, y] H Q) := by
  intro pins s σ H x y v u Q I rx ry g
  obtain ⟨ow, ds, b, dm, r, e, q⟩ := g
  obtain ⟨d1, d2, rfl, h1, h2⟩ := pk2 r
  unfold cmpI at e
  split at e
  · rename_i i j z
    cases z
    cases e
    rw [pk_int h1] at rx
    rw [pk_int h2] at ry
    exact h pins s σ H _ _ v u Q I rx ry ⟨i, j, rfl, rfl, rPrim.val dm q (.bl _)⟩
  · cases e
theorem op_eqP (hu : X.A.units + 64 < cLine) : OpR X (compareOp .Eq) (fun x y H Q => rPk X.K (eqS false) [x, y] H Q) := by
  intro pins s σ H x y v u Q I rx ry g
  obtain ⟨ow, ds, b, dm, r, e, q⟩ := g
  obtain ⟨d1, d2, rfl, h1, h2⟩ := pk2 r
  have e2 : (if (SeqAt.shaped d1 && SeqAt.shaped d2) = true then some (B.val (.bool (ng false (PyData.eqv d1 d2)))) else none) = some b := e
  clear e
  split at e2
  · rename_i hz
    cases e2
    obtain ⟨z1, z2⟩ := Bool.and_eq_true_iff.mp hz
    exact op_eqD hu pins s σ H _ _ v u Q I rx ry ⟨_, _, h1.dp, h2.dp, z1, z2, rPrim.val dm q (.bl _)⟩
  · cases e2
theorem op_neP (hu : X.A.units + 64 < cLine) : OpR X (compareOp .NotEq) (fun x y H Q => rPk X.K (eqS true) [x, y] H Q) := by
  intro pins s σ H x y v u Q I rx ry g
  obtain ⟨ow, ds, b, dm, r, e, q⟩ := g
  obtain ⟨d1, d2, rfl, h1, h2⟩ := pk2 r
  have e2 : (if (SeqAt.shaped d1 && SeqAt.shaped d2) = true then some (B.val (.bool (ng true (PyData.eqv d1 d2)))) else none) = some b := e
  clear e
  split at e2
  · rename_i hz
    cases e2
    obtain ⟨z1, z2⟩ := Bool.and_eq_true_iff.mp hz
    exact op_neD hu pins s σ H _ _ v u Q I rx ry ⟨_, _, h1.dp, h2.dp, z1, z2, rPrim.val dm q (.bl _)⟩
  · cases e2
theorem pk_nn {K : PySem.W.Frag} {H : Hp} {ow : Ow} {v : V} {d : D} (h : Pk K H ow v d) (n : d ≠ .none) : v ≠ .non := by
  intro e
  subst e
  cases d with
  | none => exact n rfl
  | list ds =>
    obtain ⟨a, vs, e, _⟩ := h
    cases e
  | tuple ds =>
    obtain ⟨a, vs, e, _⟩ := pk_tup h
    cases e
  | bool b => cases pk_bl h
  | int b => cases pk_int h
  | str b => cases pk_str h
  | dict b => cases h
theorem op_isP : OpR X (compareOp .Is) (fun x y H Q => rPk X.K (isS false) [x, y] H Q) := by
  intro pins s σ H x y v u Q I rx ry g
  obtain ⟨ow, ds, b, dm, r, e, q⟩ := g
  obtain ⟨d1, d2, rfl, h1, h2⟩ := pk2 r
  unfold isS at e
  split at e
  · rename_i z
    cases z
    cases e
    rw [pk_non h1] at rx
    rw [pk_non h2] at ry
    exact op_isN pins s σ H _ _ v u Q I rx ry ⟨rfl, rPrim.val dm q (.bl _)⟩
  · rename_i a b z
    cases z
    cases e
    rw [pk_bl h1] at rx
    rw [pk_bl h2] at ry
    exact op_is_bl pins s σ H _ _ v u Q I rx ry ⟨a, b, rfl, rfl, rPrim.val dm q (.bl _)⟩
  · rename_i d n z
    cases z
    cases e
    have nn : x ≠ .non := pk_nn h1 n
    rw [pk_non h2] at ry
    refine op_isN pins s σ H _ _ v u Q I rx ry ⟨rfl, ?_⟩
    rw [decide_eq_false nn]
    exact rPrim.val dm q (.bl _)
  · cases e
theorem op_isnotP : OpR X (compareOp .IsNot) (fun x y H Q => rPk X.K (isS true) [x, y] H Q) := by
  intro pins s σ H x y v u Q I rx ry g
  obtain ⟨ow, ds, b, dm, r, e, q⟩ := g
  obtain ⟨d1, d2, rfl, h1, h2⟩ := pk2 r
  unfold isS at e
  split at e
  · rename_i z
    cases z
    cases e
    rw [pk_non h1] at rx
    rw [pk_non h2] at ry
    exact op_notN pins s σ H _ _ v u Q I rx ry ⟨rfl, rPrim.val dm q (.bl _)⟩
  · rename_i a b z
    cases z
    cases e
    rw [pk_bl h1] at rx
    rw [pk_bl h2] at ry
    exact op_isnot_bl pins s σ H _ _ v u Q I rx ry ⟨a, b, rfl, rfl, rPrim.val dm q (.bl _)⟩
  · rename_i d n z
    cases z
    cases e
    have nn : x ≠ .non := pk_nn h1 n
    rw [pk_non h2] at ry
    refine op_notN pins s σ H _ _ v u Q I rx ry ⟨rfl, ?_⟩
    rw [decide_eq_false nn]
    exact rPrim.val dm q (.bl _)
  · cases e
theorem flat_rel {K : PySem.W.Frag} {H : Hp} {v : V} {d : D} (h : Rp K H v d) (f : flatD d = true) : flatV v = true := by
  cases d with
  | none => cases h; rfl
  | bool b => cases h; rfl
  | int b => cases h; rfl
  | str b => cases h; rfl
  | list ds => cases f
  | tuple ds => cases f
  | dict ds => cases f
theorem flat_all {K : PySem.W.Frag} {H : Hp} : ∀ {ds : List D} {vs : List V}, RpAll K H vs ds → ds.all flatD = true → vs.all flatV = true
  | _, _, .nil, _ => rfl
  | d :: ds, v :: vs, .cons h r, f => by
    rw [List.all_cons] at f ⊢
    obtain ⟨f1, f2⟩ := Bool.and_eq_true_iff.mp f
    rw [flat_rel h f1, flat_all r f2]
    rfl
theorem eqV_eqv {K : PySem.W.Frag} {H : Hp} {v w : V} {d e : D} (h : Rp K H v d) (h2 : Rp K H w e) (f : flatD d = true) (f2 : flatD e = true) : eqV v w = PyData.eqv d e := by
  cases d <;> first | cases f | skip
  all_goals (cases e <;> first | cases f2 | skip)
  all_goals (cases h; cases h2; simp only [eqV, PyData.eqv])
theorem inV_eqv {K : PySem.W.Frag} {H : Hp} {w : V} {e : D} (h2 : Rp K H w e) (f2 : flatD e = true) : ∀ {ds : List D} {vs : List V}, RpAll K H vs ds → ds.all flatD = true → inV w vs = ds.any fun z => PyData.eqv z e
  | _, _, .nil, _ => rfl
  | d :: ds, v :: vs, .cons h r, f => by
    rw [List.all_cons] at f
    obtain ⟨f1, f3⟩ := Bool.and_eq_true_iff.mp f
    have ih := inV_eqv h2 f2 r f3
    rw [List.any_cons, ← ih, ← eqV_eqv h h2 f1 f2]
    rfl
theorem op_inP (hu : X.A.units + 65 < cLine) : OpR X (compareOp .In) (fun x y H Q => rPk X.K (inS false) [x, y] H Q) := by
  intro pins s σ H x y v u Q I rx ry g
  obtain ⟨ow, ds, b, dm, r, e, q⟩ := g
  obtain ⟨d1, d2, rfl, h1, h2⟩ := pk2 r
  unfold inS at e
  split at e
  · rename_i d ds z
    cases z
    split at e
    · rename_i hz
      cases e
      obtain ⟨z1, z2⟩ := Bool.and_eq_true_iff.mp hz
      exact op_inD hu pins s σ H _ _ v u Q I rx ry ⟨_, _, h1.dp, h2.dp, z1, z2, rPrim.val dm q (.bl _)⟩
    · cases e
  · rename_i d ds z
    cases z
    split at e
    · rename_i hz
      cases e
      obtain ⟨z1, z2⟩ := Bool.and_eq_true_iff.mp hz
      obtain ⟨a, vs, rfl, g1, g2⟩ := pk_tup h2
      have h1' : Rp X.K (Fz H ow) x d1 := by cases d1 <;> first | exact h1 | cases z1
      refine op_in_seq pins s σ H _ _ v u Q I rx ry ⟨a, vs, rfl, .inr g1, flat_rel h1' z1, flat_all g2 z2, ?_⟩
      show Q (.bl (inV x vs)) H
      rw [inV_eqv h1' z1 g2 z2]
      exact rPrim.val dm q (.bl _)
    · cases e
  · cases e
theorem op_notinP (hu : X.A.units + 65 < cLine) : OpR X (compareOp .NotIn) (fun x y H Q => rPk X.K (inS true) [x, y] H Q) := by
  intro pins s σ H x y v u Q I rx ry g
  obtain ⟨ow, ds, b, dm, r, e, q⟩ := g
  obtain ⟨d1, d2, rfl, h1, h2⟩ := pk2 r
  unfold inS at e
  split at e
  · rename_i d ds z
    cases z
    split at e
    · rename_i hz
      cases e
      obtain ⟨z1, z2⟩ := Bool.and_eq_true_iff.mp hz
      exact op_notInD hu pins s σ H _ _ v u Q I rx ry ⟨_, _, h1.dp, h2.dp, z1, z2, rPrim.val dm q (.bl _)⟩
    · cases e
  · rename_i d ds z
    cases z
    split at e
    · rename_i hz
      cases e
      obtain ⟨z1, z2⟩ := Bool.and_eq_true_iff.mp hz
      obtain ⟨a, vs, rfl, g1, g2⟩ := pk_tup h2
      have h1' : Rp X.K (Fz H ow) x d1 := by cases d1 <;> first | exact h1 | cases z1
      refine op_notIn_seq pins s σ H _ _ v u Q I rx ry ⟨a, vs, rfl, .inr g1, flat_rel h1' z1, flat_all g2 z2, ?_⟩
      show Q (.bl (!inV x vs)) H
      rw [inV_eqv h1' z1 g2 z2]
      exact rPrim.val dm q (.bl _)
    · cases e
  · cases e
theorem cmp_prim (hu : X.A.units + 65 < cLine) (op : CmpOp) : OpR X (compareOp op) (fun x y H Q => rPk X.K (cmpS op) [x, y] H Q) := by
  have hu2 : X.A.units + 64 < cLine := by omega
  cases op with
  | Lt => exact op_cmpI op_lt
  | LtE => exact op_cmpI op_le
  | Gt => exact op_cmpI op_gt
  | GtE => exact op_cmpI op_ge
  | Eq => exact op_eqP hu2
  | NotEq => exact op_neP hu2
  | Is => exact op_isP
  | IsNot => exact op_isnotP
  | In => exact op_inP hu
  | NotIn => exact op_notinP hu
end
end DL

namespace DL
open PySem PySem.W PySem.Spec PyProof.Rows L2
/-! ### built-in functions on data -/
def ints? : List D → Option (List Int)
  | [] => some []
  | .int i :: ds => match ints? ds with
    | some ns => some (i :: ns)
    | none => none
  | _ :: _ => none
theorem ints?_ok : ∀ {ds : List D} {ns : List Int}, ints? ds = some ns → ds = ns.map PyData.int
  | [], _, h => by cases h; rfl
  | .int i :: ds, ns, h => by
    have h2 : (match ints? ds with | some ns => some (i :: ns) | none => none) = some ns := h
    cases e : ints? ds with
    | none => rw [e] at h2; cases h2
    | some ms =>
      rw [e] at h2
      cases h2
      rw [ints?_ok e]
      rfl
  | .none :: _, _, h => by cases h
  | .bool _ :: _, _, h => by cases h
  | .str _ :: _, _, h => by cases h
  | .list _ :: _, _, h => by cases h
  | .tuple _ :: _, _, h => by cases h
  | .dict _ :: _, _, h => by cases h
@[simp] theorem ints?_map : ∀ ns : List Int, ints? (ns.map PyData.int) = some ns
  | [] => rfl
  | n :: ns => by
    show (match ints? (ns.map PyData.int) with | some ns => some (n :: ns) | none => none) = some (n :: ns)
    rw [ints?_map ns]
/-- the items of a list, a tuple -/
def itemsS : D → Option (List D)
  | .list ds => some ds
  | .tuple ds => some ds
  | _ => none
def intsS (f : List Int → Option D) : List D → Option B
  | [d] => match itemsS d with
    | some ds => match ints? ds with
      | some ns => (f ns).map B.val
      | none => none
    | none => none
  | _ => none
def maxL : List Int → Option D
  | [] => none
  | n :: ns => some (.int (ns.foldl max n))
def minL : List Int → Option D
  | [] => none
  | n :: ns => some (.int (ns.foldl min n))
def maxDL (d : D) : List Int → Option D
  | [] => some d
  | n :: ns => some (.int (ns.foldl max n))
def minDL (d : D) : List Int → Option D
  | [] => some d
  | n :: ns => some (.int (ns.foldl min n))
def lenS : List D → Option B
  | [.list ds] => some (.val (.int ds.length))
  | [.tuple ds] => some (.val (.int ds.length))
  | [.str x] => if x.length ≤ cap then some (.val (.int x.length)) else none
  | _ => none
def absS : List D → Option B
  | [.int i] => some (.val (.int (if i < 0 then -i else i)))
  | _ => none
def maxS : List D → Option B
  | [.int i, .int j] => some (.val (.int (if j > i then j else i)))
  | ds => intsS maxL ds
def minS : List D → Option B
  | [.int i, .int j] => some (.val (.int (if j < i then j else i)))
  | ds => intsS minL ds
def intS : List D → Option B
  | [.int i] => some (.val (.int i))
  | [.bool b] => some (.val (.int (if b then 1 else 0)))
  | _ => none
def tupleS : List D → Option B
  | [.list ds] => some (.val (.tuple ds))
  | [.tuple ds] => some (.val (.tuple ds))
  | _ => none
def listS : List D → Option B
  | [.list ds] => some (.lst ds)
  | [.tuple ds] => some (.lst ds)
  | _ => none
def sumS : List D → Option B
  | [.list ds] => match ints? ds with
    | some ns => some (.val (.int ns.sum))
    | none => none
  | [.tuple ds] => match ints? ds with
    | some ns => some (.val (.int ns.sum))
    | none => none
  | _ => none
def truOk : D → Bool
  | .none => true
  | .bool _ => true
  | .int _ => true
  | _ => false
def anyS : List D → Option B
  | [.list ds] => if ds.all truOk = true then some (.val (.bool (ds.any PyData.truthy))) else none
  | _ => none
def allS : List D → Option B
  | [.list ds] => if ds.all truOk = true then some (.val (.bool (ds.all PyData.truthy))) else none
  | _ => none
section
variable {X : Cx}
theorem pk_items {K : PySem.W.Frag} {H : Hp} {ow : Ow} {v : V} {d : D} {ds : List D} (h : Pk K H ow v d) (e : itemsS d = some ds) : ∃ a vs, v = .ref a ∧ RpAll K (Fz H ow) vs ds ∧ ((d = .list ds ∧ SqL K H a vs) ∨ (d = .tuple ds ∧ SqT K H a vs)) := by
  cases d with
  | list es =>
    cases e
    obtain ⟨a, vs, rfl, h1, h2⟩ := pk_lst h
    exact ⟨a, vs, rfl, h2, .inl ⟨rfl, h1⟩⟩
  | tuple es =>
    cases e
    obtain ⟨a, vs, rfl, h1, h2⟩ := pk_tup h
    exact ⟨a, vs, rfl, h2, .inr ⟨rfl, h1⟩⟩
  | _ => cases e
theorem call_lenP : CallR X (.builtin "len") (rPk X.K lenS) := by
  intro pins s σ H vs us Q I rv h
  obtain ⟨ow, ds, b, dm, r, e, q⟩ := h
  unfold lenS at e
  split at e
  · cases e
    obtain ⟨x, rfl, hx⟩ := r.len1
    obtain ⟨a, xs, rfl, h1, h2⟩ := pk_lst hx
    refine call_len_seq pins s σ H _ us Q I rv ⟨a, xs, rfl, .inl h1, ?_⟩
    rw [h2.length]
    exact rPrim.val dm q (.int _)
  · cases e
    obtain ⟨x, rfl, hx⟩ := r.len1
    obtain ⟨a, xs, rfl, h1, h2⟩ := pk_tup hx
    refine call_len_seq pins s σ H _ us Q I rv ⟨a, xs, rfl, .inr h1, ?_⟩
    rw [h2.length]
    exact rPrim.val dm q (.int _)
  · split at e
    · rename_i hz
      cases e
      obtain ⟨x, rfl, hx⟩ := r.len1
      rw [pk_str hx] at rv
      exact call_len_str pins s σ H _ us Q I rv ⟨_, rfl, by rw [cap_eq]; exact hz, rPrim.val dm q (.int _)⟩
    · cases e
  · cases e
theorem call_absP : CallR X (.builtin "abs") (rPk X.K absS) := by
  intro pins s σ H vs us Q I rv h
  obtain ⟨ow, ds, b, dm, r, e, q⟩ := h
  unfold absS at e
  split at e
  · cases e
    obtain ⟨x, rfl, hx⟩ := r.len1
    rw [pk_int hx] at rv
    exact call_abs pins s σ H _ us Q I rv ⟨_, rfl, rPrim.val dm q (.int _)⟩
  · cases e
/-- of the ints of a list, a tuple, by the library's rule over data -/
theorem ints_reads {pins : List (Addr × Obj)} {σ : L2.St} {H : Hp} {s : Shared} (I : L2.Inv X pins σ H s) {ow : Ow} {ns : List Int} {vs : List V} (r : RpAll X.K (Fz H ow) vs (ns.map PyData.int)) {its : List Value} (rv : Vals vs its) : ∃ as, ReadsAll s.heap its (ns.map PyData.int) as :=
  Dp.readsAll I _ vs its (RpAll.dp (RpAll.mono res_sub r)) rv
theorem alike_ints (ns : List Int) : AlikeAll (ns.map PyData.int) := by
  refine ⟨fun x hx y hy => ?_, fun x hx => ?_⟩
  · obtain ⟨i, _, rfl⟩ := List.mem_map.mp hx
    obtain ⟨j, _, rfl⟩ := List.mem_map.mp hy
    rfl
  · obtain ⟨i, _, rfl⟩ := List.mem_map.mp hx
    intro z
    cases z
theorem depth_ints : ∀ ns : List Int, PyData.depthAll (ns.map PyData.int) ≤ 1
  | [] => by simp [PyData.depthAll]
  | n :: ns => by
    have := depth_ints ns
    simp only [List.map_cons, PyData.depthAll, PyData.depth]
    omega
theorem reads_int {h : Heap} {v : Value} {i : Int} {as : List Addr} (r : Reads h v (.int i) as) : RelV (.int i) v := by
  cases r
  exact ⟨_, rfl⟩
theorem call_maxP (hc : X.calm = true) (hu : X.A.units + 64 < cLine) : CallR X (.builtin "max") (rPk X.K maxS) := by
  intro pins s σ H vs us Q I rv h
  obtain ⟨ow, ds, b, dm, r, e, q⟩ := h
  unfold maxS at e
  split at e
  · cases e
    obtain ⟨x, y, rfl, hx, hy⟩ := r.len2
    rw [pk_int hx, pk_int hy] at rv
    exact call_max2 hc pins s σ H _ us Q I rv ⟨_, _, rfl, rPrim.val dm q (.int _)⟩
  · unfold intsS at e
    split at e
    · split at e
      · rename_i d ds' ed
        split at e
        · rename_i ns en
          have eds := ints?_ok en
          subst eds
          obtain ⟨x, rfl, hx⟩ := r.len1
          obtain ⟨a, xs, rfl, hr, hd⟩ := pk_items hx ed
          cases ns with
          | nil => cases e
          | cons n ns =>
            cases e
            rw [Vals.ref1 rv]
            have fin : ∀ (h' : Heap) (tk : Nat) (v : Value), (∀ b o, s.heap.get? b = some o → h'.get? b = some o) → RelV (.int (ns.foldl max n)) v → EP X pins σ Q v { s with heap := h', toks := tk } := fun h' tk v hk hv => ⟨.int _, H, I.kept hk, hv, rPrim.val dm q (.int _)⟩
            have hdp := depth_ints (n :: ns)
            rcases hd with ⟨_, hs⟩ | ⟨_, hs⟩
            · obtain ⟨its, rv2, hl, _⟩ := I.list hs
              obtain ⟨as, hra⟩ := ints_reads I hr rv2
              refine max_list_data (I.ok.hd hc) hl.isList hra (alike_ints (n :: ns)) (by rw [List.map_cons] at hdp; omega) fun i v h' tk bs _ r2 hk => ?_
              rw [maxD_ints] at r2
              exact fin h' tk v hk (reads_int r2)
            · obtain ⟨its, rv2, hl, _⟩ := I.tuple hs
              obtain ⟨as, hra⟩ := ints_reads I hr rv2
              refine max_tuple_data (I.ok.hd hc) (show s.heap.IsTuple a its.toArray from hl) hra (alike_ints (n :: ns)) (by rw [List.map_cons] at hdp; omega) fun i v h' tk bs _ r2 hk => ?_
              rw [maxD_ints] at r2
              exact fin h' tk v hk (reads_int r2)
        · cases e
      · cases e
    · cases e
theorem call_minP (hc : X.calm = true) (hu : X.A.units + 64 < cLine) : CallR X (.builtin "min") (rPk X.K minS) := by
  intro pins s σ H vs us Q I rv h
  obtain ⟨ow, ds, b, dm, r, e, q⟩ := h
  unfold minS at e
  split at e
  · cases e
    obtain ⟨x, y, rfl, hx, hy⟩ := r.len2
    rw [pk_int hx, pk_int hy] at rv
    exact call_min2 hc pins s σ H _ us Q I rv ⟨_, _, rfl, rPrim.val dm q (.int _)⟩
  · unfold intsS at e
    split at e
    · split at e
      · rename_i d ds' ed
        split at e
        · rename_i ns en
          have eds := ints?_ok en
          subst eds
          obtain ⟨x, rfl, hx⟩ := r.len1
          obtain ⟨a, xs, rfl, hr, hd⟩ := pk_items hx ed
          cases ns with
          | nil => cases e
          | cons n ns =>
            cases e
            rw [Vals.ref1 rv]
            have fin : ∀ (h' : Heap) (tk : Nat) (v : Value), (∀ b o, s.heap.get? b = some o → h'.get? b = some o) → RelV (.int (ns.foldl min n)) v → EP X pins σ Q v { s with heap := h', toks := tk } := fun h' tk v hk hv => ⟨.int _, H, I.kept hk, hv, rPrim.val dm q (.int _)⟩
            have hdp := depth_ints (n :: ns)
            rcases hd with ⟨_, hs⟩ | ⟨_, hs⟩
            · obtain ⟨its, rv2, hl, _⟩ := I.list hs
              obtain ⟨as, hra⟩ := ints_reads I hr rv2
              refine min_list_data (I.ok.hd hc) hl.isList hra (alike_ints (n :: ns)) (by rw [List.map_cons] at hdp; omega) fun i v h' tk bs _ r2 hk => ?_
              rw [minD_ints] at r2
              exact fin h' tk v hk (reads_int r2)
            · obtain ⟨its, rv2, hl, _⟩ := I.tuple hs
              obtain ⟨as, hra⟩ := ints_reads I hr rv2
              refine min_tuple_data (I.ok.hd hc) (show s.heap.IsTuple a its.toArray from hl) hra (alike_ints (n :: ns)) (by rw [List.map_cons] at hdp; omega) fun i v h' tk bs _ r2 hk => ?_
              rw [minD_ints] at r2
              exact fin h' tk v hk (reads_int r2)
        · cases e
      · cases e
    · cases e
theorem call_intP : CallR X (.type "int") (rPk X.K intS) := by
  intro pins s σ H vs us Q I rv h
  obtain ⟨ow, ds, b, dm, r, e, q⟩ := h
  unfold intS at e
  split at e
  · cases e
    obtain ⟨x, rfl, hx⟩ := r.len1
    rw [pk_int hx] at rv
    exact call_int1 pins s σ H _ us Q I rv (.inl ⟨_, rfl, rPrim.val dm q (.int _)⟩)
  · cases e
    obtain ⟨x, rfl, hx⟩ := r.len1
    rw [pk_bl hx] at rv
    exact call_int1 pins s σ H _ us Q I rv (.inr ⟨_, rfl, rPrim.val dm q (.int _)⟩)
  · cases e
theorem call_tupleP : CallR X (.type "tuple") (rPk X.K tupleS) := by
  intro pins s σ H vs us Q I rv h
  obtain ⟨ow, ds, b, dm, r, e, q⟩ := h
  unfold tupleS at e
  split at e
  · cases e
    obtain ⟨x, rfl, hx⟩ := r.len1
    obtain ⟨a, xs, rfl, h1, h2⟩ := pk_lst hx
    exact call_tuple_of pins s σ H _ us Q I rv ⟨a, xs, rfl, .inl ⟨h1, rPrim.tup dm q h2⟩⟩
  · cases e
    obtain ⟨x, rfl, hx⟩ := r.len1
    obtain ⟨a, xs, rfl, h1, h2⟩ := pk_tup hx
    exact call_tuple_of pins s σ H _ us Q I rv ⟨a, xs, rfl, .inr ⟨h1, rPrim.val dm q hx⟩⟩
  · cases e
theorem call_listP : CallR X (.type "list") (rPk X.K listS) := by
  intro pins s σ H vs us Q I rv h
  obtain ⟨ow, ds, b, dm, r, e, q⟩ := h
  unfold listS at e
  split at e
  · cases e
    obtain ⟨x, rfl, hx⟩ := r.len1
    obtain ⟨a, xs, rfl, h1, h2⟩ := pk_lst hx
    exact call_list_of pins s σ H _ us Q I rv ⟨a, xs, rfl, .inl h1, rPrim.lst dm q h2⟩
  · cases e
    obtain ⟨x, rfl, hx⟩ := r.len1
    obtain ⟨a, xs, rfl, h1, h2⟩ := pk_tup hx
    exact call_list_of pins s σ H _ us Q I rv ⟨a, xs, rfl, .inr h1, rPrim.lst dm q h2⟩
  · cases e
theorem call_sumP (hc : X.calm = true) : CallR X (.builtin "sum") (rPk X.K sumS) := by
  intro pins s σ H vs us Q I rv h
  obtain ⟨ow, ds, b, dm, r, e, q⟩ := h
  unfold sumS at e
  split at e
  · split at e
    · rename_i ns en
      have eds := ints?_ok en
      subst eds
      cases e
      obtain ⟨x, rfl, hx⟩ := r.len1
      obtain ⟨a, xs, rfl, h1, h2⟩ := pk_lst hx
      rw [rpAll_ints h2] at h1
      exact cr_sum hc pins s σ H _ us Q I rv ⟨a, ns, rfl, h1, rPrim.val dm q (.int _)⟩
    · cases e
  · split at e
    · rename_i ns en
      have eds := ints?_ok en
      subst eds
      cases e
      obtain ⟨x, rfl, hx⟩ := r.len1
      obtain ⟨a, xs, rfl, h1, h2⟩ := pk_tup hx
      rw [rpAll_ints h2] at h1
      obtain ⟨its, rv2, hl, _⟩ := I.tuple h1
      rw [Vals.ref1 rv]
      have hi := rv2.ints
      obtain ⟨xs, ex⟩ := hi.allInts.items
      have hn : numsOf (intItems xs).toList = ns := by rw [← ex]; exact hi.numsOf
      rw [nums_intItems] at hn
      have hl2 : s.heap.IsTuple a (intItems xs) := by rw [← ex]; exact hl
      refine PySem.W.ktm_sumG (I.ok.hd hc) hl2 fun h' tk t' hk => ⟨.int _, H, I.kept hk, ⟨_, rfl⟩, ?_⟩
      rw [preSum_eq, List.take_of_length_le (by simp), hn]
      exact rPrim.val dm q (.int _)
    · cases e
  · cases e
theorem truOk_all {ds : List D} (h : ds.all truOk = true) : PyData.plainAll ds = true ∧ ∀ x ∈ ds, x.fits63 := by
  induction ds with
  | nil => exact ⟨rfl, fun x hx => by cases hx⟩
  | cons d ds ih =>
    rw [List.all_cons, Bool.and_eq_true] at h
    obtain ⟨i1, i2⟩ := ih h.2
    have hd := h.1
    refine ⟨?_, fun x hx => ?_⟩
    · unfold PyData.plainAll
      rw [i1]
      cases d <;> first | rfl | cases hd
    · rcases List.mem_cons.mp hx with rfl | hx
      · cases x <;> first | exact trivial | cases hd
      · exact i2 x hx
theorem call_anyP (hc : X.calm = true) : CallR X (.builtin "any") (rPk X.K anyS) := by
  intro pins s σ H vs us Q I rv h
  obtain ⟨ow, ds, b, dm, r, e, q⟩ := h
  unfold anyS at e
  split at e
  · split at e
    · rename_i hz
      cases e
      obtain ⟨x, rfl, hx⟩ := r.len1
      obtain ⟨a, xs, rfl, h1, h2⟩ := pk_lst hx
      rw [Vals.ref1 rv]
      obtain ⟨its, rv2, hl, _⟩ := I.list h1
      obtain ⟨as, hra⟩ := Dp.readsAll I _ xs its (RpAll.dp (RpAll.mono res_sub h2)) rv2
      obtain ⟨p1, p2⟩ := truOk_all hz
      exact any_list_data (I.ok.hd hc) hl.isList hra p1 p2 fun h' tk hk => ⟨.bl _, H, I.kept hk, rfl, rPrim.val dm q (.bl _)⟩
    · cases e
  · cases e
theorem call_allP (hc : X.calm = true) : CallR X (.builtin "all") (rPk X.K allS) := by
  intro pins s σ H vs us Q I rv h
  obtain ⟨ow, ds, b, dm, r, e, q⟩ := h
  unfold allS at e
  split at e
  · split at e
    · rename_i hz
      cases e
      obtain ⟨x, rfl, hx⟩ := r.len1
      obtain ⟨a, xs, rfl, h1, h2⟩ := pk_lst hx
      rw [Vals.ref1 rv]
      obtain ⟨its, rv2, hl, _⟩ := I.list h1
      obtain ⟨as, hra⟩ := Dp.readsAll I _ xs its (RpAll.dp (RpAll.mono res_sub h2)) rv2
      obtain ⟨p1, p2⟩ := truOk_all hz
      exact all_list_data (I.ok.hd hc) hl.isList hra p1 p2 fun h' tk hk => ⟨.bl _, H, I.kept hk, rfl, rPrim.val dm q (.bl _)⟩
    · cases e
  · cases e
/-! ### items -/
def ixS : List D → Option B
  | [.list ds, .int i] => (atI ds i).map B.val
  | [.tuple ds, .int i] => (atI ds i).map B.val
  | [.str x, .int i] => if x.length ≤ cap then (atI x.cps.toList i).map fun c => B.val (.str ⟨#[c]⟩) else none
  | _ => none
theorem atI_rp {K : PySem.W.Frag} {H : Hp} {ds : List D} {vs : List V} {i : Int} {d : D} (r : RpAll K H vs ds) (h : atI ds i = some d) : ∃ v, atI vs i = some v ∧ Rp K H v d := by
  unfold atI at h ⊢
  rw [r.length]
  cases e : ixN ds.length i with
  | none => rw [e] at h; cases h
  | some j =>
    rw [e] at h
    obtain ⟨v, h1, h2⟩ := r.get h
    exact ⟨v, h1, h2⟩
theorem ix_prim : IxR X (fun x y H Q => rPk X.K ixS [x, y] H Q) := by
  intro value slice pins s σ H x y v u Q I rx ry h hs
  obtain ⟨ow, ds, b, dm, r, e, q⟩ := h
  unfold ixS at e
  split at e
  · rename_i ds' i
    cases e2 : atI ds' i with
    | none => rw [e2] at e; cases e
    | some d =>
      rw [e2] at e
      cases e
      obtain ⟨d1, d2, z, h1, h2⟩ := pk2 r
      cases z
      obtain ⟨a, xs, rfl, g1, g2⟩ := pk_lst h1
      rw [pk_int h2] at ry
      obtain ⟨w', w1, w2⟩ := atI_rp g2 e2
      exact ix_list value slice pins s σ H _ _ v u Q I rx ry ⟨a, xs, i, w', rfl, rfl, g1, w1, rPrim.val dm q w2⟩ hs
  · rename_i ds' i
    cases e2 : atI ds' i with
    | none => rw [e2] at e; cases e
    | some d =>
      rw [e2] at e
      cases e
      obtain ⟨d1, d2, z, h1, h2⟩ := pk2 r
      cases z
      obtain ⟨a, xs, rfl, g1, g2⟩ := pk_tup h1
      rw [pk_int h2] at ry
      obtain ⟨w', w1, w2⟩ := atI_rp g2 e2
      exact ix_tup value slice pins s σ H _ _ v u Q I rx ry ⟨a, xs, i, w', rfl, rfl, g1, w1, rPrim.val dm q w2⟩ hs
  · rename_i z i
    split at e
    · rename_i hz
      cases e2 : atI z.cps.toList i with
      | none => rw [e2] at e; cases e
      | some c =>
        rw [e2] at e
        cases e
        obtain ⟨d1, d2, zz, h1, h2⟩ := pk2 r
        cases zz
        rw [pk_str h1] at rx
        rw [pk_int h2] at ry
        exact ix_str value slice pins s σ H _ _ v u Q I rx ry ⟨z, i, c, rfl, rfl, by rw [cap_eq]; exact hz, e2, rPrim.val dm q (.str _)⟩ hs
    · cases e
  · cases e
/-! ### slices -/
def cutL {α : Type} (xs : List α) (lo hi : Option Int) : List α := (xs.drop (HT.sIx xs.length 0 lo)).take (HT.sIx xs.length xs.length hi - HT.sIx xs.length 0 lo)
def partD : D → Option (Option Int)
  | .none => some none
  | .int i => some (some i)
  | _ => none
def slS (lo hi : Option Int) : D → Option B
  | .list ds => some (.lst (cutL ds lo hi))
  | .tuple ds => some (.val (.tuple (cutL ds lo hi)))
  | .str x => if x.length ≤ cap then some (.val (.str (cutS x lo hi))) else none
  | _ => none
theorem cut_rp {K : PySem.W.Frag} {H : Hp} {ds : List D} {vs : List V} {lo hi : Option Int} (r : RpAll K H vs ds) : RpAll K H (cutV vs lo hi) (cutL ds lo hi) := by
  unfold cutV cutL
  rw [r.length]
  exact (r.drop _).take _
theorem cut_whole {α : Type} {xs : List α} {lo hi : Option Int} (h : HT.sIx xs.length 0 lo = 0 ∧ HT.sIx xs.length xs.length hi = xs.length) : cutL xs lo hi = xs := by
  unfold cutL
  rw [h.1, h.2]
  simp
def rSlP (K : PySem.W.Frag) : V → Option Int → Option Int → Hp → VK → Prop := fun x lo hi H Q =>
  ∃ ow d b, (∀ b, ow b ≠ .out → H b ≠ none) ∧ Pk K H ow x d ∧ slS lo hi d = some b ∧ ∀ H' ow' v, Step H ow H' ow' → BRep K H' ow' none b v → Q v H'
theorem sl_prim : SlR X (rSlP X.K) := by
  intro pins s σ H x v vl vu lo hi sl Q I rx hs pl pu h
  obtain ⟨ow, d, b, dm, r, e, q⟩ := h
  unfold slS at e
  split at e
  · cases e
    obtain ⟨a, xs, rfl, g1, g2⟩ := pk_lst r
    exact sl_list pins s σ H _ v vl vu lo hi sl Q I rx hs pl pu ⟨a, xs, rfl, g1, rPrim.lst dm q (cut_rp g2)⟩
  · rename_i ds
    cases e
    obtain ⟨a, xs, rfl, g1, g2⟩ := pk_tup r
    refine sl_tupA pins s σ H _ v vl vu lo hi sl Q I rx hs pl pu ⟨a, xs, rfl, g1, fun hw => ?_, fun _ => rPrim.tup dm q (cut_rp g2)⟩
    rw [g2.length] at hw
    rw [cut_whole hw] at q
    exact rPrim.val dm q r
  · rename_i z
    split at e
    · rename_i hz
      cases e
      rw [pk_str r] at rx
      exact sl_str pins s σ H _ v vl vu lo hi sl Q I rx hs pl pu ⟨z, rfl, by rw [cap_eq]; exact hz, rPrim.val dm q (.str _)⟩
    · cases e
  · cases e
end
end DL

namespace DL
open PySem PySem.Spec PyProof.Rows L2
/-! ### the frame of a def's text -/
structure Stat where
  N : List Str
  sc : Scope
  blk : Option Scope := none
  pr : Nat → Bool := fun _ => false
  own : Nat → Bool := fun _ => true
  cls : Nat → Option Str := fun _ => none
  tk : Nat → Bool := fun _ => false
def fnOf (Z : Stat) : Str → Bool := match Z.blk with
  | none => fun _ => true
  | some s => fun x => s.names.lookup x == some .cell
abbrev Calls := Str → List B → Option (B × List (Option B))
/-- a class: its name, its instances' fields, its methods: by what they are called here, the flags of what they write -/
structure ClsG where
  x : Str
  flds : List Str
  ms : List (Str × Str × List Bool)
structure Glob where
  fns : List (Str × List Bool)
  consts : List (Str × D)
  free : List Str
  cls : List ClsG := []
def Glob.clsOf (G : Glob) (x : Str) : Option ClsG := G.cls.find? fun c => c.x == x
/-- what C(..) makes of its __init__ -/
def makeOf (c : Str) (sem : List B → Option (B × List (Option B))) : List B → Option (B × List (Option B)) := fun bs => match sem (.ins c [] :: bs) with
  | some (.val .none, some (.ins c' fs) :: _) => if c' = c then some (.ins c fs, []) else none
  | _ => none
/-- the promise of a def: what it computes -/
def spF (K : PySem.W.Frag) (sem : List B → Option (B × List (Option B))) (n : Nat) : Sp := fun vs H Q _ =>
  vs.length = n ∧ ∃ ow bs r bs', Sta K H ow (vs.map some) (bs.map some) ∧ sem bs = some (r, bs') ∧
    ∀ H' ow' v, Ext H ow H' ow' → Sta K H' ow' (vs.map some) bs' → BRep K H' ow' none r v → Q v H'
structure Good (G : Glob) (cs : Calls) (k : Nat) (Z : Stat) (X : Cx) : Prop where
  hN : X.N = Z.N
  sc : X.env.scope = Z.sc
  fn : X.fn = fnOf Z
  calm : X.calm = true
  xe : X.xe = fun _ _ => False
  nd : X.N.Nodup
  room : Room k X.A
  free : ∀ x, x ∈ G.free → X.mg x = none
  con : ∀ x d, G.consts.lookup x = some d → ∃ u v, X.mg x = some u ∧ RelV v u ∧ ∀ F, Rp X.K F v d
  fns : ∀ x io, G.fns.lookup x = some io → ∃ f fd ps, FnOk X.prog X.w X.K X.mg X.base CX0 k f fd ps (spF X.K (cs x) io.length) ∧ X.mg x = some (.ref f) ∧ PySem.W.keepIn X.K (.ref f) = true ∧ Binds X.K fd ps []
  cls : ∀ x c, G.clsOf x = some c → Cls X.K (He.ga X.K x) ∧ (∀ f ∈ c.flds, NoAttr X.K (He.ga X.K x) f) ∧ ∀ m key io, c.ms.lookup m = some (key, io) → ∃ f fd ps, FnOk X.prog X.w X.K X.mg X.base CX0 k f fd ps (spF X.K (cs key) io.length) ∧ Meth X.K (He.ga X.K x) m f ∧ Binds X.K fd ps []
  mks : ∀ x c, G.clsOf x = some c → (∀ bs, cs x bs = none) ∨ ∃ j f fd ps sem key io, k = j + 1 ∧ c.ms.lookup ("__init__" : Str) = some (key, io) ∧ FnOk X.prog X.w X.K X.mg X.base CX0 j f fd ps (spF X.K sem io.length) ∧ Mk X.K (He.ga X.K x) f ∧ X.mg x = some (.ref (He.ga X.K x)) ∧ Binds X.K fd ps [] ∧ ∀ bs, cs x bs = makeOf x sem bs

/-! ### names -/
def dunder (x : Str) : Bool := x == ("__debug__" : Str) || x == ("__classdict__" : Str)
/-- the slot of a name of the def's own -/
def slotOf (Z : Stat) (x : Str) : Option Nat := match dunder x with
  | true => none
  | false => match Z.sc.names.lookup x with
    | some .local => Z.N.idxOf? x
    | some .cell => Z.N.idxOf? x
    | some .free => Z.N.idxOf? x
    | _ => none
def isGlob (Z : Stat) (x : Str) : Bool := !dunder x && (match Z.sc.names.lookup x with
  | some .globalImplicit => true
  | _ => false)
def varE (i : Nat) : M B := fun en => match en[i]? with
  | some (some (.val d)) => some (.val d, en)
  | some (some (.lst ds)) => some (.val (.list ds), en.set i (some (.val (.list ds))))
  | some (some (.scr ns)) => some (.scr ns, en)
  | _ => none
def nameE (G : Glob) (Z : Stat) (x : Str) : M B := match slotOf Z x with
  | some i => varE i
  | none => match isGlob Z x with
    | true => match G.consts.lookup x with
      | some d => ret (.val d)
      | none => stuck
    | false => stuck
section
variable {G : Glob} {cs : Calls} {k : Nat} {Z : Stat} {X : Cx}
theorem slot_vis (g : Good G cs k Z X) {x : Str} {i : Nat} (h : slotOf Z x = some i) : X.N[i]? = some x ∧ Vis X.env.scope x ∧ (x == ("__debug__" : Str)) = false ∧ (x == ("__classdict__" : Str)) = false := by
  unfold slotOf at h
  cases e : dunder x with
  | true => rw [e] at h; cases h
  | false =>
    rw [e] at h
    unfold dunder at e
    rw [Bool.or_eq_false_iff] at e
    have ix : ∀ {j}, Z.N.idxOf? x = some j → X.N[j]? = some x := fun {j} q => by
      rw [g.hN]
      unfold List.idxOf? at q
      rw [List.findIdx?_eq_some_iff_getElem] at q
      obtain ⟨h1, h2, _⟩ := q
      rw [List.getElem?_eq_getElem h1]
      exact congrArg some (by simpa using h2)
    have h2 : (match Z.sc.names.lookup x with | some .local => Z.N.idxOf? x | some .cell => Z.N.idxOf? x | some .free => Z.N.idxOf? x | _ => none) = some i := h
    split at h2
    · exact ⟨ix h2, .inl (by rw [g.sc]; assumption), e.1, e.2⟩
    · exact ⟨ix h2, .inr (.inl (by rw [g.sc]; assumption)), e.1, e.2⟩
    · exact ⟨ix h2, .inr (.inr (by rw [g.sc]; assumption)), e.1, e.2⟩
    · cases h2
theorem glob_gl (g : Good G cs k Z X) {x : Str} (h : isGlob Z x = true) : Gl X x ∧ (x == ("__debug__" : Str)) = false := by
  unfold isGlob at h
  rw [Bool.and_eq_true] at h
  obtain ⟨h1, h2⟩ := h
  unfold dunder at h1
  rw [Bool.not_eq_true', Bool.or_eq_false_iff] at h1
  split at h2
  · refine ⟨?_, h1.1⟩
    show X.env.scope.names.lookup x = some .globalImplicit
    rw [g.sc]
    assumption
  · cases h2
/-- a slot's own list goes over to data for ever -/
theorem sta_frz {K : PySem.W.Frag} {H : Hp} {ow : Ow} {σ : L2.St} {en : Env} {i : Nat} {ds : List D} (s : Sta K H ow σ en) (e : en[i]? = some (some (.lst ds))) :
    ∃ ow' v, σ[i]? = some (some v) ∧ Ext H ow H ow' ∧ Sta K H ow' σ (en.set i (some (.val (.list ds)))) ∧ Rp K (Fz H ow') v (.list ds) := by
  obtain ⟨v, hv, a, vs, rfl, h1, h2, h3⟩ := s.rep i _ e
  have ne : ∀ b, ow b ≠ .own (some i) 0 → b ≠ a := fun b z q => z (by rw [q]; exact h1)
  have ex : Ext H ow H (setL ow a .frz) := ⟨fun b q => by
      rw [setL_ne (ne b (by rw [q]; intro z; cases z))]
      exact ⟨q, rfl⟩, fun b q => by
      rw [setL_ne (ne b (by rw [q]; intro z; cases z))]
      exact ⟨q, rfl⟩⟩
  have r : Rp K (Fz H (setL ow a .frz)) (.ref a) (.list ds) := .lst ((res_at setL_same).trans h2) (RpAll.mono ex.fz h3)
  refine ⟨setL ow a .frz, _, hv, ex, ⟨by rw [List.length_set]; exact s.len, fun j b q => ?_, fun b q => ?_⟩, r⟩
  · by_cases hj : i = j
    · subst hj
      have hl : i < en.length := (List.getElem?_eq_some_iff.mp e).1
      rw [List.getElem?_set_self hl] at q
      cases q
      exact ⟨_, hv, r⟩
    · rw [List.getElem?_set_ne hj] at q
      obtain ⟨w, w1, w2⟩ := s.rep j b q
      refine ⟨w, w1, BRep.mono ex.fz (fun b k q2 => ?_) w2⟩
      rw [setL_ne (ne b (by rw [q2]; intro z; cases z; exact hj rfl))]
      exact ⟨q2, rfl⟩
  · by_cases n : b = a
    · rw [n, h2]
      intro z
      cases z
    · rw [setL_ne n] at q
      exact s.dom b q
theorem de_var (g : Good G cs k Z X) {x : Str} {i : Nat} {pos : Pos} (h : slotOf Z x = some i) : DE X (.Name x pos) (varE i) := by
  obtain ⟨h1, h2, h3, h4⟩ := slot_vis g h
  refine PE.of (pe_var h1 h2 h3 h4) fun σ H Q ⟨ow, en, s, b, en', e, q⟩ => ?_
  unfold varE at e
  split at e
  · rename_i d ed
    cases e
    obtain ⟨v, v1, v2⟩ := s.rep i _ ed
    exact ⟨v, v1, q H ow v (.refl _ _) s v2⟩
  · rename_i ds ed
    cases e
    obtain ⟨ow', v, hv, ex, s', r⟩ := sta_frz s ed
    exact ⟨v, hv, q H ow' v ex s' r⟩
  · rename_i ns ed
    cases e
    obtain ⟨v, v1, v2⟩ := s.rep i _ ed
    exact ⟨v, v1, q H ow v (.refl _ _) s v2⟩
  · cases e
theorem de_stuck {e : Expr} : DE X e stuck := ⟨fun pins s σ H Q I h => by
  obtain ⟨ow, en, s, g⟩ := h
  exact g.stuck_.elim⟩
theorem dt_stuck {e : Expr} : DT X e stuck := ⟨fun pins s σ H Q I h => by
  obtain ⟨ow, en, s, g⟩ := h
  exact g.stuck_.elim⟩
theorem de_name (g : Good G cs k Z X) {x : Str} {pos : Pos} : DE X (.Name x pos) (nameE G Z x) := by
  unfold nameE
  split
  · exact de_var g (by assumption)
  · split
    · rename_i h1 h2
      split
      · rename_i d hd
        obtain ⟨u, v, hm, r, q⟩ := g.con x d hd
        obtain ⟨gl, db⟩ := glob_gl g h2
        exact PE.of (pe_glob gl hm r db) fun σ H Q ⟨ow, en, s, g⟩ => g.ret_ (.refl _ _) s (show BRep X.K H ow none (.val d) v from q _)
      · exact de_stuck
    · exact de_stuck

/-! ### constants, displays -/
def constE : Const → M B
  | .int i => ret (.val (.int i))
  | .bool b => ret (.val (.bool b))
  | .none => ret (.val .none)
  | .str x => ret (.val (.str x))
  | _ => stuck
theorem de_const {c : Const} {j : Nat} {pos : Pos} : DE X (.Constant c j pos) (constE c) := by
  cases c with
  | int i => exact PE.of pe_int fun σ H Q ⟨ow, en, s, g⟩ => g.ret_ (.refl _ _) s (show BRep X.K H ow none (.val (.int i)) (.int i) from .int i)
  | bool b => exact PE.of pe_bl fun σ H Q ⟨ow, en, s, g⟩ => g.ret_ (.refl _ _) s (show BRep X.K H ow none (.val (.bool b)) (.bl b) from .bl b)
  | none => exact PE.of pe_non fun σ H Q ⟨ow, en, s, g⟩ => g.ret_ (.refl _ _) s (show BRep X.K H ow none (.val .none) .non from .non)
  | str x => exact PE.of pe_str fun σ H Q ⟨ow, en, s, g⟩ => g.ret_ (.refl _ _) s (show BRep X.K H ow none (.val (.str x)) (.str x) from .str x)
  | _ => exact de_stuck
def notStar : Expr → Bool
  | .Starred .. => false
  | _ => true
theorem star_cons {e : Expr} {es : List Expr} {env : PySem.Env} (h : notStar e = true) : starEach (e :: es) env = (false, eval e env) :: starEach es env := by
  cases e <;> first | rfl | cases h
theorem star_any {pos : Pos} {env : PySem.Env} : ∀ {es : List Expr}, es.all notStar = true → (backTo pos (starEach es env)).any (·.1) = false
  | [], _ => rfl
  | e :: es, h => by
    rw [List.all_cons, Bool.and_eq_true] at h
    rw [star_cons h.1]
    show (false || (backTo pos (starEach es env)).any (·.1)) = false
    rw [star_any h.2]
    rfl
/-- a list of things reckoned -/
def seqM {α : Type} : List (M α) → M (List α)
  | [] => ret []
  | m :: ms => bd m fun a => bd (seqM ms) fun as => ret (a :: as)
inductive RepL {α : Type} (rep : α → V → Prop) : List α → List V → Prop
  | nil : RepL rep [] []
  | cons {a : α} {as : List α} {v : V} {vs : List V} : rep a v → RepL rep as vs → RepL rep (a :: as) (v :: vs)
theorem RepL.mono {α : Type} {rep rep' : α → V → Prop} (h : ∀ a v, rep a v → rep' a v) : ∀ {as : List α} {vs : List V}, RepL rep as vs → RepL rep' as vs
  | _, _, .nil => .nil
  | _, _, .cons a r => .cons (h _ _ a) (RepL.mono h r)
/-- what stands whatever comes -/
structure Stable {α : Type} (rep : L2.St → Hp → Ow → α → V → Prop) : Prop where
  go : ∀ σ H ow H' ow' a v, Ext H ow H' ow' → rep σ H ow a v → rep σ H' ow' a v
def tMs {α : Type} (K : PySem.W.Frag) (rep : L2.St → Hp → Ow → α → V → Prop) (m : M α) : TE := fun σ H Q => tM K (rep σ) m σ H Q
def tMl {α : Type} (K : PySem.W.Frag) (rep : L2.St → Hp → Ow → α → V → Prop) (m : M (List α)) : TA := fun σ H Q => tM K (fun H ow as vs => RepL (rep σ H ow) as vs) m σ H Q
theorem pa_seq {α : Type} {rep : L2.St → Hp → Ow → α → V → Prop} (st : Stable rep) {f : Expr → M α} : ∀ {es : List Expr}, es.all notStar = true → (∀ e ∈ es, PE X e (tMs X.K rep (f e))) → PA X es (tMl X.K rep (seqM (es.map f)))
  | [], _, _ => PA.of pa_nil fun σ H Q ⟨ow, en, s, g⟩ => g.ret_ (.refl _ _) s .nil
  | e :: es, hs, h => by
    rw [List.all_cons, Bool.and_eq_true] at hs
    have ih := pa_seq st (f := f) hs.2 fun e' he' => h e' (List.mem_cons_of_mem _ he')
    refine PA.of (pa_cons (h e List.mem_cons_self) ih (star_cons hs.1)) fun σ H Q ⟨ow, en, s, g⟩ => ?_
    refine ⟨ow, en, s, ?_⟩
    obtain ⟨a, en', h1, h2⟩ := (show Go X.K _ σ (bd (f e) (fun a => bd (seqM (es.map f)) fun as => ret (a :: as)) en) H ow Q from g).bind (rep2 := rep σ)
    refine ⟨a, en', h1, fun H1 ow1 x x1 s1 q1 => ?_⟩
    obtain ⟨ow1', en1, a1, x2, s2, q2, g2⟩ := h2 H1 ow1 x x1 s1 q1
    refine ⟨ow1', en1, s2, ?_⟩
    obtain ⟨as, en2, h3, h4⟩ := g2.bind (rep2 := fun H ow as vs => RepL (rep σ H ow) as vs)
    refine ⟨as, en2, h3, fun H3 ow3 xs x3 s3 q3 => ?_⟩
    obtain ⟨ow3', en3, as3, x4, s4, q4, g4⟩ := h4 H3 ow3 xs x3 s3 q3
    exact g4.ret_ (.refl _ _) s4 (.cons (st.go _ _ _ _ _ _ _ x4 q2) q4)
def rDσ (K : PySem.W.Frag) : L2.St → Hp → Ow → D → V → Prop := fun _ H ow d v => Rp K (Fz H ow) v d
theorem stable_D {K : PySem.W.Frag} : Stable (rDσ K) := ⟨fun _ _ _ _ _ _ _ x r => Rp.mono x.fz r⟩
theorem RepL.rp {K : PySem.W.Frag} {F : Hp} : ∀ {ds : List D} {vs : List V}, RepL (fun d v => Rp K F v d) ds vs → RpAll K F vs ds
  | _, _, .nil => .nil
  | _, _, .cons h r => .cons h r.rp
theorem da_list {f : Expr → M B} {es : List Expr} (hs : es.all notStar = true) (h : ∀ e ∈ es, DE X e (f e)) : DA X es (seqM (es.map fun e => mD (f e))) := by
  refine PA.of (pa_seq (rep := rDσ X.K) stable_D (f := fun e => mD (f e)) hs fun e he => (h e he).d) fun σ H Q ⟨ow, en, s, a, en', h1, h2⟩ => ?_
  exact ⟨ow, en, s, a, en', h1, fun H' ow' x e s' q => h2 H' ow' x e s' (RepL.rp q)⟩
def tupD (ds : List D) : Option B := if ds.length ≤ cap then some (.val (.tuple ds)) else none
def lstD (ds : List D) : Option B := if ds.length ≤ cap then some (.lst ds) else none
theorem Go.then {K : PySem.W.Frag} {σ : L2.St} {H : Hp} {ow : Ow} {en : Env} {Q : VK} {m : M (List D)} {sem : List D → Option B} (g : Go K (rB K) σ (bd m (fun ds => lift (sem ds)) en) H ow Q) : Go K (rDs K) σ (m en) H ow (fun vs H1 => rPrim K sem vs H1 Q) := by
  obtain ⟨a, en', h1, h2⟩ := g.bind (rep2 := rDs K)
  refine ⟨a, en', h1, fun H' ow' x e s q => ?_⟩
  obtain ⟨ow1, en1, c, x1, s1, q1, g1⟩ := h2 H' ow' x e s q
  exact g1.lift_ s1 q1
theorem de_tup {es : List Expr} {j : Nat} {pos : Pos} {m : M (List D)} (h : DA X es m) : DE X (.Tuple es j pos) (bd m fun ds => lift (tupD ds)) := by
  refine PE.of (pe_tup h) fun σ H Q ⟨ow, en, s, g⟩ => ⟨ow, en, s, ?_⟩
  obtain ⟨a, en', h1, h2⟩ := g.then
  refine ⟨a, en', h1, fun H' ow' x e s q => ?_⟩
  obtain ⟨ow1, ds, b, dm, r, e1, q1⟩ := h2 H' ow' x e s q
  unfold tupD at e1
  split at e1
  · cases e1
    exact ⟨by rw [r.length, cap_eq]; assumption, rPrim.tup dm q1 r⟩
  · cases e1
theorem de_lst {es : List Expr} {pos : Pos} {m : M (List D)} (h : DA X es m) : DE X (.List es pos) (bd m fun ds => lift (lstD ds)) := by
  refine PE.of (pe_lst h) fun σ H Q ⟨ow, en, s, g⟩ => ⟨ow, en, s, ?_⟩
  obtain ⟨a, en', h1, h2⟩ := g.then
  refine ⟨a, en', h1, fun H' ow' x e s q => ?_⟩
  obtain ⟨ow1, ds, b, dm, r, e1, q1⟩ := h2 H' ow' x e s q
  unfold lstD at e1
  split at e1
  · cases e1
    exact ⟨by rw [r.length, cap_eq]; assumption, rPrim.lst dm q1 r⟩
  · cases e1
/-! ### operators -/
def bin2 {α β γ : Type} (ma : M α) (mb : M β) (f : α → β → M γ) : M γ := bd ma fun x => bd mb fun y => f x y
theorem Go.two {K : PySem.W.Frag} {σ : L2.St} {H : Hp} {ow : Ow} {en : Env} {Q : VK} {ma mb : M D} {f : D → D → M B} (s : Sta K H ow σ en) (g : Go K (rB K) σ (bin2 ma mb f en) H ow Q) :
    tM K (rD K) ma σ H fun x H1 => tM K (rD K) mb σ H1 fun y H2 => ∃ ow2 en2 d1 d2, Sta K H2 ow2 σ en2 ∧ Rp K (Fz H2 ow2) x d1 ∧ Rp K (Fz H2 ow2) y d2 ∧ Go K (rB K) σ (f d1 d2 en2) H2 ow2 Q := by
  refine ⟨ow, en, s, ?_⟩
  obtain ⟨a, en', h1, h2⟩ := g.bind (rep2 := rD K)
  refine ⟨a, en', h1, fun H1 ow1 x x1 s1 q1 => ?_⟩
  obtain ⟨ow1', en1, d1, x2, s2, q2, g2⟩ := h2 H1 ow1 x x1 s1 q1
  refine ⟨ow1', en1, s2, ?_⟩
  obtain ⟨b, en3, h3, h4⟩ := g2.bind (rep2 := rD K)
  refine ⟨b, en3, h3, fun H2 ow2 y x3 s3 q3 => ?_⟩
  obtain ⟨ow2', en2, d2, x4, s4, q4, g4⟩ := h4 H2 ow2 y x3 s3 q3
  exact ⟨ow2', en2, d1, d2, s4, Rp.mono x4.fz q2, q4, g4⟩
theorem de_bin {a b : Expr} {op : Operator} {pos : Pos} {ma mb : M B} (ha : DE X a ma) (hb : DE X b mb) : DE X (.BinOp a op b pos) (bin2 (mD ma) (mD mb) fun x y => lift (opS op [x, y])) := by
  refine PE.of (pe_op (op_prim op) ha.d hb.d) fun σ H Q ⟨ow, en, s, g⟩ => ?_
  obtain ⟨ow0, en0, s0, p, en', h1, h2⟩ := g.two s
  refine ⟨ow0, en0, s0, p, en', h1, fun H1 ow1 x x1 s1 q1 => ?_⟩
  obtain ⟨ow2, en2, s2, p2, en3, h3, h4⟩ := h2 H1 ow1 x x1 s1 q1
  refine ⟨ow2, en2, s2, p2, en3, h3, fun H2 ow3 y x2 s3 q2 => ?_⟩
  obtain ⟨ow4, en4, d1, d2, s4, r1, r2, g4⟩ := h4 H2 ow3 y x2 s3 q2
  exact g4.lift_ s4 (.cons r1 (.cons r2 .nil))
end
end DL

namespace DL
open PySem PySem.W PySem.Spec PyProof.Rows L2
/-! ### things looked at where they stand -/
inductive PArg where
  | d (d : D) | pk (i : Nat)
def pkE (i : Nat) : M PArg := fun en => match en[i]? with
  | some (some (.val d)) => some (.d d, en)
  | some (some (.lst _)) => some (.pk i, en)
  | some (some (.scr _)) => some (.pk i, en)
  | _ => none
/-- the argument e, which m reckons; a name's list is looked at, and stays the name's own -/
def peekM (Z : Stat) (e : Expr) (m : M B) : M PArg := match e with
  | .Name x _ => (match slotOf Z x with
    | some i => pkE i
    | none => bd (mD m) fun d => ret (.d d))
  | _ => bd (mD m) fun d => ret (.d d)
def resP (en : Env) : PArg → Option D
  | .d d => some d
  | .pk i => match en[i]? with
    | some (some (.val d)) => some d
    | some (some (.lst ds)) => some (.list ds)
    | some (some (.scr ns)) => some (.list (ns.map PyData.int))
    | _ => none
def resL (en : Env) : List PArg → Option (List D)
  | [] => some []
  | a :: as => match resP en a with
    | some d => match resL en as with
      | some ds => some (d :: ds)
      | none => none
    | none => none
def withR (as : List PArg) (f : List D → M B) : M B := fun en => match resL en as with
  | some ds => f ds en
  | none => none
def rPσ (K : PySem.W.Frag) : L2.St → Hp → Ow → PArg → V → Prop := fun σ H ow a v => match a with
  | .d d => Rp K (Fz H ow) v d
  | .pk i => σ[i]? = some (some v)
theorem stable_P {K : PySem.W.Frag} : Stable (rPσ K) := ⟨fun _ _ _ _ _ a _ x r => match a, r with
  | .d _, r => Rp.mono x.fz r
  | .pk _, r => r⟩
theorem rpAll_intsR {K : PySem.W.Frag} {H : Hp} : ∀ ns : List Int, RpAll K H (ns.map V.int) (ns.map PyData.int)
  | [] => .nil
  | n :: ns => .cons (.int n) (rpAll_intsR ns)
section
variable {K : PySem.W.Frag} {H : Hp} {ow : Ow} {σ : L2.St} {en : Env}
theorem resP_ok (s : Sta K H ow σ en) {a : PArg} {v : V} {d : D} (r : rPσ K σ H ow a v) (e : resP en a = some d) : Pk K H ow v d := by
  cases a with
  | d d' =>
    cases e
    exact Rp.pk r
  | pk i =>
    have r' : σ[i]? = some (some v) := r
    have e2 : (match en[i]? with
      | some (some (.val d)) => some d
      | some (some (.lst ds)) => some (.list ds)
      | some (some (.scr ns)) => some (.list (ns.map PyData.int))
      | _ => none) = some d := e
    clear e
    split at e2
    · rename_i d' ed
      cases e2
      obtain ⟨w, w1, w2⟩ := s.rep _ _ ed
      rw [r'] at w1
      cases w1
      exact Rp.pk w2
    · rename_i ds ed
      cases e2
      obtain ⟨w, w1, a, vs, rfl, h1, h2, h3⟩ := s.rep _ _ ed
      rw [r'] at w1
      cases w1
      exact ⟨a, vs, rfl, SqL.of h2, h3⟩
    · rename_i ns ed
      cases e2
      obtain ⟨w, w1, a, rfl, h1⟩ := s.rep _ _ ed
      rw [r'] at w1
      cases w1
      exact ⟨a, _, rfl, L2.Same.seq res_sub h1, rpAll_intsR ns⟩
    · cases e2
theorem resL_ok (s : Sta K H ow σ en) : ∀ {as : List PArg} {vs : List V} {ds : List D}, RepL (rPσ K σ H ow) as vs → resL en as = some ds → PkAll K H ow vs ds
  | [], _, _, .nil, e => by cases e; exact .nil
  | a :: as, v :: vs, ds, .cons h r, e => by
    unfold resL at e
    split at e
    · rename_i d ed
      split at e
      · rename_i ds' es
        cases e
        exact .cons (resP_ok s h ed) (resL_ok s r es)
      · cases e
    · cases e
theorem Go.withR_ {Q : VK} {sem : List D → Option B} {as : List PArg} {vs : List V} (s : Sta K H ow σ en) (r : RepL (rPσ K σ H ow) as vs) (g : Go K (rB K) σ (withR as (fun ds => lift (sem ds)) en) H ow Q) : rPk K sem vs H Q := by
  unfold withR at g
  cases e : resL en as with
  | none =>
    rw [e] at g
    obtain ⟨_, _, h, _⟩ := g
    cases h
  | some ds =>
    rw [e] at g
    exact g.liftP s (resL_ok s r e)
end
section
variable {G : Glob} {cs : Calls} {k : Nat} {Z : Stat} {X : Cx}
theorem pe_parg {e : Expr} {m : M B} (h : DE X e m) : PE X e (tMs X.K (rPσ X.K) (bd (mD m) fun d => ret (PArg.d d))) := by
  refine PE.of h.d fun σ H Q ⟨ow, en, s, g⟩ => ⟨ow, en, s, ?_⟩
  obtain ⟨a, en', h1, h2⟩ := (show Go X.K _ σ (bd (mD m) (fun d => ret (PArg.d d)) en) H ow Q from g).bind (rep2 := rD X.K)
  refine ⟨a, en', h1, fun H1 ow1 x x1 s1 q1 => ?_⟩
  obtain ⟨ow2, en2, d, x2, s2, q2, g2⟩ := h2 H1 ow1 x x1 s1 q1
  exact g2.ret_ (.refl _ _) s2 q2
theorem pe_peek (g : Good G cs k Z X) {e : Expr} {m : M B} (h : DE X e m) : PE X e (tMs X.K (rPσ X.K) (peekM Z e m)) := by
  cases e with
  | Name x pos =>
    show PE X _ (tMs X.K (rPσ X.K) (match slotOf Z x with
      | some i => pkE i
      | none => bd (mD m) fun d => ret (PArg.d d)))
    split
    · rename_i i hi
      obtain ⟨h1, h2, h3, h4⟩ := slot_vis g hi
      refine PE.of (pe_var h1 h2 h3 h4) fun σ H Q ⟨ow, en, s, a, en', e, q⟩ => ?_
      unfold pkE at e
      split at e
      · rename_i d ed
        cases e
        obtain ⟨v, v1, v2⟩ := s.rep i _ ed
        exact ⟨v, v1, q H ow v (.refl _ _) s v2⟩
      · rename_i ds ed
        cases e
        obtain ⟨v, v1, v2⟩ := s.rep i _ ed
        exact ⟨v, v1, q H ow v (.refl _ _) s v1⟩
      · rename_i ds ed
        cases e
        obtain ⟨v, v1, v2⟩ := s.rep i _ ed
        exact ⟨v, v1, q H ow v (.refl _ _) s v1⟩
      · cases e
    · exact pe_parg h
  | _ => exact pe_parg h
theorem Go.twoP {K : PySem.W.Frag} {σ : L2.St} {H : Hp} {ow : Ow} {en : Env} {Q : VK} {ma mb : M PArg} {f : PArg → PArg → M B} (s : Sta K H ow σ en) (g : Go K (rB K) σ (bin2 ma mb f en) H ow Q) :
    tMs K (rPσ K) ma σ H fun x H1 => tMs K (rPσ K) mb σ H1 fun y H2 => ∃ ow2 en2 d1 d2, Sta K H2 ow2 σ en2 ∧ rPσ K σ H2 ow2 d1 x ∧ rPσ K σ H2 ow2 d2 y ∧ Go K (rB K) σ (f d1 d2 en2) H2 ow2 Q := by
  refine ⟨ow, en, s, ?_⟩
  obtain ⟨a, en', h1, h2⟩ := g.bind (rep2 := rPσ K σ)
  refine ⟨a, en', h1, fun H1 ow1 x x1 s1 q1 => ?_⟩
  obtain ⟨ow1', en1, d1, x2, s2, q2, g2⟩ := h2 H1 ow1 x x1 s1 q1
  refine ⟨ow1', en1, s2, ?_⟩
  obtain ⟨b, en3, h3, h4⟩ := g2.bind (rep2 := rPσ K σ)
  refine ⟨b, en3, h3, fun H2 ow2 y x3 s3 q3 => ?_⟩
  obtain ⟨ow2', en2, d2, x4, s4, q4, g4⟩ := h4 H2 ow2 y x3 s3 q3
  exact ⟨ow2', en2, d1, d2, s4, stable_P.go _ _ _ _ _ _ _ x4 q2, q4, g4⟩
/-- two values at a by-value rule -/
theorem two_rule {ma mb : M PArg} {sem : List D → Option B} {σ : L2.St} {H : Hp} {Q : VK} (h : tM X.K (rB X.K) (bin2 ma mb fun x y => withR [x, y] fun ds => lift (sem ds)) σ H Q) :
    tOp (fun x y H Q => rPk X.K sem [x, y] H Q) (tMs X.K (rPσ X.K) ma) (tMs X.K (rPσ X.K) mb) σ H Q := by
  obtain ⟨ow, en, s, g⟩ := h
  obtain ⟨ow0, en0, s0, p, en', h1, h2⟩ := g.twoP s
  refine ⟨ow0, en0, s0, p, en', h1, fun H1 ow1 x x1 s1 q1 => ?_⟩
  obtain ⟨ow2, en2, s2, p2, en3, h3, h4⟩ := h2 H1 ow1 x x1 s1 q1
  refine ⟨ow2, en2, s2, p2, en3, h3, fun H2 ow3 y x2 s3 q2 => ?_⟩
  obtain ⟨ow4, en4, d1, d2, s4, r1, r2, g4⟩ := h4 H2 ow3 y x2 s3 q2
  exact g4.withR_ s4 (.cons r1 (.cons r2 .nil))
def notSet : Expr → Bool
  | .Set .. => false
  | _ => true
theorem nomarkS {op : CmpOp} {b : Expr} (h : notSet b = true) : behindInMarks op b = false := by
  cases b <;> first | rfl | cases h
def cmpE (op : CmpOp) (pa pb : M PArg) : M B := bin2 pa pb fun x y => withR [x, y] fun ds => lift (cmpS op ds)
theorem units_of (g : Good G cs k Z X) : X.A.units + 65 < cLine := by
  have := g.room.un
  omega
theorem de_cmp (g : Good G cs k Z X) {a b : Expr} {op : CmpOp} {pos : Pos} {ma mb : M B} (ha : DE X a ma) (hb : DE X b mb) (hs : notSet b = true) : DE X (.Compare a [op] [b] pos) (cmpE op (peekM Z a ma) (peekM Z b mb)) :=
  PE.of (pe_cmpR (cmp_prim (units_of g) op) (pe_peek g ha) (pe_peek g hb) (nomarkS hs)) fun σ H Q h => two_rule h
def toBool : B → M Bool
  | .val (.bool b) => ret b
  | _ => stuck
def tb (m : M B) : M Bool := bd m toBool
theorem toBool_ok {K : PySem.W.Frag} {σ : L2.St} {H : Hp} {ow : Ow} {en : Env} {Q : Bool → Hp → Prop} {b : B} {v : V} (s : Sta K H ow σ en) (r : BRep K H ow none b v) (g : Go K rT σ (toBool b en) H ow Q) : ∃ c, v = .bl c ∧ Q c H := by
  unfold toBool at g
  split at g
  · rename_i c
    exact ⟨c, rp_bl r, g.ret_ (.refl _ _) s rfl⟩
  · exact g.stuck_.elim
theorem tTest_of {t : TE} {m : M B} (h : ∀ σ H Q, tM X.K (rB X.K) m σ H Q → t σ H Q) {σ : L2.St} {H : Hp} {Q : Bool → Hp → Prop} (g : tM X.K rT (tb m) σ H Q) : tTest t σ H Q := by
  obtain ⟨ow, en, s, g⟩ := g
  refine h σ H _ ⟨ow, en, s, ?_⟩
  obtain ⟨a, en', h1, h2⟩ := g.bind (rep2 := rB X.K)
  refine ⟨a, en', h1, fun H1 ow1 x x1 s1 q1 => ?_⟩
  obtain ⟨ow2, en2, b, x2, s2, q2, g2⟩ := h2 H1 ow1 x x1 s1 q1
  exact toBool_ok s2 q2 g2
theorem dt_cmp (g : Good G cs k Z X) {a b : Expr} {op : CmpOp} {pos : Pos} {ma mb : M B} (ha : DE X a ma) (hb : DE X b mb) (hs : notSet b = true) : DT X (.Compare a [op] [b] pos) (tb (cmpE op (peekM Z a ma) (peekM Z b mb))) :=
  PT.of (pt_cmpR (cmp_prim (units_of g) op) (pe_peek g ha) (pe_peek g hb) (nomarkS hs)) fun σ H Q h => tTest_of (fun σ H Q h => two_rule h) h
/-! ### a < b < c -/
def chainE (op op' : CmpOp) (ma mb mc : M D) : M B := bin2 ma mb fun x y => bd (tb (lift (cmpS op [x, y]))) fun c => match c with
  | true => bd mc fun z => lift (cmpS op' [y, z])
  | false => ret (.val (.bool false))
theorem chain_rule (g : Good G cs k Z X) {op op' : CmpOp} {ma mb mc : M D} {σ : L2.St} {H : Hp} {Q : VK} (h : tM X.K (rB X.K) (chainE op op' ma mb mc) σ H Q) :
    tChain (fun x y H Q => rPk X.K (cmpS op) [x, y] H Q) (fun x y H Q => rPk X.K (cmpS op') [x, y] H Q) (tM X.K (rD X.K) ma) (tM X.K (rD X.K) mb) (tM X.K (rD X.K) mc) σ H Q := by
  obtain ⟨ow, en, s, g⟩ := h
  obtain ⟨ow0, en0, s0, p, en', h1, h2⟩ := g.two s
  refine ⟨ow0, en0, s0, p, en', h1, fun H1 ow1 x x1 s1 q1 => ?_⟩
  obtain ⟨ow2, en2, s2, p2, en3, h3, h4⟩ := h2 H1 ow1 x x1 s1 q1
  refine ⟨ow2, en2, s2, p2, en3, h3, fun H2 ow3 y x2 s3 q2 => ?_⟩
  obtain ⟨ow4, en4, d1, d2, s4, r1, r2, g4⟩ := h4 H2 ow3 y x2 s3 q2
  -- the first comparison
  obtain ⟨c, en5, e5, q5⟩ := g4.bind (rep2 := rT)
  unfold tb bd at e5
  cases e6 : lift (cmpS op [d1, d2]) en4 with
  | none =>
    rw [e6] at e5
    cases e5
  | some pr =>
    obtain ⟨bb, en6⟩ := pr
    rw [e6] at e5
    have e5' : toBool bb en6 = some (c, en5) := e5
    unfold lift at e6
    cases e7 : cmpS op [d1, d2] with
    | none =>
      rw [e7] at e6
      cases e6
    | some b' =>
      rw [e7] at e6
      cases e6
      unfold toBool at e5'
      split at e5'
      · rename_i cc
        cases e5'
        refine ⟨ow4, [d1, d2], _, s4.dom, RpAll.pk (.cons r1 (.cons r2 .nil)), e7, fun H5 ow5 v5 st5 b5 => ?_⟩
        obtain ⟨ow6, en6', c6, x6, s6, q6, g6⟩ := q5 H5 ow5 c st5.ext (st5.sta s4) rfl
        have ec : c = c6 := q6
        subst ec
        refine ⟨c, rp_bl b5, ?_⟩
        cases c with
        | true =>
          refine iteT ⟨ow6, en6', s6, ?_⟩
          obtain ⟨z, en7, e8, q8⟩ := (show Go X.K (rB X.K) σ (bd mc (fun z => lift (cmpS op' [d2, z])) en6') H5 ow6 Q from g6).bind (rep2 := rD X.K)
          refine ⟨z, en7, e8, fun H7 ow7 w x7 s7 q7 => ?_⟩
          obtain ⟨ow8, en8, d3, x8, s8, r8, g8⟩ := q8 H7 ow7 w x7 s7 q7
          exact g8.liftP s8 (RpAll.pk (.cons (Rp.mono x8.fz (Rp.mono x6.fz r2)) (.cons r8 .nil)))
        | false =>
          exact iteF ((show Go X.K (rB X.K) σ (ret (.val (.bool false)) en6') H5 ow6 Q from g6).ret_ (.refl _ _) s6 (show BRep X.K H5 ow6 none (.val (.bool false)) (.bl false) from .bl false))
      · cases e5'
def plainOp : CmpOp → Bool
  | .In => false
  | .NotIn => false
  | _ => true
theorem lastMarks2 {op op' : CmpOp} {b c : Expr} (h : plainOp op' = true) : lastMarks [op, op'] [b, c] = false := by
  show behindInMarks op' c = false
  exact nobehind c (by intro z; subst z; cases h) (by intro z; subst z; cases h)
theorem de_chain (g : Good G cs k Z X) {a b c : Expr} {op op' : CmpOp} {pos : Pos} {ma mb mc : M B} (ha : DE X a ma) (hb : DE X b mb) (hc : DE X c mc) (hp : plainOp op' = true) :
    DE X (.Compare a [op, op'] [b, c] pos) (chainE op op' (mD ma) (mD mb) (mD mc)) :=
  PE.of (pe_chain (cmp_prim (units_of g) op) (cmp_prim (units_of g) op') ha.d hb.d hc.d (lastMarks2 hp)) fun σ H Q h => chain_rule g h
theorem dt_chain (g : Good G cs k Z X) {a b c : Expr} {op op' : CmpOp} {pos : Pos} {ma mb mc : M B} (ha : DE X a ma) (hb : DE X b mb) (hc : DE X c mc) (hp : plainOp op' = true) :
    DT X (.Compare a [op, op'] [b, c] pos) (tb (chainE op op' (mD ma) (mD mb) (mD mc))) :=
  PT.of (pt_chain (cmp_prim (units_of g) op) (cmp_prim (units_of g) op') ha.d hb.d hc.d (lastMarks2 hp)) fun σ H Q h => tTest_of (fun σ H Q h => chain_rule g h) h
/-! ### and, or, not, if -/
def ifM {α : Type} (c : Bool) (a b : M α) : M α := match c with
  | true => a
  | false => b
def andT : List (M Bool) → M Bool
  | [] => stuck
  | [m] => m
  | m :: n :: ms => bd m fun c => ifM c (andT (n :: ms)) (ret false)
def orT : List (M Bool) → M Bool
  | [] => stuck
  | [m] => m
  | m :: n :: ms => bd m fun c => ifM c (ret true) (orT (n :: ms))
def andE : List (M B) → M B
  | [] => stuck
  | [m] => m
  | m :: n :: ms => bd (tb m) fun c => ifM c (andE (n :: ms)) (ret (.val (.bool false)))
def orE : List (M B) → M B
  | [] => stuck
  | [m] => m
  | m :: n :: ms => bd (tb m) fun c => ifM c (ret (.val (.bool true))) (orE (n :: ms))
def notT (m : M Bool) : M Bool := bd m fun c => ret (!c)
def notE (m : M Bool) : M B := bd m fun c => ret (.val (.bool !c))
def iteE (c : M Bool) (a b : M B) : M B := bd c fun t => ifM t a b
theorem pw_andL {pos : Pos} {f : Expr → M Bool} : ∀ {es : List Expr}, es ≠ [] → (∀ e ∈ es, DT X e (f e)) → PW X (.BoolOp .And es pos) (tM X.K rT (andT (es.map f)))
  | [], h, _ => absurd rfl h
  | [e], _, h => pw_and1 (h e List.mem_cons_self)
  | e :: e2 :: es, _, h => by
    have ih := pw_andL (pos := pos) (f := f) (es := e2 :: es) (by simp) fun e' he' => h e' (List.mem_cons_of_mem _ he')
    have p := pw_and (h e List.mem_cons_self) ih
    refine ⟨fun wh pins s σ H Q I hq => p.run wh pins s σ H Q I ?_⟩
    obtain ⟨ow, en, s, g⟩ := hq
    refine ⟨ow, en, s, ?_⟩
    obtain ⟨a, en', h1, h2⟩ := (show Go X.K rT σ (bd (f e) (fun c => ifM c (andT ((e2 :: es).map f)) (ret false)) en) H ow Q from g).bind (rep2 := rT)
    refine ⟨a, en', h1, fun H1 ow1 x x1 s1 q1 => ?_⟩
    obtain ⟨ow2, en2, b, x2, s2, q2, g2⟩ := h2 H1 ow1 x x1 s1 q1
    have eb : x = b := q2
    subst eb
    cases x with
    | true => exact iteT ⟨ow2, en2, s2, g2⟩
    | false => exact iteF ((show Go X.K rT σ (ret false en2) H1 ow2 Q from g2).ret_ (.refl _ _) s2 rfl)
theorem pw_orL {pos : Pos} {f : Expr → M Bool} : ∀ {es : List Expr}, es ≠ [] → (∀ e ∈ es, DT X e (f e)) → PW X (.BoolOp .Or es pos) (tM X.K rT (orT (es.map f)))
  | [], h, _ => absurd rfl h
  | [e], _, h => pw_or1 (h e List.mem_cons_self)
  | e :: e2 :: es, _, h => by
    have ih := pw_orL (pos := pos) (f := f) (es := e2 :: es) (by simp) fun e' he' => h e' (List.mem_cons_of_mem _ he')
    have p := pw_or (h e List.mem_cons_self) ih
    refine ⟨fun wh pins s σ H Q I hq => p.run wh pins s σ H Q I ?_⟩
    obtain ⟨ow, en, s, g⟩ := hq
    refine ⟨ow, en, s, ?_⟩
    obtain ⟨a, en', h1, h2⟩ := (show Go X.K rT σ (bd (f e) (fun c => ifM c (ret true) (orT ((e2 :: es).map f))) en) H ow Q from g).bind (rep2 := rT)
    refine ⟨a, en', h1, fun H1 ow1 x x1 s1 q1 => ?_⟩
    obtain ⟨ow2, en2, b, x2, s2, q2, g2⟩ := h2 H1 ow1 x x1 s1 q1
    have eb : x = b := q2
    subst eb
    cases x with
    | true => exact iteT ((show Go X.K rT σ (ret true en2) H1 ow2 Q from g2).ret_ (.refl _ _) s2 rfl)
    | false => exact iteF ⟨ow2, en2, s2, g2⟩
theorem tb_step {m : M B} {f : Bool → M B} {σ : L2.St} {H : Hp} {Q : VK} (h : tM X.K (rB X.K) (bd (tb m) f) σ H Q) :
    tM X.K (rB X.K) m σ H fun x H1 => ∃ c, x = .bl c ∧ tM X.K (rB X.K) (f c) σ H1 Q := by
  obtain ⟨ow, en, s, a, en', e, q⟩ := h
  unfold bd tb bd at e
  cases e1 : m en with
  | none =>
    rw [e1] at e
    cases e
  | some p =>
    obtain ⟨b, en1⟩ := p
    rw [e1] at e
    dsimp only at e
    cases e3 : toBool b en1 with
    | none =>
      rw [e3] at e
      cases e
    | some p2 =>
      obtain ⟨c, en2⟩ := p2
      rw [e3] at e
      have e4 : f c en2 = some (a, en') := e
      unfold toBool at e3
      split at e3
      · cases e3
        exact ⟨ow, en, s, _, en1, e1, fun H1 ow1 x x1 s1 q1 => ⟨c, rp_bl q1, ow1, en1, s1, a, en', e4, fun H2 ow2 y x2 s2 q2 => q H2 ow2 y (x1.trans x2) s2 q2⟩⟩
      · cases e3
theorem de_andL {pos : Pos} {f : Expr → M B} : ∀ {es : List Expr}, es ≠ [] → (∀ e ∈ es, DE X e (f e)) → DE X (.BoolOp .And es pos) (andE (es.map f))
  | [], h, _ => absurd rfl h
  | [e], _, h => pe_one (h e List.mem_cons_self)
  | e :: e2 :: es, _, h => by
    have ih := de_andL (pos := pos) (f := f) (es := e2 :: es) (by simp) fun e' he' => h e' (List.mem_cons_of_mem _ he')
    refine PE.of (pe_and (h e List.mem_cons_self) ih) fun σ H Q hq => ?_
    obtain ⟨ow, en, s, a, en', h1, h2⟩ := tb_step (show tM X.K (rB X.K) (bd (tb (f e)) fun c => ifM c (andE ((e2 :: es).map f)) (ret (.val (.bool false)))) σ H Q from hq)
    refine ⟨ow, en, s, a, en', h1, fun H1 ow1 x x1 s1 q1 => ?_⟩
    obtain ⟨c, ec, h3⟩ := h2 H1 ow1 x x1 s1 q1
    refine ⟨c, ec, ?_⟩
    cases c with
    | true => exact iteT h3
    | false =>
      obtain ⟨ow3, en3, s3, g3⟩ := h3
      exact iteF ((show Go X.K (rB X.K) σ (ret (.val (.bool false)) en3) H1 ow3 Q from g3).ret_ (.refl _ _) s3 (show BRep X.K H1 ow3 none (.val (.bool false)) (.bl false) from .bl false))
theorem de_orL {pos : Pos} {f : Expr → M B} : ∀ {es : List Expr}, es ≠ [] → (∀ e ∈ es, DE X e (f e)) → DE X (.BoolOp .Or es pos) (orE (es.map f))
  | [], h, _ => absurd rfl h
  | [e], _, h => pe_one (h e List.mem_cons_self)
  | e :: e2 :: es, _, h => by
    have ih := de_orL (pos := pos) (f := f) (es := e2 :: es) (by simp) fun e' he' => h e' (List.mem_cons_of_mem _ he')
    refine PE.of (pe_or (h e List.mem_cons_self) ih) fun σ H Q hq => ?_
    obtain ⟨ow, en, s, a, en', h1, h2⟩ := tb_step (show tM X.K (rB X.K) (bd (tb (f e)) fun c => ifM c (ret (.val (.bool true))) (orE ((e2 :: es).map f))) σ H Q from hq)
    refine ⟨ow, en, s, a, en', h1, fun H1 ow1 x x1 s1 q1 => ?_⟩
    obtain ⟨c, ec, h3⟩ := h2 H1 ow1 x x1 s1 q1
    refine ⟨c, ec, ?_⟩
    cases c with
    | true =>
      obtain ⟨ow3, en3, s3, g3⟩ := h3
      exact iteT ((show Go X.K (rB X.K) σ (ret (.val (.bool true)) en3) H1 ow3 Q from g3).ret_ (.refl _ _) s3 (show BRep X.K H1 ow3 none (.val (.bool true)) (.bl true) from .bl true))
    | false => exact iteF h3
theorem dt_not {a : Expr} {pos : Pos} {m : M Bool} (h : DT X a m) : DT X (.UnaryOp .Not a pos) (notT m) := by
  refine PT.of (pt_not h) fun σ H Q ⟨ow, en, s, g⟩ => ⟨ow, en, s, ?_⟩
  obtain ⟨b, en', h1, h2⟩ := (show Go X.K rT σ (bd m (fun c => ret (!c)) en) H ow Q from g).bind (rep2 := rT)
  refine ⟨b, en', h1, fun H1 ow1 x x1 s1 q1 => ?_⟩
  obtain ⟨ow2, en2, c, x2, s2, q2, g2⟩ := h2 H1 ow1 x x1 s1 q1
  have eb : x = c := q2
  subst eb
  exact g2.ret_ (.refl _ _) s2 rfl
theorem de_not {a : Expr} {pos : Pos} {m : M B} (h : DE X a m) : DE X (.UnaryOp .Not a pos) (notE (tb m)) := by
  refine PE.of (pe_not h) fun σ H Q hq => ?_
  obtain ⟨ow, en, s, b, en', h1, h2⟩ := tb_step (show tM X.K (rB X.K) (bd (tb m) fun c => ret (.val (.bool !c))) σ H Q from hq)
  refine ⟨ow, en, s, b, en', h1, fun H1 ow1 x x1 s1 q1 => ?_⟩
  obtain ⟨c, ec, ow3, en3, s3, g3⟩ := h2 H1 ow1 x x1 s1 q1
  exact ⟨c, ec, g3.ret_ (.refl _ _) s3 (show BRep X.K H1 ow3 none (.val (.bool !c)) (.bl !c) from .bl _)⟩
def negS : List D → Option B
  | [.int i] => some (.val (.int (-i)))
  | _ => none
def negE (m : M D) : M B := bd m fun d => lift (negS [d])
theorem de_neg {a : Expr} {pos : Pos} {m : M B} (h : DE X a m) : DE X (.UnaryOp .USub a pos) (negE (mD m)) := by
  refine PE.of (pe_un un_neg h.d) fun σ H Q ⟨ow, en, s, g⟩ => ⟨ow, en, s, ?_⟩
  obtain ⟨b, en', h1, h2⟩ := (show Go X.K (rB X.K) σ (bd (mD m) (fun d => lift (negS [d])) en) H ow Q from g).bind (rep2 := rD X.K)
  refine ⟨b, en', h1, fun H1 ow1 x x1 s1 q1 => ?_⟩
  obtain ⟨ow2, en2, d, x2, s2, q2, g2⟩ := h2 H1 ow1 x x1 s1 q1
  obtain ⟨ow3, ds, b3, dm, r, e3, q3⟩ := g2.lift_ s2 (.cons q2 .nil)
  obtain ⟨d', rfl, hr⟩ := rp1 r
  unfold negS at e3
  split at e3
  · rename_i i z
    cases z
    cases e3
    exact ⟨i, rp_int hr, rPrim.val dm q3 (.int _)⟩
  · cases e3
theorem de_ite {c a b : Expr} {pos : Pos} {mc : M Bool} {ma mb : M B} (hc : DT X c mc) (ha : DE X a ma) (hb : DE X b mb) : DE X (.IfExp c a b pos) (iteE mc ma mb) := by
  refine PE.of (pe_ifExp hc ha hb) fun σ H Q ⟨ow, en, s, g⟩ => ⟨ow, en, s, ?_⟩
  obtain ⟨t, en', h1, h2⟩ := (show Go X.K (rB X.K) σ (bd mc (fun t => ifM t ma mb) en) H ow Q from g).bind (rep2 := rT)
  refine ⟨t, en', h1, fun H1 ow1 x x1 s1 q1 => ?_⟩
  obtain ⟨ow2, en2, d, x2, s2, q2, g2⟩ := h2 H1 ow1 x x1 s1 q1
  have eb : x = d := q2
  subst eb
  cases x with
  | true => exact iteT ⟨ow2, en2, s2, g2⟩
  | false => exact iteF ⟨ow2, en2, s2, g2⟩
/-! ### a value's truth as a test -/
def truM : B → M Bool
  | .val .none => ret false
  | .val (.bool b) => ret b
  | .val (.int i) => ret (i != 0)
  | .val (.list ds) => ret (!ds.isEmpty)
  | .val (.tuple ds) => ret (!ds.isEmpty)
  | .lst ds => ret (!ds.isEmpty)
  | _ => stuck
def truE (m : M B) : M Bool := bd m truM
theorem isEmpty_rp {K : PySem.W.Frag} {H : Hp} {vs : List V} {ds : List D} (r : RpAll K H vs ds) : ds.isEmpty = vs.isEmpty := by
  cases r <;> rfl
theorem truM_ok {K : PySem.W.Frag} {σ : L2.St} {H : Hp} {ow : Ow} {en : Env} {Q : Bool → Hp → Prop} {b : B} {v : V} (s : Sta K H ow σ en) (r : BRep K H ow none b v) (g : Go K rT σ (truM b en) H ow Q) : ∃ k, TruV K v H k ∧ Q k H := by
  unfold truM at g
  split at g
  · refine ⟨false, ?_, g.ret_ (.refl _ _) s rfl⟩
    rw [rp_non r]
    rfl
  · rename_i b
    refine ⟨b, ?_, g.ret_ (.refl _ _) s rfl⟩
    rw [rp_bl r]
    rfl
  · rename_i i
    refine ⟨i != 0, ?_, g.ret_ (.refl _ _) s rfl⟩
    rw [rp_int r]
    rfl
  · rename_i ds
    obtain ⟨a, xs, rfl, _, h1, h2⟩ := rp_list_in r
    refine ⟨!ds.isEmpty, .inl ⟨xs, SqL.of h1, ?_⟩, g.ret_ (.refl _ _) s rfl⟩
    rw [isEmpty_rp h2]
  · rename_i ds
    obtain ⟨a, xs, rfl, h1, h2⟩ := rp_tuple_in r
    refine ⟨!ds.isEmpty, .inr (.inl ⟨xs, h1, ?_⟩), g.ret_ (.refl _ _) s rfl⟩
    rw [isEmpty_rp h2]
  · rename_i ds
    obtain ⟨a, xs, rfl, _, h1, h2⟩ := r
    refine ⟨!ds.isEmpty, .inl ⟨xs, SqL.of h1, ?_⟩, g.ret_ (.refl _ _) s rfl⟩
    rw [isEmpty_rp h2]
  · exact g.stuck_.elim
/-- what is tested by its value's truth -/
def truKind : Expr → Bool
  | .Name .. => true
  | .Call .. => true
  | .Subscript .. => true
  | .Attribute .. => true
  | _ => false
theorem dt_tru {e : Expr} {m : M B} (h : DE X e m) (hk : truKind e = true) : DT X e (truE m) := by
  have he : ∀ whole, isTrue e X.env whole = (do let v ← whole; standAt e.pos; holding [v] (truthy v)) := by
    cases e <;> first | (intro _; rfl) | cases hk
  refine PT.of (pt_truth h he) fun σ H Q ⟨ow, en, s, g⟩ => ⟨ow, en, s, ?_⟩
  obtain ⟨t, en', h1, h2⟩ := (show Go X.K rT σ (bd m truM en) H ow Q from g).bind (rep2 := rB X.K)
  refine ⟨t, en', h1, fun H1 ow1 x x1 s1 q1 => ?_⟩
  obtain ⟨ow2, en2, d, x2, s2, q2, g2⟩ := h2 H1 ow1 x x1 s1 q1
  exact truM_ok s2 q2 g2
/-! ### subscripts, slices -/
def plainIx : Expr → Bool
  | .Name .. => true
  | .Constant .. => true
  | .BinOp .. => true
  | .UnaryOp .. => true
  | .Call .. => true
  | .Subscript .. => true
  | _ => false
theorem plainIx_ok {b : Expr} (h : plainIx b = true) : PlainIx b := by
  cases b <;> first | exact fun _ _ => rfl | cases h
def ixE (pa pb : M PArg) : M B := bin2 pa pb fun x y => withR [x, y] fun ds => lift (ixS ds)
theorem de_ix (g : Good G cs k Z X) {a b : Expr} {pos : Pos} {ma mb : M B} (ha : DE X a ma) (hb : DE X b mb) (hs : plainIx b = true) : DE X (.Subscript a b pos) (ixE (peekM Z a ma) (peekM Z b mb)) :=
  PE.of (pe_ix ix_prim (pe_peek g ha) (pe_peek g hb) (plainIx_ok hs)) fun σ H Q h => two_rule h
def partM : Option (M B) → M (Option Int)
  | none => ret none
  | some m => bd (mD m) fun d => match d with
    | .int i => ret (some i)
    | _ => stuck
def rO (H : Hp) (ow : Ow) (a : Option Int) (b : Option Int) : Prop := b = a
theorem po_part {e : Option Expr} {f : Expr → M B} (h : ∀ x, e = some x → DE X x (f x)) : PO X e (tM X.K rO (partM (e.map f))) := by
  cases e with
  | none => exact ⟨fun pins s σ H Q I ⟨ow, en, st, g⟩ => po_none.run pins s σ H Q I (g.ret_ (.refl _ _) st rfl)⟩
  | some e =>
    have p := po_some (h e rfl).d
    refine ⟨fun pins s σ H Q I hq => p.run pins s σ H Q I ?_⟩
    obtain ⟨ow, en, st, g⟩ := hq
    refine ⟨ow, en, st, ?_⟩
    obtain ⟨d, en', h1, h2⟩ := (show Go X.K rO σ (bd (mD (f e)) (fun d => match d with | .int i => ret (some i) | _ => stuck) en) H ow Q from g).bind (rep2 := rD X.K)
    refine ⟨d, en', h1, fun H1 ow1 x x1 s1 q1 => ?_⟩
    obtain ⟨ow2, en2, d2, x2, s2, q2, g2⟩ := h2 H1 ow1 x x1 s1 q1
    split at g2
    · rename_i i
      exact ⟨i, rp_int q2, g2.ret_ (.refl _ _) s2 rfl⟩
    · exact g2.stuck_.elim
def slE (pa : M PArg) (lo hi : M (Option Int)) : M B := bd pa fun x => bd lo fun l => bd hi fun h => withR [x] fun ds => lift (match ds with
  | [d] => slS l h d
  | _ => none)
theorem de_sl (g : Good G cs k Z X) {a : Expr} {lo hi : Option Expr} {p2 pos : Pos} {f : Expr → M B} (ha : DE X a (f a)) (hl : ∀ x, lo = some x → DE X x (f x)) (hh : ∀ x, hi = some x → DE X x (f x)) :
    DE X (.Subscript a (.Slice lo hi none p2) pos) (slE (peekM Z a (f a)) (partM (lo.map f)) (partM (hi.map f))) := by
  refine PE.of (pe_slice sl_prim (pe_peek g ha) (po_part hl) (po_part hh)) fun σ H Q ⟨ow, en, s, g⟩ => ⟨ow, en, s, ?_⟩
  obtain ⟨d, en', h1, h2⟩ := (show Go X.K (rB X.K) σ (bd (peekM Z a (f a)) _ en) H ow Q from g).bind (rep2 := rPσ X.K σ)
  refine ⟨d, en', h1, fun H1 ow1 x x1 s1 q1 => ?_⟩
  obtain ⟨ow2, en2, d2, x2, s2, q2, g2⟩ := h2 H1 ow1 x x1 s1 q1
  refine ⟨ow2, en2, s2, ?_⟩
  obtain ⟨l, en3, h3, h4⟩ := g2.bind (rep2 := rO)
  refine ⟨l, en3, h3, fun H3 ow3 l3 x3 s3 q3 => ?_⟩
  obtain ⟨ow4, en4, l4, x4, s4, q4, g4⟩ := h4 H3 ow3 l3 x3 s3 q3
  have el : l3 = l4 := q4
  subst el
  refine ⟨ow4, en4, s4, ?_⟩
  obtain ⟨u, en5, h5, h6⟩ := g4.bind (rep2 := rO)
  refine ⟨u, en5, h5, fun H5 ow5 u5 x5 s5 q5 => ?_⟩
  obtain ⟨ow6, en6, u6, x6, s6, q6, g6⟩ := h6 H5 ow5 u5 x5 s5 q5
  have eu : u5 = u6 := q6
  subst eu
  have q2' : rPσ X.K σ H5 ow6 d2 x := stable_P.go _ _ _ _ _ _ _ x6 (stable_P.go _ _ _ _ _ _ _ x4 q2)
  obtain ⟨ow7, ds, b, dm, r, e7, q7⟩ := g6.withR_ s6 (.cons q2' .nil)
  obtain ⟨d7, rfl, hr⟩ := pk1 r
  exact ⟨ow7, d7, b, dm, hr, e7, q7⟩
end
end DL

namespace DL
open PySem PySem.W PySem.Spec PyProof.Rows L2
/-! ### a call of a def -/
inductive Arg where
  | b (b : B) | io (i : Nat)
def ioE (i : Nat) : M Arg := fun en => match en[i]? with
  | some (some (.lst _)) => some (.io i, en)
  | some (some (.ins _ _)) => some (.io i, en)
  | _ => none
def toArg : B → M Arg
  | .val d => ret (.b (.val d))
  | .lst ds => ret (.b (.val (.list ds)))
  | .scr ns => ret (.b (.scr ns))
  | _ => stuck
def argM (Z : Stat) (io : Bool) (e : Expr) (m : M B) : M Arg := match io with
  | false => bd m toArg
  | true => match e with
    | .Name x _ => (match slotOf Z x with
      | some i => ioE i
      | none => stuck)
    | _ => stuck
def bRep0 (K : PySem.W.Frag) (F : Hp) : B → V → Prop
  | .val d, v => Rp K F v d
  | .scr ns, v => ∃ a, v = .ref a ∧ SqL K F a (ns.map V.int)
  | _, _ => False
def rAσ (K : PySem.W.Frag) : L2.St → Hp → Ow → Arg → V → Prop := fun σ H ow a v => match a with
  | .b b => bRep0 K (Fz H ow) b v
  | .io i => σ[i]? = some (some v)
theorem bRep0_mono {K : PySem.W.Frag} {F F' : Hp} (e : Same F F') : ∀ {b : B} {v : V}, bRep0 K F b v → bRep0 K F' b v
  | .val _, _, h => Rp.mono e h
  | .scr _, _, ⟨a, h1, h2⟩ => ⟨a, h1, L2.Same.seq e h2⟩
  | .lst _, _, h => h.elim
  | .ins _ _, _, h => h.elim
  | .dk _, _, h => h.elim
  | .dt _, _, h => h.elim
theorem bRep0_rep {K : PySem.W.Frag} {H : Hp} {ow : Ow} {i : Option Nat} : ∀ {b : B} {v : V}, bRep0 K (Fz H ow) b v → BRep K H ow i b v
  | .val _, _, h => h
  | .scr _, _, h => h
  | .lst _, _, h => h.elim
  | .ins _ _, _, h => h.elim
  | .dk _, _, h => h.elim
  | .dt _, _, h => h.elim
theorem stable_A {K : PySem.W.Frag} : Stable (rAσ K) := ⟨fun _ _ _ _ _ a _ x r => match a, r with
  | .b _, r => bRep0_mono x.fz r
  | .io _, r => r⟩
def resA (en : Env) : Arg → Option B
  | .b b => some b
  | .io i => match en[i]? with
    | some (some b) => some b
    | _ => none
def resAs (en : Env) : List Arg → Option (List B)
  | [] => some []
  | a :: as => match resA en a with
    | some d => match resAs en as with
      | some ds => some (d :: ds)
      | none => none
    | none => none
def ioOf (as : List Arg) (j : Nat) : Option Nat := match as[j]? with
  | some (.io i) => some i
  | _ => none
def isIo (i : Nat) : Arg → Bool
  | .io j => j == i
  | _ => false
def posOf (as : List Arg) (i : Nat) : Option Nat := as.findIdx? (isIo i)
def ioOk (as : List Arg) : Bool := (List.range as.length).all fun j => match ioOf as j with
  | some i => posOf as i == some j
  | none => true
def putBack (en : Env) (as : List Arg) (bs : List (Option B)) : Env := en.mapIdx fun i b => match posOf as i with
  | some j => (bs[j]?).getD none
  | none => b
def callE (sem : List B → Option (B × List (Option B))) (as : List Arg) : M B := fun en => match ioOk as with
  | true => match resAs en as with
    | some bs => match sem bs with
      | some (r, bs') => some (r, putBack en as bs')
      | none => none
    | none => none
  | false => none
theorem posOf_io {as : List Arg} {i j : Nat} (h : posOf as i = some j) : ioOf as j = some i := by
  unfold posOf at h
  rw [List.findIdx?_eq_some_iff_getElem] at h
  obtain ⟨h1, h2, _⟩ := h
  unfold ioOf
  rw [List.getElem?_eq_getElem h1]
  cases e : as[j] with
  | b b =>
    rw [e] at h2
    cases h2
  | io k =>
    rw [e] at h2
    have : k = i := eq_of_beq h2
    rw [this]
theorem ioOk_pos {as : List Arg} {i j : Nat} (ok : ioOk as = true) (h : ioOf as j = some i) : posOf as i = some j := by
  have hj : j < as.length := by
    unfold ioOf at h
    by_cases q : j < as.length
    · exact q
    · rw [List.getElem?_eq_none (by omega)] at h
      cases h
  unfold ioOk at ok
  have := List.all_eq_true.mp ok j (List.mem_range.mpr hj)
  rw [h] at this
  exact eq_of_beq this
def entL (as : List Arg) : Lab → Lab
  | .own (some i) k => match posOf as i with
    | some j => .own (some j) k
    | none => .frm
  | .own none _ => .out
  | l => l
def backL (as : List Arg) : Lab → Lab
  | .own (some j) k => match ioOf as j with
    | some i => .own (some i) k
    | none => .out
  | .frm => .out
  | l => l
def aftL (as : List Arg) (ow owc : Ow) : Ow := fun b => match ow b with
  | .own (some i) k => match posOf as i with
    | some _ => backL as (owc b)
    | none => .own (some i) k
  | .frm => .frm
  | _ => backL as (owc b)
section
variable {K : PySem.W.Frag} {H H' : Hp} {ow owc : Ow} {as : List Arg}
theorem ent_frz {b : Addr} : entL as (ow b) = .frz ↔ ow b = .frz := by
  unfold entL
  split
  · rename_i i k e
    rw [e]
    split <;> simp
  · rename_i k e
    rw [e]
    simp
  · exact Iff.rfl
theorem fz_ent : Same (Fz H ow) (Fz H fun b => entL as (ow b)) := fun b o h => by
  obtain ⟨h1, h2⟩ := res_some h
  exact (res_at (ent_frz.mpr h1)).trans h2
theorem resAs_get {en : Env} : ∀ {as : List Arg} {bs : List B}, resAs en as = some bs → bs.length = as.length ∧ ∀ (j : Nat) (b : B), bs[j]? = some b → ∃ a, as[j]? = some a ∧ resA en a = some b
  | [], _, e => by cases e; exact ⟨rfl, fun j b h => by simp at h⟩
  | a :: as, bs, e => by
    unfold resAs at e
    split at e
    · rename_i d ed
      split at e
      · rename_i ds es
        cases e
        obtain ⟨h1, h2⟩ := resAs_get es
        refine ⟨congrArg Nat.succ h1, fun j b h => ?_⟩
        cases j with
        | zero =>
          simp at h
          subst h
          exact ⟨a, rfl, ed⟩
        | succ j => exact h2 j b (by simpa using h)
      · cases e
    · cases e
theorem RepL.len {α : Type} {rep : α → V → Prop} : ∀ {as : List α} {vs : List V}, RepL rep as vs → as.length = vs.length
  | _, _, .nil => rfl
  | _, _, .cons _ r => congrArg Nat.succ (RepL.len r)
theorem RepL.at {α : Type} {rep : α → V → Prop} : ∀ {as : List α} {vs : List V} {j : Nat} {a : α}, RepL rep as vs → as[j]? = some a → ∃ v, vs[j]? = some v ∧ rep a v
  | _, _, _, _, .nil, e => by simp at e
  | _, _, 0, _, .cons h _, e => by simp at e; subst e; exact ⟨_, rfl, h⟩
  | _, _, j + 1, _, .cons _ r, e => by
    obtain ⟨v, h1, h2⟩ := RepL.at (j := j) r (by simpa using e)
    exact ⟨v, by simpa using h1, h2⟩
/-- the state at a def's entry -/
theorem sta_ent {σ : L2.St} {en : Env} {vs : List V} {bs : List B} (s : Sta K H ow σ en) (r : RepL (rAσ K σ H ow) as vs) (e : resAs en as = some bs) (ok : ioOk as = true) : Sta K H (fun b => entL as (ow b)) (vs.map some) (bs.map some) := by
  obtain ⟨l1, g1⟩ := resAs_get e
  refine ⟨by rw [List.length_map, List.length_map, l1, r.len], fun j b h => ?_, fun b h => ?_⟩
  · rw [List.getElem?_map, Option.map_eq_some_iff] at h
    obtain ⟨b', h1, h2⟩ := h
    cases h2
    obtain ⟨a, ha, hr⟩ := g1 j b h1
    obtain ⟨v, hv, rv⟩ := r.at ha
    refine ⟨v, by rw [List.getElem?_map, hv]; rfl, ?_⟩
    cases a with
    | b b0 =>
      cases hr
      exact bRep0_rep (bRep0_mono fz_ent rv)
    | io i =>
      have rv' : σ[i]? = some (some v) := rv
      have hio : ioOf as j = some i := by
        unfold ioOf
        rw [ha]
      have hr2 : (match en[i]? with
        | some (some b) => some b
        | _ => none) = some b := hr
      clear hr
      split at hr2
      · rename_i b2 ei
        cases hr2
        obtain ⟨w, w1, w2⟩ := s.rep _ _ ei
        rw [rv'] at w1
        cases w1
        refine BRep.move fz_ent (fun b k q => ⟨?_, rfl⟩) w2
        show entL as (ow b) = _
        rw [q]
        simp only [entL, ioOk_pos ok hio]
      · cases hr2
  · refine s.dom b fun z => h ?_
    show entL as (ow b) = _
    rw [z]
    rfl
theorem aft_none {b : Addr} {i k : Nat} (h : ow b = .own (some i) k) (p : posOf as i = none) : aftL as ow owc b = .own (some i) k := by
  unfold aftL
  rw [h]
  simp only [p]
theorem aft_frm {b : Addr} (h : ow b = .frm) : aftL as ow owc b = .frm := by
  unfold aftL
  rw [h]
theorem aft_else {b : Addr} (h1 : entL as (ow b) ≠ .frm) : aftL as ow owc b = backL as (owc b) := by
  unfold aftL
  cases e : ow b with
  | out => rfl
  | frz => rfl
  | frm =>
    rw [e] at h1
    exact absurd rfl h1
  | own i k =>
    cases i with
    | none => rfl
    | some i =>
      rw [e] at h1
      unfold entL at h1
      cases p : posOf as i with
      | none =>
        simp only [p] at h1
        exact absurd rfl h1
      | some j => simp only [p]
theorem ent_frm {b : Addr} (h : entL as (ow b) = .frm) : ow b = .frm ∨ ∃ i k, ow b = .own (some i) k ∧ posOf as i = none := by
  cases e : ow b with
  | out => rw [e] at h; cases h
  | frz => rw [e] at h; cases h
  | frm => exact .inl rfl
  | own i k =>
    rw [e] at h
    cases i with
    | none => cases h
    | some i =>
      unfold entL at h
      cases p : posOf as i with
      | none => exact .inr ⟨i, k, rfl, p⟩
      | some j =>
        simp only [p] at h
        cases h
/-- behind a def -/
theorem sta_aft {σ : L2.St} {en : Env} {vs : List V} {bs' : List (Option B)} {r : B} {v : V} (s : Sta K H ow σ en) (rr : RepL (rAσ K σ H ow) as vs) (ok : ioOk as = true)
    (x : Ext H (fun b => entL as (ow b)) H' owc) (s' : Sta K H' owc (vs.map some) bs') (rv : BRep K H' owc none r v) :
    Ext H ow H' (aftL as ow owc) ∧ Sta K H' (aftL as ow owc) σ (putBack en as bs') ∧ BRep K H' (aftL as ow owc) none r v := by
  have nf : ∀ b l, owc b = l → l ≠ .frm → entL as (ow b) ≠ .frm := fun b l e n z => by
    rw [(x.frm b z).1] at e
    exact n e.symm
  have fz2 : Same (Fz H' owc) (Fz H' (aftL as ow owc)) := fun b o h => by
    obtain ⟨h1, h2⟩ := res_some h
    refine (res_at ?_).trans h2
    rw [aft_else (nf b _ h1 (by intro z; cases z)), h1]
    rfl
  have ex : Ext H ow H' (aftL as ow owc) := by
    refine ⟨fun b h => ?_, fun b h => ⟨aft_frm h, (x.frm b (by show entL as (ow b) = _; rw [h]; rfl)).2⟩⟩
    have h1 : entL as (ow b) = .frz := ent_frz.mpr h
    obtain ⟨x1, x2⟩ := x.frz b h1
    refine ⟨?_, x2⟩
    rw [aft_else (by rw [h1]; intro z; cases z), x1]
    rfl
  have mv : ∀ {i j : Option Nat} {b : B} {w : V}, (∀ k, backL as (.own j k) = .own i k) → BRep K H' owc j b w → BRep K H' (aftL as ow owc) i b w := fun {i j b w} hb q =>
    BRep.move fz2 (fun b k e => ⟨by rw [aft_else (nf b _ e (by intro z; cases z)), e]; exact hb k, rfl⟩) q
  refine ⟨ex, ⟨?_, fun i b h => ?_, fun b h => ?_⟩, mv (fun k => rfl) rv⟩
  · unfold putBack
    rw [List.length_mapIdx]
    exact s.len
  · unfold putBack at h
    rw [List.getElem?_mapIdx, Option.map_eq_some_iff] at h
    obtain ⟨b0, h0, h1⟩ := h
    cases p : posOf as i with
    | none =>
      rw [p] at h1
      have h1' : b0 = some b := h1
      subst h1'
      obtain ⟨w, w1, w2⟩ := s.rep i b h0
      refine ⟨w, w1, BRep.mono ex.fz (fun b k e => ⟨aft_none e p, ?_⟩) w2⟩
      refine (x.frm b ?_).2
      show entL as (ow b) = _
      rw [e]
      simp only [entL, p]
    | some j =>
      rw [p] at h1
      have h1' : (bs'[j]?).getD none = some b := h1
      have h2 : bs'[j]? = some (some b) := by
        cases q : bs'[j]? with
        | none => rw [q] at h1'; cases h1'
        | some y =>
          rw [q] at h1'
          exact congrArg some h1'
      obtain ⟨w, w1, w2⟩ := s'.rep j b h2
      rw [List.getElem?_map, Option.map_eq_some_iff] at w1
      obtain ⟨w', w3, w4⟩ := w1
      cases w4
      have hio := posOf_io p
      have ha : as[j]? = some (.io i) := by
        unfold ioOf at hio
        cases q : as[j]? with
        | none => rw [q] at hio; cases hio
        | some a =>
          rw [q] at hio
          cases a with
          | b b => cases hio
          | io i' =>
            cases hio
            rfl
      obtain ⟨u, u1, u2⟩ := rr.at ha
      rw [w3] at u1
      cases u1
      exact ⟨w, u2, mv (fun k => by simp only [backL, hio]) w2⟩
  · by_cases q : entL as (ow b) = .frm
    · rw [(x.frm b q).2]
      refine s.dom b fun z => ?_
      rw [z] at q
      cases q
    · rw [aft_else q] at h
      refine s'.dom b fun z => h ?_
      rw [z]
      rfl
end
section
variable {G : Glob} {cs : Calls} {k : Nat} {Z : Stat} {X : Cx}
theorem pe_arg (g : Good G cs k Z X) {io : Bool} {e : Expr} {m : M B} (h : DE X e m) : PE X e (tMs X.K (rAσ X.K) (argM Z io e m)) := by
  have st : PE X e (tMs X.K (rAσ X.K) stuck) := ⟨fun pins s σ H Q I hq => by
    obtain ⟨ow, en, s, g⟩ := hq
    exact g.stuck_.elim⟩
  cases io with
  | false =>
    refine PE.of h fun σ H Q ⟨ow, en, s, g⟩ => ⟨ow, en, s, ?_⟩
    obtain ⟨a, en', h1, h2⟩ := (show Go X.K (rAσ X.K σ) σ (bd m toArg en) H ow Q from g).bind (rep2 := rB X.K)
    refine ⟨a, en', h1, fun H1 ow1 x x1 s1 q1 => ?_⟩
    obtain ⟨ow2, en2, b, x2, s2, q2, g2⟩ := h2 H1 ow1 x x1 s1 q1
    cases b with
    | val d => exact (show Go X.K (rAσ X.K σ) σ (ret (.b (.val d)) en2) H1 ow2 Q from g2).ret_ (.refl _ _) s2 q2
    | scr ns => exact (show Go X.K (rAσ X.K σ) σ (ret (.b (.scr ns)) en2) H1 ow2 Q from g2).ret_ (.refl _ _) s2 q2
    | lst ds =>
      obtain ⟨_, ow', st, q⟩ := toD_ok (en := en2) (en1 := en2) s2.dom q2 rfl
      exact (show Go X.K (rAσ X.K σ) σ (ret (.b (.val (.list ds))) en2) H1 ow2 Q from g2).ret_ st.ext (st.sta s2) q
    | ins c fs => exact (Go.stuck_ (en := en2) g2).elim
    | dk c => exact (Go.stuck_ (en := en2) g2).elim
    | dt c => exact (Go.stuck_ (en := en2) g2).elim
  | true =>
    cases e with
    | Name x pos =>
      show PE X _ (tMs X.K (rAσ X.K) (match slotOf Z x with
        | some i => ioE i
        | none => stuck))
      split
      · rename_i i hi
        obtain ⟨h1, h2, h3, h4⟩ := slot_vis g hi
        refine PE.of (pe_var h1 h2 h3 h4) fun σ H Q ⟨ow, en, s, a, en', e, q⟩ => ?_
        unfold ioE at e
        split at e
        · rename_i ds ed
          cases e
          obtain ⟨v, v1, v2⟩ := s.rep i _ ed
          exact ⟨v, v1, q H ow v (.refl _ _) s v1⟩
        · rename_i ds fs ed
          cases e
          obtain ⟨v, v1, v2⟩ := s.rep i _ ed
          exact ⟨v, v1, q H ow v (.refl _ _) s v1⟩
        · cases e
      · exact st
    | _ => exact st
/-- the arguments, each with its flag -/
def argsL (Z : Stat) (f : Expr → M B) : List Bool → List Expr → List (M Arg)
  | io :: ios, e :: es => argM Z io e (f e) :: argsL Z f ios es
  | _, _ => []
theorem pa_args (g : Good G cs k Z X) {f : Expr → M B} : ∀ {es : List Expr} {ios : List Bool}, ios.length = es.length → es.all notStar = true → (∀ e ∈ es, DE X e (f e)) → PA X es (tMl X.K (rAσ X.K) (seqM (argsL Z f ios es)))
  | [], [], _, _, _ => PA.of pa_nil fun σ H Q ⟨ow, en, s, g⟩ => g.ret_ (.refl _ _) s .nil
  | e :: es, io :: ios, hl, hs, h => by
    rw [List.all_cons, Bool.and_eq_true] at hs
    have ih := pa_args g (f := f) (ios := ios) (by simpa using hl) hs.2 fun e' he' => h e' (List.mem_cons_of_mem _ he')
    refine PA.of (pa_cons (pe_arg g (io := io) (h e List.mem_cons_self)) ih (star_cons hs.1)) fun σ H Q ⟨ow, en, s, gg⟩ => ?_
    refine ⟨ow, en, s, ?_⟩
    obtain ⟨a, en', h1, h2⟩ := (show Go X.K _ σ (bd (argM Z io e (f e)) (fun a => bd (seqM (argsL Z f ios es)) fun as => ret (a :: as)) en) H ow Q from gg).bind (rep2 := rAσ X.K σ)
    refine ⟨a, en', h1, fun H1 ow1 x x1 s1 q1 => ?_⟩
    obtain ⟨ow1', en1, a1, x2, s2, q2, g2⟩ := h2 H1 ow1 x x1 s1 q1
    refine ⟨ow1', en1, s2, ?_⟩
    obtain ⟨as, en2, h3, h4⟩ := g2.bind (rep2 := fun H ow as vs => RepL (rAσ X.K σ H ow) as vs)
    refine ⟨as, en2, h3, fun H3 ow3 xs x3 s3 q3 => ?_⟩
    obtain ⟨ow3', en3, as3, x4, s4, q4, g4⟩ := h4 H3 ow3 xs x3 s3 q3
    exact g4.ret_ (.refl _ _) s4 (.cons (stable_A.go _ _ _ _ _ _ _ x4 q2) q4)
/-- by the callee's promise -/
theorem Go.call_ {K : PySem.W.Frag} {σ : L2.St} {H : Hp} {ow : Ow} {en : Env} {Q : VK} {sem : List B → Option (B × List (Option B))} {as : List Arg} {vs : List V} (s : Sta K H ow σ en) (r : RepL (rAσ K σ H ow) as vs)
    (g : Go K (rB K) σ (callE sem as en) H ow Q) (E : XK) : spF K sem as.length vs H Q E := by
  obtain ⟨b, en', h1, h2⟩ := g
  unfold callE at h1
  cases ok : ioOk as with
  | false => rw [ok] at h1; cases h1
  | true =>
    rw [ok] at h1
    dsimp only at h1
    cases e1 : resAs en as with
    | none => rw [e1] at h1; cases h1
    | some bs =>
      rw [e1] at h1
      dsimp only at h1
      cases e2 : sem bs with
      | none => rw [e2] at h1; cases h1
      | some p =>
        obtain ⟨rr, bs'⟩ := p
        rw [e2] at h1
        cases h1
        refine ⟨r.len.symm, _, bs, b, bs', sta_ent s r e1 ok, e2, fun H' ow' v x s' rv => ?_⟩
        obtain ⟨x1, s1, r1⟩ := sta_aft s r ok x s' rv
        exact h2 H' _ v x1 s1 r1
def fnE (G : Glob) (cs : Calls) (Z : Stat) (f : Expr → M B) (x : Str) (es : List Expr) : M B := match isGlob Z x && es.all notStar with
  | true => match G.fns.lookup x with
    | some ios => match ios.length == es.length with
      | true => bd (seqM (argsL Z f ios es)) fun as => callE (cs x) as
      | false => stuck
    | none => stuck
  | false => stuck
theorem argsL_len {Z : Stat} {f : Expr → M B} : ∀ {ios : List Bool} {es : List Expr}, ios.length = es.length → (argsL Z f ios es).length = es.length
  | [], [], _ => rfl
  | _ :: ios, _ :: es, h => congrArg Nat.succ (argsL_len (ios := ios) (es := es) (by simpa using h))
theorem seqM_len {α : Type} : ∀ {ms : List (M α)} {en en' : Env} {as : List α}, seqM ms en = some (as, en') → as.length = ms.length
  | [], _, _, _, h => by cases h; rfl
  | m :: ms, en, en', as, h => by
    unfold seqM bd at h
    cases e : m en with
    | none => rw [e] at h; cases h
    | some p =>
      obtain ⟨a, en1⟩ := p
      rw [e] at h
      dsimp only at h
      cases e2 : seqM ms en1 with
      | none => rw [e2] at h; cases h
      | some p2 =>
        obtain ⟨as2, en2⟩ := p2
        rw [e2] at h
        cases h
        exact congrArg Nat.succ (seqM_len e2)
theorem de_fn (g : Good G cs k Z X) {x : Str} {p pos : Pos} {f : Expr → M B} {es : List Expr} (h : ∀ e ∈ es, DE X e (f e)) : DE X (.Call (.Name x p) es [] pos) (fnE G cs Z f x es) := by
  unfold fnE
  split
  · rename_i hg
    rw [Bool.and_eq_true] at hg
    obtain ⟨gl, db⟩ := glob_gl g hg.1
    split
    · rename_i ios hl
      split
      · rename_i hn
        have hn : ios.length = es.length := eq_of_beq hn
        obtain ⟨a, fd, ps, F, hm, hk, hb⟩ := g.fns x ios hl
        have pa := pa_args g (f := f) hn hg.2 h
        have go : ∀ σ H Q, tM X.K (rB X.K) (bd (seqM (argsL Z f ios es)) fun as => callE (cs x) as) σ H Q → tCall (spF X.K (cs x) ios.length) [] E0 (tMl X.K (rAσ X.K) (seqM (argsL Z f ios es))) σ H Q := fun σ H Q ⟨ow, en, s, gg⟩ => ⟨ow, en, s, by
          obtain ⟨as, en', h1, h2⟩ := gg.bind (rep2 := fun H ow as vs => RepL (rAσ X.K σ H ow) as vs)
          have hlen : as.length = ios.length := by rw [seqM_len h1, argsL_len hn, hn]
          refine ⟨as, en', h1, fun H1 ow1 vs x1 s1 q1 => ?_⟩
          obtain ⟨ow2, en2, as2, x2, s2, q2, g2⟩ := h2 H1 ow1 vs x1 s1 q1
          rw [List.append_nil]
          have hl2 : as2.length = ios.length := by rw [q2.len, ← q1.len, hlen]
          rw [← hl2]
          exact g2.call_ s2 q2 E0⟩
        cases es with
        | nil =>
          refine PE.of (pe_call0 F g.room gl hm hk hb .nil pass0 db) fun σ H Q hq => ?_
          have q := go σ H Q hq
          obtain ⟨ow, en, s, as, en', h1, h2⟩ := q
          have e0 : argsL Z f ios [] = [] := by cases ios <;> rfl
          rw [e0] at h1
          cases h1
          exact h2 H ow [] (.refl _ _) s .nil
        | cons e es =>
          have hs := hg.2
          rw [List.all_cons, Bool.and_eq_true] at hs
          exact PE.of (pe_call F g.room gl hm hk hb .nil pass0 pa db (star_cons hs.1) (star_any hs.2)) go
      · exact de_stuck
    · exact de_stuck
  · exact de_stuck
/-! ### built-in functions by name -/
inductive BI where
  | len | abs | max | min | int | tuple | list | sum | any | all
def BI.of (x : Str) : Option BI :=
  if x = "len" then some .len else if x = "abs" then some .abs else if x = "max" then some .max else if x = "min" then some .min else if x = "int" then some .int else
  if x = "tuple" then some .tuple else if x = "list" then some .list else if x = "sum" then some .sum else if x = "any" then some .any else if x = "all" then some .all else none
def BI.name : BI → Str
  | .len => "len" | .abs => "abs" | .max => "max" | .min => "min" | .int => "int" | .tuple => "tuple" | .list => "list" | .sum => "sum" | .any => "any" | .all => "all"
def BI.sem : BI → List D → Option B
  | .len => lenS | .abs => absS | .max => maxS | .min => minS | .int => intS | .tuple => tupleS | .list => listS | .sum => sumS | .any => anyS | .all => allS
theorem BI.of_name {x : Str} {b : BI} (h : BI.of x = some b) : x = b.name := by
  unfold BI.of at h
  repeat (first | (split at h; (· rename_i e; cases h; exact e)) | cases h)
def biE (Z : Stat) (f : Expr → M B) (sem : List D → Option B) (es : List Expr) : M B := bd (seqM (es.map fun e => peekM Z e (f e))) fun as => withR as fun ds => lift (sem ds)
theorem bi_rule {Z : Stat} {f : Expr → M B} {sem : List D → Option B} {es : List Expr} {σ : L2.St} {H : Hp} {Q : VK} (h : tM X.K (rB X.K) (biE Z f sem es) σ H Q) :
    tCB (rPk X.K sem) (tMl X.K (rPσ X.K) (seqM (es.map fun e => peekM Z e (f e)))) σ H Q := by
  obtain ⟨ow, en, s, gg⟩ := h
  refine ⟨ow, en, s, ?_⟩
  obtain ⟨as, en', h1, h2⟩ := (show Go X.K (rB X.K) σ (bd (seqM (es.map fun e => peekM Z e (f e))) (fun as => withR as fun ds => lift (sem ds)) en) H ow Q from gg).bind (rep2 := fun H ow as vs => RepL (rPσ X.K σ H ow) as vs)
  refine ⟨as, en', h1, fun H1 ow1 vs x1 s1 q1 => ?_⟩
  obtain ⟨ow2, en2, as2, x2, s2, q2, g2⟩ := h2 H1 ow1 vs x1 s1 q1
  exact g2.withR_ s2 q2
theorem de_bi (g : Good G cs k Z X) {b : BI} {p pos : Pos} {f : Expr → M B} {e : Expr} {es : List Expr} (hg : isGlob Z b.name = true) (hm : X.mg b.name = none) (hs : (e :: es).all notStar = true) (h : ∀ e' ∈ e :: es, DE X e' (f e')) :
    DE X (.Call (.Name b.name p) (e :: es) [] pos) (biE Z f b.sem (e :: es)) := by
  obtain ⟨gl, db⟩ := glob_gl g hg
  have pa := pa_seq (X := X) (rep := rPσ X.K) stable_P (f := fun e => peekM Z e (f e)) hs fun e' he' => pe_peek g (h e' he')
  have hs2 := hs
  rw [List.all_cons, Bool.and_eq_true] at hs2
  have hu : X.A.units + 64 < cLine := g.room.units
  cases b with
  | len => exact PE.of (pe_callB call_lenP gl hm (by decide +kernel) pa (by decide) db (star_cons hs2.1) (star_any hs2.2)) fun σ H Q hq => bi_rule hq
  | abs => exact PE.of (pe_callB call_absP gl hm (by decide +kernel) pa (by decide) db (star_cons hs2.1) (star_any hs2.2)) fun σ H Q hq => bi_rule hq
  | max => exact PE.of (pe_callB (call_maxP g.calm hu) gl hm (by decide +kernel) pa (by decide) db (star_cons hs2.1) (star_any hs2.2)) fun σ H Q hq => bi_rule hq
  | min => exact PE.of (pe_callB (call_minP g.calm hu) gl hm (by decide +kernel) pa (by decide) db (star_cons hs2.1) (star_any hs2.2)) fun σ H Q hq => bi_rule hq
  | int => exact PE.of (pe_callTy call_intP gl hm (by decide +kernel) pa (by decide) db (star_cons hs2.1) (star_any hs2.2)) fun σ H Q hq => bi_rule hq
  | tuple => exact PE.of (pe_callTy call_tupleP gl hm (by decide +kernel) pa (by decide) db (star_cons hs2.1) (star_any hs2.2)) fun σ H Q hq => bi_rule hq
  | list => exact PE.of (pe_callTy call_listP gl hm (by decide +kernel) pa (by decide) db (star_cons hs2.1) (star_any hs2.2)) fun σ H Q hq => bi_rule hq
  | sum => exact PE.of (pe_callB (call_sumP g.calm) gl hm (by decide +kernel) pa (by decide) db (star_cons hs2.1) (star_any hs2.2)) fun σ H Q hq => bi_rule hq
  | any => exact PE.of (pe_callB (call_anyP g.calm) gl hm (by decide +kernel) pa (by decide) db (star_cons hs2.1) (star_any hs2.2)) fun σ H Q hq => bi_rule hq
  | all => exact PE.of (pe_callB (call_allP g.calm) gl hm (by decide +kernel) pa (by decide) db (star_cons hs2.1) (star_any hs2.2)) fun σ H Q hq => bi_rule hq
end
end DL

namespace DL
open PySem PySem.W PySem.Spec PyProof.Rows L2
/-! ### isinstance of built-in types -/
def tyN : D → Option String
  | .none => some "NoneType"
  | .bool _ => some "bool"
  | .int _ => some "int"
  | .str _ => some "str"
  | .list _ => some "list"
  | .tuple _ => some "tuple"
  | _ => none
theorem tyX_of {K : PySem.W.Frag} {H : Hp} {ow : Ow} {v : V} {d : D} {T : String} (h : Pk K H ow v d) (e : tyN d = some T) : TyX K H v (.type T) := by
  cases d with
  | none =>
    cases e
    rw [pk_non h]
    exact .base .non
  | bool b =>
    cases e
    rw [pk_bl h]
    exact .base (.bl b)
  | int i =>
    cases e
    rw [pk_int h]
    exact .base (.int i)
  | str x =>
    cases e
    rw [pk_str h]
    exact .base (.str x)
  | list ds =>
    cases e
    obtain ⟨a, vs, rfl, h1, _⟩ := pk_lst h
    rcases h1 with (h1 | ⟨o, h1⟩) | ⟨o, its, n, hk, hc, _⟩
    · exact .base (.lst h1)
    · exact .base (.frz h1)
    · exact .kList hk hc
  | tuple ds =>
    cases e
    obtain ⟨a, vs, rfl, h1, _⟩ := pk_tup h
    rcases h1 with (h1 | ⟨o, h1⟩) | ⟨o, its, n, hk, hc, _⟩
    · exact .base (.tup h1)
    · exact .fTuple h1
    · exact .kTuple hk hc
  | dict kv => cases e
/-- the built-in types that are asked -/
def isTyN (x : Str) : Option String := if x = "int" then some "int" else if x = "bool" then some "bool" else if x = "str" then some "str" else if x = "list" then some "list" else if x = "tuple" then some "tuple" else none
theorem boot_ty {x : Str} {T : String} (h : isTyN x = some T) : bootBuiltins x = some (.type T) ∧ x ≠ "__name__" := by
  unfold isTyN at h
  repeat (first | (split at h; (· rename_i e; cases h; subst e; exact ⟨by decide +kernel, by decide⟩)) | cases h)
/-- the answer for several types -/
def kitBs (a : String) : List String → Option Bool
  | [] => some false
  | T :: Ts => match kitB a T with
    | some true => some true
    | some false => kitBs a Ts
    | none => none
theorem kitBs_ok {K : PySem.W.Frag} {a : String} : ∀ {Ts : List String} {r : Bool}, kitBs a Ts = some r → PySem.W.kitAny K (.type a) (Ts.map Value.type) = some r
  | [], r, h => by
    cases h
    exact kitAny_nil
  | T :: Ts, r, h => by
    unfold kitBs at h
    split at h
    · rename_i e
      cases h
      exact kitAny_cons (kit_ty e) (fun z => by cases z) fun _ => rfl
    · rename_i e
      exact kitAny_cons (kit_ty e) (fun _ => kitBs_ok h) fun z => by cases z
    · cases h
def isaS (Ts : List String) : List D → Option B
  | [d] => match tyN d with
    | some a => (kitBs a Ts).map fun b => .val (.bool b)
    | none => none
  | _ => none
def isaE (Ts : List String) (pa : M PArg) : M B := bd pa fun x => withR [x] fun ds => lift (isaS Ts ds)
section
variable {G : Glob} {cs : Calls} {k : Nat} {Z : Stat} {X : Cx}
theorem pe_tyname {x : Str} {T : String} {pos : Pos} (hg : Gl X x) (hm : X.mg x = none) (hdb : (x == ("__debug__" : Str)) = false) (h : isTyN x = some T) : PE X (.Name x pos) (tC (.ty T)) := by
  obtain ⟨hv, hn⟩ := boot_ty h
  exact ⟨fun pins s σ H Q I q => ld_blt I hg hm hv ⟨.ty T, H, I, rfl, q⟩ hn hdb⟩
theorem isa_rule {Ts : List String} {pa : M PArg} {σ : L2.St} {H : Hp} {Q : VK} (h : tM X.K (rB X.K) (isaE Ts pa) σ H Q) :
    tMs X.K (rPσ X.K) pa σ H fun x H1 => ∃ ow d a r, (∀ b, ow b ≠ .out → H1 b ≠ none) ∧ Pk X.K H1 ow x d ∧ tyN d = some a ∧ kitBs a Ts = some r ∧ ∀ H' ow', Step H1 ow H' ow' → Q (.bl r) H' := by
  obtain ⟨ow, en, s, g⟩ := h
  obtain ⟨a, en', h1, h2⟩ := (show Go X.K (rB X.K) σ (bd pa (fun x => withR [x] fun ds => lift (isaS Ts ds)) en) H ow Q from g).bind (rep2 := rPσ X.K σ)
  refine ⟨ow, en, s, a, en', h1, fun H1 ow1 x x1 s1 q1 => ?_⟩
  obtain ⟨ow2, en2, a2, x2, s2, q2, g2⟩ := h2 H1 ow1 x x1 s1 q1
  obtain ⟨ow3, ds, b, dm, pk, e, q⟩ := g2.withR_ s2 (.cons q2 .nil)
  unfold isaS at e
  split at e
  · rename_i d
    cases e1 : tyN d with
    | none => rw [e1] at e; cases e
    | some t =>
      rw [e1] at e
      dsimp only at e
      cases e2 : kitBs t Ts with
      | none => rw [e2] at e; cases e
      | some r =>
        rw [e2] at e
        cases e
        obtain ⟨x', ex, pk1⟩ := pk.len1
        cases ex
        exact ⟨ow3, d, t, r, dm, pk1, e1, e2, fun H' ow' st => q H' ow' (.bl r) st (show Rp X.K _ _ _ from .bl r)⟩
  · cases e
theorem de_isa1 (g : Good G cs k Z X) {e : Expr} {m : M B} {x : Str} {T : String} {p p2 pos : Pos} (hg : Gl X "isinstance") (hm : X.mg "isinstance" = none) (hg2 : isGlob Z x = true) (hm2 : X.mg x = none) (ht : isTyN x = some T) (hs : notStar e = true) (h : DE X e m) :
    DE X (.Call (.Name "isinstance" p) [e, .Name x p2] [] pos) (isaE [T] (peekM Z e m)) := by
  obtain ⟨gl, db⟩ := glob_gl g hg2
  refine PE.of (pe_callB call_isi hg hm (by decide +kernel) (pa_cons (pe_peek g h) (pa_cons (pe_tyname gl hm2 db ht) pa_nil rfl) (star_cons hs)) (by decide) (by decide) (star_cons hs) rfl) fun σ H Q hq => ?_
  obtain ⟨ow, en, s, a, en', h1, h2⟩ := isa_rule hq
  refine ⟨ow, en, s, a, en', h1, fun H1 ow1 y x1 s1 q1 => ?_⟩
  obtain ⟨ow2, d, t, r, dm, pk, e1, e2, q⟩ := h2 H1 ow1 y x1 s1 q1
  refine ⟨y, .ty T, .type t, .type T, r, rfl, .ty T, tyX_of pk e1, kit_ty ?_, q H1 ow2 (.refl dm)⟩
  unfold kitBs at e2
  split at e2
  · rename_i e3
    cases e2
    exact e3
  · rename_i e3
    cases e2
    exact e3
  · cases e2
theorem pk_mono {K : PySem.W.Frag} {H H' : Hp} {ow ow' : Ow} {v : V} {d : D} (e : Same H H') (f : Same (Fz H ow) (Fz H' ow')) (h : Pk K H ow v d) : Pk K H' ow' v d := by
  cases d with
  | list ds =>
    obtain ⟨a, vs, h1, h2, h3⟩ := h
    exact ⟨a, vs, h1, L2.Same.seq e h2, RpAll.mono f h3⟩
  | none => exact Rp.mono f h
  | bool b => exact Rp.mono f h
  | int b => exact Rp.mono f h
  | str b => exact Rp.mono f h
  | tuple b => exact Rp.mono f h
  | dict b => exact Rp.mono f h
theorem de_isa2 (g : Good G cs k Z X) {e : Expr} {m : M B} {x y : Str} {T U : String} {j : Nat} {p p2 p3 p4 pos : Pos} (hg : Gl X "isinstance") (hm : X.mg "isinstance" = none) (hg2 : isGlob Z x = true) (hm2 : X.mg x = none) (hg3 : isGlob Z y = true) (hm3 : X.mg y = none)
    (ht : isTyN x = some T) (hu : isTyN y = some U) (hs : notStar e = true) (h : DE X e m) :
    DE X (.Call (.Name "isinstance" p) [e, .Tuple [.Name x p2, .Name y p3] j p4] [] pos) (isaE [T, U] (peekM Z e m)) := by
  obtain ⟨gl, db⟩ := glob_gl g hg2
  obtain ⟨gl3, db3⟩ := glob_gl g hg3
  have pt := pe_tup (x1 := j) (pos := p4) (pa_cons (pe_tyname (pos := p2) gl hm2 db ht) (pa_cons (pe_tyname (pos := p3) gl3 hm3 db3 hu) (pa_nil (X := X)) rfl) rfl)
  refine PE.of (pe_callB call_isiT hg hm (by decide +kernel) (pa_cons (pe_peek g h) (pa_cons pt pa_nil rfl) (star_cons hs)) (by decide) (by decide) (star_cons hs) rfl) fun σ H Q hq => ?_
  obtain ⟨ow, en, s, a, en', h1, h2⟩ := isa_rule hq
  refine ⟨ow, en, s, a, en', h1, fun H1 ow1 v x1 s1 q1 => ?_⟩
  obtain ⟨ow2, d, t, r, dm, pk, e1, e2, q⟩ := h2 H1 ow1 v x1 s1 q1
  refine ⟨by show 2 ≤ sizeLine; decide, fun tp htp => ?_⟩
  have st := Step.new (o := .tup [.ty T, .ty U]) (l := .out) dm htp (fun i k z => by cases z)
  have sm : Same H1 (upd H1 tp (.tup [.ty T, .ty U])) := fun b o hb => (upd_ne (by intro z; rw [z, htp] at hb; cases hb)).trans hb
  exact ⟨v, tp, [.ty T, .ty U], .type t, [.type T, .type U], r, rfl, upd_same, .cons (.ty T) (.cons (.ty U) .nil), tyX_of (pk_mono sm st.ext.fz pk) e1, kitBs_ok e2, q _ _ st⟩
end
end DL

/-! zip(a, b, strict=..): the strict draws -/
namespace PySem
open Sem (wp)
section
variable {prog : Program} {w : World} {A : Around} {E : Value → Shared → Prop} {s : Shared}
theorem drawE_item {it : Addr} {fp : List Addr} {n i : Nat} {P : Nat → Value → Prop} {St : Nat → Heap → Prop} (D : Draws prog w A it fp n P St) {Q : Option Value → Shared → Prop} (hi : i < n) (st : St i s.heap)
    (hQ : ∀ x h' tk, P i x → St (i + 1) h' → Heap.SameBut it s.heap h' → Q (some x) { s with heap := h', toks := tk }) : wpAny (model prog w) A (Builtin.SmallTypes.nextOrEnd (.ref it)) Q E s := by
  unfold Builtin.SmallTypes.nextOrEnd
  exact wpAny_bind (wpAny_attempt (D.item i s _ _ hi st fun x h' tk p st' sb => wpAny_pure (hQ x h' tk p st' sb)))
theorem drawE_done {it : Addr} {fp : List Addr} {n : Nat} {P : Nat → Value → Prop} {St : Nat → Heap → Prop} (D : Draws prog w A it fp n P St) {Q : Option Value → Shared → Prop} (st : St n s.heap)
    (hQ : ∀ h', Heap.ExtBut it s.heap h' → Q none { s with heap := h' }) : wpAny (model prog w) A (Builtin.SmallTypes.nextOrEnd (.ref it)) Q E s := by
  unfold Builtin.SmallTypes.nextOrEnd
  refine wpAny_bind (wpAny_attempt (D.done s _ _ st fun h' e x ⟨o, ho, hc⟩ => ?_))
  refine wpAny_bind (wpAny_isInstance (T := "StopIteration") (b := true) ⟨o, ho, hc⟩ isSubtype_stop ?_)
  exact wpAny_pure (hQ h' x)
theorem stop_ok {α : Type} {Q : α → Shared → Prop} (hh : A.handled = none) (hE : ∀ h' e, (∀ b o, s.heap.get? b = some o → h'.get? b = some o) → (∃ o, h'.get? e = some o ∧ o.cls = .type "StopIteration") → E (.ref e) { s with heap := h' }) :
    wpAny (model prog w) A (Builtin.SmallTypes.stopIteration : Sem α) Q E s := by
  unfold Builtin.SmallTypes.stopIteration
  refine wpAny_bind ?_
  simp only [newExc, newTuple]
  refine wpAny_bind (wpAny_newObj_type ?_ (by size_fits))
  refine wpAny_bind (m := firstArgMember _ _) (wpAny_of_eq (a := Value.none) (by first | rfl | (simp only [firstArgMember]; rfl)) ?_)
  refine wpAny_newObj_type ?_ (by size_fits)
  simp only [raiseNew]
  refine wpAny_bind (wpAny_handled ?_)
  rw [hh]
  refine wpAny_bind (wpAny_pure (wpAny_throw ?_))
  exact hE _ _ (fun b o e => Heap.get?_push_of_some _ (Heap.get?_push_of_some _ e)) ⟨_, Heap.get?_push_size _ rfl, rfl⟩
/-- a zip object, strict or not -/
def IsZipB (b : Bool) (h : Heap) (z TI TO : Addr) (own : Value) : Prop := h.get? z = some { cls := .type "zip", data := .fields #[own, .bool false, .bool b, .ref TI, .ref TO] }
end
end PySem
namespace PySem
open Sem (wp)
section
variable {prog : Program} {w : World} {A : Around} {E : Value → Shared → Prop} {s : Shared} {z TI TO i1 i2 : Addr} {fp1 fp2 : List Addr} {n1 n2 i : Nat} {P1 P2 : Nat → Value → Prop} {St1 St2 : Nat → Heap → Prop} {a1 a2 : Value}
/-- one turn of a strict zip: both iterators have an item -/
theorem zipS_item {Q : Value → Shared → Prop} (S : ZipSep2 z TI TO i1 i2 fp1 fp2) (D1 : Draws prog w A i1 fp1 n1 P1 St1) (D2 : Draws prog w A i2 fp2 n2 P2 St2)
    (hz : IsZipB true s.heap z TI TO .none) (hTI : IsTupOf2 s.heap TI (.ref i1) (.ref i2)) (hTO : IsTupOf2 s.heap TO a1 a2) (st1 : St1 i s.heap) (st2 : St2 i s.heap) (lt1 : i < n1) (lt2 : i < n2)
    (hQ : ∀ x y h' tk, P1 i x → P2 i y → IsZipB true h' z TI TO (rawInt s.heap.objs.size) → IsTupOf2 h' TO x y → St1 (i + 1) h' → St2 (i + 1) h' → IsTupOf2 h' s.heap.objs.size x y → h'.objs.size = s.heap.objs.size + 1 →
      (∀ c o, c ≠ z → c ≠ TO → c ≠ i1 → c ≠ i2 → s.heap.get? c = some o → h'.get? c = some o) → Q (.ref s.heap.objs.size) { s with heap := h', toks := tk }) :
    wpAny (model prog w) A (Builtin.«zip.__next__» ⟨[.ref z], []⟩) (fun fin s' => ∃ v, fin = .done (.ret v) ∧ Q v s') E s := by
  obtain ⟨hp, gg, dr, k0, oo⟩ := s
  show wpAny _ _ (field (.ref z) 2 >>= _) _ _ _
  refine wpAny_bind (wpAny_field hz rfl (x := .bool true) rfl ?_)
  show wpAny _ _ (field (.ref z) 3 >>= _) _ _ _
  refine wpAny_bind (wpAny_field hz rfl (x := .ref TI) rfl (wpAny_bind (wpAny_seqItems hTI rfl ?_)))
  show wpAny _ _ (Builtin.SmallTypes.ownedTupleIsFree (.ref z) >>= _) _ _ _
  unfold Builtin.SmallTypes.ownedTupleIsFree
  refine wpAny_bind (wpAny_bind (wpAny_field hz rfl (x := .none) rfl (wpAny_pure ?_)))
  simp only [if_true]
  refine wpAny_bind (wpAny_rule (wpAny_bind (wpAny_field hz rfl (x := .ref TO) rfl (wpAny_bind (wpAny_setField_rec hz (by simp) fun ha za sa => ?_)))))
  replace za : IsZipB true ha z TI TO .ellipsis := za
  replace sa : Heap.SameBut z hp ha := sa
  simp only [List.zipIdx_cons, List.zipIdx_nil, List.forIn_cons, List.forIn_nil]
  refine wpAny_bind (wpAny_bind (wpAny_bind (wpAny_onRaise ?_)))
  show wpAny _ _ (Builtin.SmallTypes.nextOrEnd (.ref i1)) _ _ ⟨ha, gg, dr, k0, oo⟩
  refine drawE_item (s := ⟨ha, gg, dr, k0, oo⟩) D1 lt1 (D1.over st1 sa S.zf1) fun x hb kb px sx sb => ?_
  replace sb : Heap.SameBut i1 ha hb := sb
  have ub : IsTupOf2 hb TO a1 a2 := sb.extBut _ _ S.Ti1 (sa.extBut _ _ S.TOz hTO)
  refine wpAny_bind (wpAny_seqItems (s := ⟨hb, gg, dr, kb, oo⟩) ub rfl (wpAny_bind (updateSeq_IsTupOf2 (s := ⟨hb, gg, dr, kb, oo⟩) ub fun hc uc sc => wpAny_bind (wpAny_letGo (wpAny_pure ?_)))))
  replace uc : IsTupOf2 hc TO x a2 := uc
  replace sc : Heap.SameBut TO hb hc := sc
  refine wpAny_bind (wpAny_bind (wpAny_onRaise ?_))
  show wpAny _ _ (Builtin.SmallTypes.nextOrEnd (.ref i2)) _ _ ⟨hc, gg, dr, kb, oo⟩
  refine drawE_item (s := ⟨hc, gg, dr, kb, oo⟩) D2 lt2 (D2.over (D2.over (D2.over st2 sa S.zf2) sb S.sep1_2) sc S.Tf2) fun y hd kd py sy sd => ?_
  replace sd : Heap.SameBut i2 hc hd := sd
  have ud : IsTupOf2 hd TO x a2 := sd.extBut _ _ S.Ti2 uc
  refine wpAny_bind (wpAny_seqItems (s := ⟨hd, gg, dr, kd, oo⟩) ud rfl (wpAny_bind (updateSeq_IsTupOf2 (s := ⟨hd, gg, dr, kd, oo⟩) ud fun he ue se => wpAny_bind (wpAny_letGo (wpAny_pure (wpAny_pure ?_))))))
  replace ue : IsTupOf2 he TO x y := ue
  replace se : Heap.SameBut TO hd he := se
  refine wpAny_bind (wpAny_seqItems (s := ⟨he, gg, dr, kd, oo⟩) ue rfl (wpAny_bind (wpAny_newTuple ?_)))
  have size : he.objs.size = hp.objs.size := by rw [se.1, sd.1, sc.1, sb.1, sa.1]
  have ze : IsZipB true he z TI TO .ellipsis := se.extBut _ _ S.TOz.symm (sd.extBut _ _ S.zi2 (sc.extBut _ _ S.TOz.symm (sb.extBut _ _ S.zi1 za)))
  have old : ∀ c o, c ≠ z → c ≠ TO → c ≠ i1 → c ≠ i2 → hp.get? c = some o → he.get? c = some o := fun c o nz nT n1 n2 e => se.extBut _ _ nT (sd.extBut _ _ n2 (sc.extBut _ _ nT (sb.extBut _ _ n1 (sa.extBut _ _ nz e))))
  have t1 : St1 (i + 1) he := D1.over (D1.over (D1.over sx sc S.Tf1) sd S.sep2_1) se S.Tf1
  have t2 : St2 (i + 1) he := D2.over sy se S.Tf2
  have zlt : z < he.objs.size := Heap.lt_size ze
  show wpAny _ _ (Builtin.SmallTypes.ownedTupleHandOut (.ref z) (.ref he.objs.size) >>= _) _ _ ⟨he.push { cls := .type "tuple", data := .seq #[x, y] }, gg, dr, kd, oo⟩
  unfold Builtin.SmallTypes.ownedTupleHandOut
  have zf : IsZipB true (he.push { cls := .type "tuple", data := .seq #[x, y] }) z TI TO .ellipsis := Heap.get?_push_of_some _ ze
  refine wpAny_bind (wpAny_bind (wpAny_setField_rec zf (by simp) fun hg zg sg => ?_))
  replace zg : IsZipB true hg z TI TO (rawInt he.objs.size) := zg
  refine wpAny_setField_rec zg (by simp) fun hh zh sh => ?_
  replace zh : IsZipB true hh z TI TO (rawInt he.objs.size) := zh
  replace sg : Heap.SameBut z (he.push { cls := .type "tuple", data := .seq #[x, y] }) hg := sg
  replace sh : Heap.SameBut z hg hh := sh
  have up : ∀ c o, c ≠ z → he.get? c = some o → hh.get? c = some o := fun c o n e => sh.extBut _ _ n (sg.extBut _ _ n (Heap.get?_push_of_some _ e))
  have new : IsTupOf2 hh he.objs.size x y := sh.extBut _ _ (Nat.ne_of_gt zlt) (sg.extBut _ _ (Nat.ne_of_gt zlt) (Heap.get?_push_size _ rfl))
  have sz2 : hh.objs.size = he.objs.size + 1 := by rw [sh.1, sg.1, Heap.size_push]
  rw [size] at zh new sz2
  refine wpAny_pure ⟨_, rfl, ?_⟩
  show Q (.ref he.objs.size) ⟨hh, gg, dr, kd, oo⟩
  rw [size]
  exact hQ x y hh kd px py zh (up _ _ S.TOz ue) (D1.frame _ _ _ t1 fun b hb o e => up b o (fun q => S.zf1 (q ▸ hb)) e) (D2.frame _ _ _ t2 fun b hb o e => up b o (fun q => S.zf2 (q ▸ hb)) e) new sz2 fun c o nz nT m1 m2 e => up c o nz (old c o nz nT m1 m2 e)
/-- the end of a strict zip: both iterators end -/
theorem zipS_end {Q : Fin → Shared → Prop} (hh : A.handled = none) (S : ZipSep2 z TI TO i1 i2 fp1 fp2) (D1 : Draws prog w A i1 fp1 i P1 St1) (D2 : Draws prog w A i2 fp2 i P2 St2)
    (hz : IsZipB true s.heap z TI TO .none) (hTI : IsTupOf2 s.heap TI (.ref i1) (.ref i2)) (hTO : IsTupOf2 s.heap TO a1 a2) (st1 : St1 i s.heap) (st2 : St2 i s.heap)
    (hE : ∀ h' e, (∀ c o, c ≠ z → c ≠ TO → c ≠ i1 → c ≠ i2 → s.heap.get? c = some o → h'.get? c = some o) → (∃ o, h'.get? e = some o ∧ o.cls = .type "StopIteration") → E (.ref e) { s with heap := h' }) :
    wpAny (model prog w) A (Builtin.«zip.__next__» ⟨[.ref z], []⟩) Q E s := by
  obtain ⟨hp, gg, dr, k0, oo⟩ := s
  show wpAny _ _ (field (.ref z) 2 >>= _) _ _ _
  refine wpAny_bind (wpAny_field hz rfl (x := .bool true) rfl ?_)
  show wpAny _ _ (field (.ref z) 3 >>= _) _ _ _
  refine wpAny_bind (wpAny_field hz rfl (x := .ref TI) rfl (wpAny_bind (wpAny_seqItems hTI rfl ?_)))
  show wpAny _ _ (Builtin.SmallTypes.ownedTupleIsFree (.ref z) >>= _) _ _ _
  unfold Builtin.SmallTypes.ownedTupleIsFree
  refine wpAny_bind (wpAny_bind (wpAny_field hz rfl (x := .none) rfl (wpAny_pure ?_)))
  simp only [if_true]
  refine wpAny_bind (wpAny_rule (wpAny_bind (wpAny_field hz rfl (x := .ref TO) rfl (wpAny_bind (wpAny_setField_rec hz (by simp) fun ha za sa => ?_)))))
  replace za : IsZipB true ha z TI TO .ellipsis := za
  replace sa : Heap.SameBut z hp ha := sa
  simp only [List.zipIdx_cons, List.zipIdx_nil, List.forIn_cons, List.forIn_nil]
  refine wpAny_bind (wpAny_bind (wpAny_bind (wpAny_onRaise ?_)))
  show wpAny _ _ (Builtin.SmallTypes.nextOrEnd (.ref i1)) _ _ ⟨ha, gg, dr, k0, oo⟩
  refine drawE_done (s := ⟨ha, gg, dr, k0, oo⟩) D1 (D1.over st1 sa S.zf1) fun hb xb => ?_
  replace xb : Heap.ExtBut i1 ha hb := xb
  have zb : IsZipB true hb z TI TO .ellipsis := xb _ _ S.zi1 za
  refine wpAny_bind (wpAny_setField_rec (s := ⟨hb, gg, dr, k0, oo⟩) zb (by simp) fun hc zc sc => ?_)
  replace sc : Heap.SameBut z hb hc := sc
  have t2 : St2 i hc := D2.over (D2.frame _ _ _ (D2.over st2 sa S.zf2) fun b hb o e => xb b o (fun q => S.sep1_2 (q ▸ hb)) e) sc S.zf2
  refine wpAny_bind ?_
  show wpAny _ _ (forIn (m := Sem) (([Value.ref i1, Value.ref i2].drop 1).zipIdx 1) PUnit.unit _ >>= fun _ => (rule "zip.__next__.all-ended" >>= fun _ => Builtin.SmallTypes.stopIteration)) _ _ _
  simp only [List.drop_succ_cons, List.drop_zero, List.zipIdx_cons, List.zipIdx_nil, List.forIn_cons, List.forIn_nil]
  refine wpAny_bind (wpAny_bind (wpAny_bind (drawE_done (s := ⟨hc, gg, dr, k0, oo⟩) D2 t2 fun hd xd => ?_)))
  replace xd : Heap.ExtBut i2 hc hd := xd
  rw [if_neg (by simp)]
  refine wpAny_pure (wpAny_pure (wpAny_bind (wpAny_rule (stop_ok hh fun he e xe o => ?_))))
  refine hE he e (fun c o nz nT m1 m2 g => xe _ _ (xd _ _ m2 (sc.extBut _ _ nz (xb _ _ m1 (sa.extBut _ _ nz g))))) o
end
end PySem

/-! what is walked, of any kind -/
namespace PySem
open Sem (wp)
section
variable {prog : Program} {w : World} {A : Around} {E : Value → Shared → Prop} {s : Shared} {z TI TO i1 i2 : Addr} {fp1 fp2 : List Addr} {n i : Nat} {P1 P2 : Nat → Value → Prop} {St1 St2 : Nat → Heap → Prop} {a1 a2 : Value}
theorem zipB_iter {b : Bool} {own : Value} {Q : Value → Shared → Prop} (hz : IsZipB b s.heap z TI TO own) (h : Q (.ref z) s) : wpAny (model prog w) A (pyIter (.ref z)) Q E s := by
  have hT : s.TypeIs (.ref z) "zip" := ⟨_, hz, rfl⟩
  refine wpAny_pyIter_slot hT F.slot_zip_iter (wpAny_call_entry F.slot_zip_iter hT F.entry_zip_iter ?_ (F.args_zip_iter_1 _))
  show wpAny _ _ (PySem.ret (.ref z)) _ _ s
  exact wpAny_pure ⟨_, rfl, "zip", _, hT, F.slot_zip_next.lookup, h⟩
theorem zipB_go {b : Bool} {elts : List Expr} {x1 : Nat} {pos : Pos} {T : Addr} {Q : Unit → Shared → Prop} (hz : IsZipB b s.heap z TI TO (rawInt T))
    (hQ : ∀ h', IsZipB b h' z TI TO .none → Heap.SameBut z s.heap h' → Q () { s with heap := h' }) : wpAny (model prog w) A (letOwnedTupleGo (.Tuple elts x1 pos) (.ref z) (.ref T)) Q E s := by
  unfold letOwnedTupleGo
  refine wpAny_bind (wpAny_load hz ?_)
  show wpAny _ _ (if (_ && _) = true then _ else _) Q E s
  rw [if_pos (by simp)]
  exact wpAny_bind (wpAny_rule (wpAny_setField_rec hz (by simp) fun h' hz' hs' => hQ h' hz' hs'))
/-- a strict zip of two that end together -/
theorem WalksT.zipS (hh : A.in1.handled = none) (S : ZipSep2 z TI TO i1 i2 fp1 fp2) (D1 : Draws prog w A.in1 i1 fp1 n P1 St1) (D2 : Draws prog w A.in1 i2 fp2 n P2 St2) :
    WalksT prog w A z (z :: TI :: TO :: (fp1 ++ fp2)) [z, TO, i1, i2] n
      (fun i vals => ∃ x y, P1 i x ∧ P2 i y ∧ vals = #[x, y])
      (fun i h => IsZipB true h z TI TO .none ∧ IsTupOf2 h TI (.ref i1) (.ref i2) ∧ (∃ a b, IsTupOf2 h TO a b) ∧ St1 i h ∧ St2 i h)
      (fun i T h => IsZipB true h z TI TO (rawInt T) ∧ IsTupOf2 h TI (.ref i1) (.ref i2) ∧ (∃ a b, IsTupOf2 h TO a b) ∧ St1 (i + 1) h ∧ St2 (i + 1) h ∧ T ≠ z ∧ T ≠ TO ∧ T ≠ i1 ∧ T ≠ i2) where
  sub := fun c hc => by
    simp only [List.mem_cons, List.not_mem_nil, or_false] at hc
    simp only [List.mem_cons, List.mem_append]
    rcases hc with rfl | rfl | rfl | rfl
    · exact .inl rfl
    · exact .inr (.inr (.inl rfl))
    · exact .inr (.inr (.inr (.inl S.mem1)))
    · exact .inr (.inr (.inr (.inr S.mem2)))
  frame := fun i h h' hst hk => by
    obtain ⟨hz, hTI, ⟨a, b, hTO⟩, s1, s2⟩ := hst
    exact ⟨hk z (by simp) _ hz, hk TI (by simp) _ hTI, ⟨a, b, hk TO (by simp) _ hTO⟩, D1.frame _ _ _ s1 fun c hc o e => hk c (by simp [hc]) o e, D2.frame _ _ _ s2 fun c hc o e => hk c (by simp [hc]) o e⟩
  item := fun i s Q E hi hst hQ => by
    obtain ⟨hz, hTI, ⟨a, b, hTO⟩, s1, s2⟩ := hst
    have hT : s.TypeIs (.ref z) "zip" := ⟨_, hz, rfl⟩
    have lt : ∀ {c o}, s.heap.get? c = some o → s.heap.objs.size ≠ c := fun e => Nat.ne_of_gt (Heap.lt_size e)
    have l1 : s.heap.objs.size ≠ i1 := by obtain ⟨_, e⟩ := D1.live _ _ s1; exact lt e
    have l2 : s.heap.objs.size ≠ i2 := by obtain ⟨_, e⟩ := D2.live _ _ s2; exact lt e
    unfold pyNext
    refine wpAny_bind (wpAny_attempt (wpAny_callSpecial?_slot (name := Str.ofString "__next__") hT F.slot_zip_next
      (wpAny_call_entry F.slot_zip_next hT F.entry_zip_next (zipS_item S D1 D2 hz hTI hTO s1 s2 hi hi fun x y h' tk p1 p2 b1 b2 d1 d2 b3 b4 hk => wpAny_pure ?_) (F.args_zip_next_1 _))))
    exact hQ s.heap.objs.size #[x, y] h' tk ⟨x, y, p1, p2, rfl⟩ (Nat.le_refl _) ⟨_, b3, rfl, _, rfl⟩ ⟨b1, hk _ _ S.TIz S.TITO S.TIi1 S.TIi2 hTI, ⟨_, _, b2⟩, d1, d2, lt hz, lt hTO, l1, l2⟩
      fun c o hc e => hk c o (fun x => hc (by simp [x])) (fun x => hc (by simp [x])) (fun x => hc (by simp [x])) (fun x => hc (by simp [x])) e
  go := fun elts k pos i T s Q E hm hQ => by
    obtain ⟨hz, hTI, ⟨a, b, hTO⟩, s1, s2, _⟩ := hm
    exact zipB_go hz fun h' hz' hs' => hQ h' ⟨hz', hs'.extBut _ _ S.TIz hTI, ⟨a, b, hs'.extBut _ _ S.TOz hTO⟩, D1.over s1 hs' S.zf1, D2.over s2 hs' S.zf2⟩ fun c o hc e => hs'.extBut _ _ (fun x => hc (by simp [x])) e
  apart := fun i T h hm hT => by
    obtain ⟨_, _, _, _, _, tz, tT, t1, t2⟩ := hm
    simp only [List.mem_cons, List.not_mem_nil, or_false] at hT
    rcases hT with e | e | e | e
    · exact tz e
    · exact tT e
    · exact t1 e
    · exact t2 e
  done := fun s Q E hst hQ => by
    obtain ⟨hz, hTI, ⟨a, b, hTO⟩, s1, s2⟩ := hst
    have hT : s.TypeIs (.ref z) "zip" := ⟨_, hz, rfl⟩
    unfold pyNext
    refine wpAny_bind (wpAny_attempt (wpAny_callSpecial?_slot (name := Str.ofString "__next__") hT F.slot_zip_next
      (wpAny_call_entry F.slot_zip_next hT F.entry_zip_next (zipS_end hh S D1 D2 hz hTI hTO s1 s2 fun h' e hk o => ?_) (F.args_zip_next_1 _))))
    obtain ⟨o, ho, hc⟩ := o
    refine wpAny_bind (wpAny_isInstance (T := "StopIteration") (b := true) ⟨o, ho, hc⟩ isSubtype_stop ?_)
    exact wpAny_pure (hQ h' s.toks fun c o hc e => hk c o (fun x => hc (by simp [x])) (fun x => hc (by simp [x])) (fun x => hc (by simp [x])) (fun x => hc (by simp [x])) e)
  self := fun i s Q E hst hQ => zipB_iter hst.1 hQ
abbrev gzZB (h : Heap) (o1 o2 : Obj) : Heap := (gzO2 h o1 o2).push { cls := .type "zip", data := .fields #[.none, .bool false, .bool true, .ref ((h.push o1).push o2).objs.size, .ref (gzT2 h o1 o2).objs.size] }
theorem meets_zip_newS {v1 v2 : Value} {o1 o2 : Obj} {H1 H2 : Heap → Prop} (B1 : Begins v1 o1 H1) (B2 : Begins v2 o2 H2) :
    Meets (Builtin.«zip.__new__» ⟨[.type "zip", v1, v2], [(Str.ofString "strict", .bool true)]⟩) (fun _ R s => (H1 s.heap ∧ H2 s.heap) ∧ R (.ok (.ret (.ref (gzO2 s.heap o1 o2).objs.size))) { s with heap := gzZB s.heap o1 o2 }) :=
  .of_wp fun prog w A R s h => by
    obtain ⟨hp, g, d, tk, os⟩ := s
    obtain ⟨⟨h1, h2⟩, h⟩ := h
    have hsub := sub_zip
    have q1 : ∀ {A' : Around} {E : Value → Shared → Prop} {Q : Value → Shared → Prop}, Q (.ref hp.objs.size) ⟨(hp.push o1), g, d, tk, os⟩ → wpAny (model prog w) A' (pyIter v1) Q E ⟨hp, g, d, tk, os⟩ :=
      fun q => B1.iter prog w _ _ ⟨hp, g, d, tk, os⟩ _ (B1.keeps _ _ h1 fun b o' e => e) q
    have q2 : ∀ {A' : Around} {E : Value → Shared → Prop} {Q : Value → Shared → Prop}, Q (.ref (hp.push o1).objs.size) ⟨((hp.push o1).push o2), g, d, tk, os⟩ → wpAny (model prog w) A' (pyIter v2) Q E ⟨(hp.push o1), g, d, tk, os⟩ :=
      fun q => B2.iter prog w _ _ ⟨(hp.push o1), g, d, tk, os⟩ _ (B2.keeps _ _ h2 fun b o' e => (Heap.get?_push_of_some _ e)) q
    have q3 : ∀ {A' : Around} {E : Value → Shared → Prop} {Q : Bool → Shared → Prop} {s : Shared}, Q true s → wpAny (model prog w) A' (truthy (.bool true)) Q E s := fun q => wpAny_truthy_bool q
    wp_walk using q1, q2, q3
    exact ⟨_, rfl, h⟩
theorem typeCall_zipK (a b c : Value) : checkTypeCall "zip" ⟨[a, b], [(Str.ofString "strict", c)]⟩ = pure () := by kernel_rfl
theorem newCall_zipK (a b c : Value) : checkBuiltinCall "zip.__new__" ⟨[.type "zip", a, b], [(Str.ofString "strict", c)]⟩ = pure () := by kernel_rfl
theorem args_initK (obj a b c : Value) : argsOk "object.__init__" ⟨[obj, a, b], [(Str.ofString "strict", c)]⟩ := by unfold argsOk; kernel_rfl
/-- zip(v1, v2, strict=True) -/
theorem zip_beginsB {v1 v2 : Value} {o1 o2 : Obj} {H1 H2 : Heap → Prop} {Q : Value → Shared → Prop} (B1 : Begins v1 o1 H1) (B2 : Begins v2 o2 H2) (h1 : H1 s.heap) (h2 : H2 s.heap)
    (h : ∀ h', IsZipB true h' (s.heap.objs.size + 4) (s.heap.objs.size + 2) (s.heap.objs.size + 3) .none → IsTupOf2 h' (s.heap.objs.size + 2) (.ref s.heap.objs.size) (.ref (s.heap.objs.size + 1)) →
      IsTupOf2 h' (s.heap.objs.size + 3) .none .none → h'.get? s.heap.objs.size = some o1 → h'.get? (s.heap.objs.size + 1) = some o2 → h'.objs.size = s.heap.objs.size + 5 →
      (∀ c o, s.heap.get? c = some o → h'.get? c = some o) → Q (.ref (s.heap.objs.size + 4)) { s with heap := h' }) :
    wpAny (model prog w) A (call (.type "zip") [v1, v2] [(Str.ofString "strict", .bool true)]) Q E s := by
  have z1 : (s.heap.push o1).objs.size = s.heap.objs.size + 1 := by rw [Heap.size_push]
  have z2 : ((s.heap.push o1).push o2).objs.size = s.heap.objs.size + 2 := by rw [Heap.size_push, z1]
  have z3 : (gzT2 s.heap o1 o2).objs.size = s.heap.objs.size + 3 := by rw [Heap.size_push, z2]
  have z4 : (gzO2 s.heap o1 o2).objs.size = s.heap.objs.size + 4 := by rw [Heap.size_push, z3]
  have fin : ∀ o : Obj, o.isFreed = false → o = { cls := .type "zip", data := .fields #[.none, .bool false, .bool true, .ref ((s.heap.push o1).push o2).objs.size, .ref (gzT2 s.heap o1 o2).objs.size] } →
      ({ s with heap := (gzO2 s.heap o1 o2).push o } : Shared).TypeIs (.ref (gzO2 s.heap o1 o2).objs.size) "zip" ∧ Q (.ref (gzO2 s.heap o1 o2).objs.size) { s with heap := (gzO2 s.heap o1 o2).push o } := fun o nf eo => by
    subst eo
    have k1 : ((gzO2 s.heap o1 o2).push { cls := .type "zip", data := .fields #[.none, .bool false, .bool true, .ref ((s.heap.push o1).push o2).objs.size, .ref (gzT2 s.heap o1 o2).objs.size] }).get? (gzO2 s.heap o1 o2).objs.size = some { cls := .type "zip", data := .fields #[.none, .bool false, .bool true, .ref ((s.heap.push o1).push o2).objs.size, .ref (gzT2 s.heap o1 o2).objs.size] } := Heap.get?_push_size _ rfl
    refine ⟨⟨_, k1, rfl⟩, ?_⟩
    rw [z4, z3, z2] at k1
    have k2 : ((gzO2 s.heap o1 o2).push { cls := .type "zip", data := .fields #[.none, .bool false, .bool true, .ref ((s.heap.push o1).push o2).objs.size, .ref (gzT2 s.heap o1 o2).objs.size] }).get? (gzT2 s.heap o1 o2).objs.size = some { cls := .type "tuple", data := .seq #[.none, .none] } := Heap.get?_push_of_some _ (Heap.get?_push_size _ rfl)
    have k3 : ((gzO2 s.heap o1 o2).push { cls := .type "zip", data := .fields #[.none, .bool false, .bool true, .ref ((s.heap.push o1).push o2).objs.size, .ref (gzT2 s.heap o1 o2).objs.size] }).get? ((s.heap.push o1).push o2).objs.size = some { cls := .type "tuple", data := .seq #[.ref s.heap.objs.size, .ref (s.heap.push o1).objs.size] } := Heap.get?_push_of_some _ (Heap.get?_push_of_some _ (Heap.get?_push_size _ rfl))
    have k4 : ((gzO2 s.heap o1 o2).push { cls := .type "zip", data := .fields #[.none, .bool false, .bool true, .ref ((s.heap.push o1).push o2).objs.size, .ref (gzT2 s.heap o1 o2).objs.size] }).get? s.heap.objs.size = some o1 := Heap.get?_push_of_some _ (Heap.get?_push_of_some _ (Heap.get?_push_of_some _ (Heap.get?_push_of_some _ (Heap.get?_push_size _ B1.free))))
    have k5 : ((gzO2 s.heap o1 o2).push { cls := .type "zip", data := .fields #[.none, .bool false, .bool true, .ref ((s.heap.push o1).push o2).objs.size, .ref (gzT2 s.heap o1 o2).objs.size] }).get? (s.heap.push o1).objs.size = some o2 := Heap.get?_push_of_some _ (Heap.get?_push_of_some _ (Heap.get?_push_of_some _ (Heap.get?_push_size _ B2.free)))
    rw [z3, z2] at k2 k3 k4 k5
    rw [z1] at k3 k5
    rw [z4, z3, z2]
    exact h _ k1 k3 k2 k4 k5 (by rw [Heap.size_push, z4]) fun c o e => Heap.get?_push_of_some _ (Heap.get?_push_of_some _ (Heap.get?_push_of_some _ (Heap.get?_push_of_some _ (Heap.get?_push_of_some _ e))))
  exact callType_newKw F.called_zip (by decide) (typeCall_zipK _ _ _) (newCall_zipK _ _ _) (fun obj => args_initK obj _ _ _) F.entry_zip_new (meets_zip_newS B1 B2) ⟨⟨h1, h2⟩, fin _ rfl rfl⟩
end
end PySem

namespace DL
open PySem PySem.W PySem.Spec PyProof.Rows L2
/-! ### lists and tuples alike -/
inductive SK where
  | l | t
def SqK (K : PySem.W.Frag) (H : Hp) (a : Addr) (xs : List V) : SK → Prop
  | .l => SqL K H a xs
  | .t => SqT K H a xs
def IsK (h : Heap) (a : Addr) (its : Array Value) : SK → Prop
  | .l => h.IsList a its
  | .t => h.IsTuple a its
def ItK (h : Heap) (it a : Addr) (i : Nat) : SK → Prop
  | .l => h.IsListIter it a i
  | .t => h.IsTupleIter it a i
def objK (a : Addr) : SK → Obj
  | .l => { cls := .type "list_iterator", data := .fields #[.ref a, .int 0 0] }
  | .t => { cls := .type "tuple_iterator", data := .fields #[.ref a, .int 0 0] }
theorem SqK.mono {K : PySem.W.Frag} {H H' : Hp} {a : Addr} {xs : List V} {k : SK} (e : Same H H') (h : SqK K H a xs k) : SqK K H' a xs k := by
  cases k with
  | l => exact L2.Same.seq e h
  | t => exact Same.sqT e h
section
variable {X : Cx} {pins : List (Addr × Obj)} {σ : L2.St} {H : Hp} {s : Shared} {a : Addr} {xs ys : List V} {k : SK}
theorem inv_K (I : L2.Inv X pins σ H s) (h : SqK X.K H a xs k) : ∃ its : List Value, Vals xs its ∧ IsK s.heap a its.toArray k ∧ a < s.heap.objs.size := by
  cases k with
  | l =>
    obtain ⟨its, r, p, _⟩ := I.list h
    exact ⟨its, r, p.isList, p.lt⟩
  | t =>
    obtain ⟨its, r, p, _⟩ := I.tuple h
    exact ⟨its, r, (show s.heap.IsTuple a its.toArray from p), p.lt⟩
theorem inv_K_inj (I : L2.Inv X pins σ H s) (h : SqK X.K H a xs k) (h' : SqK X.K H a ys k) : xs = ys := by
  cases k with
  | l => exact I.list_inj h h'
  | t => exact I.tuple_inj h h'
end
theorem drawsK {prog : Program} {w : World} {A : Around} (hh : A.handled = none) (it a : Addr) (hne : a ≠ it) (its : Array Value) : ∀ k : SK,
    Draws prog w A it [it, a] its.size (fun i v => its[i]? = some v) (fun i h => ItK h it a i k ∧ IsK h a its k)
  | .l => Draws.list hh it a hne its
  | .t => Draws.tuple hh it a hne its
theorem beginsK (a : Addr) (its : Array Value) : ∀ k : SK, Begins (.ref a) (objK a k) (fun h => IsK h a its k)
  | .l => begins_list a its
  | .t => begins_tuple a its
theorem ItK.obj {h : Heap} {it a : Addr} {i : Nat} : ∀ {k : SK}, ItK h it a i k → ∃ o, h.get? it = some o ∧ ∀ v, o.data ≠ .cell v
  | .l, x => by
    obtain ⟨o, e, c, d⟩ := x
    exact ⟨o, e, fun v z => by rw [d] at z; cases z⟩
  | .t, x => by
    obtain ⟨o, e, c, d⟩ := x
    exact ⟨o, e, fun v z => by rw [d] at z; cases z⟩
theorem ItK.at {h h' : Heap} {it a : Addr} {i : Nat} (e : ∀ o, h.get? it = some o → h'.get? it = some o) : ∀ {k : SK}, ItK h it a i k → ItK h' it a i k
  | .l, x => Heap.IsListIter.at x e
  | .t, x => Heap.IsTupleIter.at x e
theorem ItK.start {h : Heap} {it a : Addr} : ∀ {k : SK}, h.get? it = some (objK a k) → ItK h it a 0 k
  | .l, e => ⟨_, e, rfl, rfl⟩
  | .t, e => ⟨_, e, rfl, rfl⟩
/-- a walk that gives new tuples, as HandS wants it -/
theorem turn_of {P : Program} {w : World} {K : PySem.W.Frag} {elts : List Expr} {kk : Nat} {tpos : Pos} {J : It} {fp : List Addr} {it : Addr} {tn : Nat → Heap → Prop}
    (mem : it ∈ fp) (obj : ∀ i h, tn i h → ∀ b ∈ fp, ∃ o, h.get? b = some o ∧ ∀ v, o.data ≠ .cell v) (keep : ∀ i h h', tn i h → (∀ b ∈ fp, ∀ o, h.get? b = some o → h'.get? b = some o) → tn i h')
    (self : ∀ (A : Around) (i : Nat) (s : Shared) (Q : Value → Shared → Prop) (E : Value → Shared → Prop), tn i s.heap → Q (.ref it) s → wpAny (model P w) A (pyIter (.ref it)) Q E s)
    (step : ∀ (X : Cx), X.prog = P → X.w = w → X.K = K → X.A.handled = none → ∀ (i : Nat) (pins : List (Addr × Obj)) (s : Shared) (σ : L2.St) (H : Hp), L2.Inv X pins σ H s → tn i s.heap → J.go i H →
      ∃ fpw wr n Pt St Mid, WalksT P w X.A it fpw wr n Pt St Mid ∧ St i s.heap ∧ i < n ∧ (∀ b ∈ wr, b ∈ fp) ∧ (∀ vals, Pt i vals → vals.size ≤ sizeLine ∧ ∃ xs, Vals xs vals.toList ∧ ∀ T, H T = none → J.yld i H (.ref T) (upd H T (.tup xs))) ∧ ∀ h', St (i + 1) h' → tn (i + 1) h')
    (fin : ∀ (X : Cx), X.prog = P → X.w = w → X.K = K → X.A.handled = none → ∀ (i : Nat) (pins : List (Addr × Obj)) (s : Shared) (σ : L2.St) (H : Hp), L2.Inv X pins σ H s → tn i s.heap → J.stop i H →
      ∃ fpw wr Pt St Mid, WalksT P w X.A it fpw wr i Pt St Mid ∧ St i s.heap ∧ ∀ b ∈ wr, b ∈ fp) : Turn P w K (.Tuple elts kk tpos) J fp it tn where
  mem := mem
  obj := obj
  keep := keep
  item := by
    intro X hP hw hK hc i pins s σ H E I hf st hg
    obtain ⟨fpw, wr, n, Pt, St, Mid, W, st0, hi, sub, hy, nxt⟩ := step X hP hw hK (I.ok.hd hc) i pins s σ H I st hg
    subst hP hw hK
    refine W.item i s _ _ hi st0 fun T vals h' tk pt hT tup mid hk => ?_
    obtain ⟨hz, xs, rv, yld⟩ := hy vals pt
    have hn : H T = none := I.hok.fresh hT
    refine ⟨_, rfl, W.go elts kk tpos i T { s with heap := h', toks := tk } _ _ mid fun h2 st2 hk2 => ?_⟩
    have hT2 : h2.IsTuple T vals := by
      obtain ⟨o, e, r⟩ := tup
      exact ⟨o, hk2 T o (W.apart i T h' mid) e, r⟩
    have new : ObjOk X.prog X.w (upd H T (.tup xs)) h2 T (.tup xs) := ⟨by rw [rv.length, Array.length_toList]; exact hz, vals.toList, rv, by rw [show vals.toList.toArray = vals by simp]; exact hT2⟩
    have I1 : L2.Inv X pins σ (upd H T (.tup xs)) { s with heap := h2, toks := tk } :=
      I.turnedNew (ch := fp) (fun b o hb e => hk2 b o (fun z => hb (sub b z)) (hk b o (fun z => hb (sub b z)) e)) hf hT new
    refine ⟨.ref T, _, I1, rfl, yld T hn, nxt _ st2, fun b hb => ?_⟩
    obtain ⟨o, e, _⟩ := obj i s.heap st b hb
    rw [upd_ne (Nat.ne_of_lt (Nat.lt_of_lt_of_le (Heap.lt_size e) hT))]
    exact (hf b hb).1
  done := by
    intro X hP hw hK hc i pins s σ H E I hf st hg
    obtain ⟨fpw, wr, Pt, St, Mid, W, st0, sub⟩ := fin X hP hw hK (I.ok.hd hc) i pins s σ H I st hg
    subst hP hw hK
    exact W.done s _ _ st0 fun h' tk hk => ⟨rfl, I.turnedL (ch := fp) (fun b o hb e => hk b o (fun z => hb (sub b z)) e) hf⟩
  self := self
/-! ### zip of two -/
/-- strict: both end together -/
def ItZ (K : PySem.W.Frag) (b : Bool) (k1 k2 : SK) (a c : Addr) : It :=
  ⟨fun i H => ∃ xs ys, SqK K H a xs k1 ∧ SqK K H c ys k2 ∧ i < xs.length ∧ i < ys.length ∧ (b = true → xs.length = ys.length),
   fun i H v H' => ∃ T x y, v = .ref T ∧ H T = none ∧ H' = upd H T (.tup [x, y]) ∧ (∀ xs, SqK K H a xs k1 → xs[i]? = some x) ∧ ∀ ys, SqK K H c ys k2 → ys[i]? = some y,
   fun i H => ∃ xs ys, SqK K H a xs k1 ∧ SqK K H c ys k2 ∧ i ≤ xs.length ∧ i ≤ ys.length ∧ (i = xs.length ∨ i = ys.length) ∧ (b = true → xs.length = ys.length)⟩
theorem isZip_false {h : Heap} {z TI TO : Addr} {own : Value} : IsZipB false h z TI TO own = IsZip h z TI TO own := rfl
theorem turn_Z {P : Program} {w : World} {K : PySem.W.Frag} {elts : List Expr} {kk : Nat} {tpos : Pos} {b : Bool} {k1 k2 : SK} {a c z TI TO i1 i2 : Addr} (S : ZipSep2 z TI TO i1 i2 [i1, a] [i2, c]) (n1 : a ≠ i1) (n2 : c ≠ i2) :
    Turn P w K (.Tuple elts kk tpos) (ItZ K b k1 k2 a c) [z, TI, TO, i1, i2] z (fun i h => IsZipB b h z TI TO .none ∧ IsTupOf2 h TI (.ref i1) (.ref i2) ∧ (∃ x y, IsTupOf2 h TO x y) ∧ ItK h i1 a i k1 ∧ ItK h i2 c i k2) := by
  refine turn_of (by simp) ?_ ?_ ?_ ?_ ?_
  · rintro i h ⟨hz, hTI, ⟨x, y, hTO⟩, h1, h2⟩ d hd
    simp only [List.mem_cons, List.not_mem_nil, or_false] at hd
    rcases hd with rfl | rfl | rfl | rfl | rfl
    · exact ⟨_, hz, fun v q => nomatch q⟩
    · exact ⟨_, hTI, fun v q => nomatch q⟩
    · exact ⟨_, hTO, fun v q => nomatch q⟩
    · exact h1.obj
    · exact h2.obj
  · rintro i h h' ⟨hz, hTI, ⟨x, y, hTO⟩, h1, h2⟩ k
    exact ⟨k z (by simp) _ hz, k TI (by simp) _ hTI, ⟨x, y, k TO (by simp) _ hTO⟩, h1.at fun o q => k i1 (by simp) o q, h2.at fun o q => k i2 (by simp) o q⟩
  · intro A i s Q E st h
    exact zipB_iter st.1 h
  · intro X hP hw hK hh i pins s σ H I st hg
    subst hP hw hK
    obtain ⟨xs, ys, q1, q2, l1, l2, hb⟩ := hg
    obtain ⟨its, rv, p, _⟩ := inv_K I q1
    obtain ⟨its2, rv2, p2, _⟩ := inv_K I q2
    obtain ⟨hz, hTI, ho, h1, h2⟩ := st
    have D1 := drawsK (prog := X.prog) (w := X.w) (A := X.A.in1) hh i1 a n1 its.toArray k1
    have D2 := drawsK (prog := X.prog) (w := X.w) (A := X.A.in1) hh i2 c n2 its2.toArray k2
    have e1 : its.toArray.size = xs.length := by rw [List.size_toArray]; exact rv.length.symm
    have e2 : its2.toArray.size = ys.length := by rw [List.size_toArray]; exact rv2.length.symm
    have hy : ∀ vals : Array Value, (∃ x y, its.toArray[i]? = some x ∧ its2.toArray[i]? = some y ∧ vals = #[x, y]) → vals.size ≤ sizeLine ∧ ∃ zs, Vals zs vals.toList ∧ ∀ T, H T = none → (ItZ X.K b k1 k2 a c).yld i H (.ref T) (upd H T (.tup zs)) := by
      rintro vals ⟨x, y, gx, gy, rfl⟩
      refine ⟨by show 2 ≤ sizeLine; decide, ?_⟩
      have gx' : its[i]? = some x := by simpa using gx
      have gy' : its2[i]? = some y := by simpa using gy
      have hx : ∃ v, xs[i]? = some v ∧ RelV v x := by
        obtain ⟨u, hu, ru⟩ := rv.get (List.getElem?_eq_getElem l1)
        rw [gx'] at hu
        cases hu
        exact ⟨_, List.getElem?_eq_getElem l1, ru⟩
      have hyy : ∃ v, ys[i]? = some v ∧ RelV v y := by
        obtain ⟨u, hu, ru⟩ := rv2.get (List.getElem?_eq_getElem l2)
        rw [gy'] at hu
        cases hu
        exact ⟨_, List.getElem?_eq_getElem l2, ru⟩
      obtain ⟨v1, a1, a2⟩ := hx
      obtain ⟨v2, b1, b2⟩ := hyy
      exact ⟨[v1, v2], .cons a2 (.cons b2 .nil), fun T hT => ⟨T, v1, v2, rfl, hT, rfl, fun zs hz => by rw [inv_K_inj I hz q1]; exact a1, fun zs hz => by rw [inv_K_inj I hz q2]; exact b1⟩⟩
    have sub : ∀ d ∈ [z, TO, i1, i2], d ∈ [z, TI, TO, i1, i2] := fun d hd => by
      simp only [List.mem_cons, List.not_mem_nil, or_false] at hd ⊢
      rcases hd with r | r | r | r
      · exact .inl r
      · exact .inr (.inr (.inl r))
      · exact .inr (.inr (.inr (.inl r)))
      · exact .inr (.inr (.inr (.inr r)))
    cases b with
    | false =>
      refine ⟨_, _, _, _, _, _, WalksT.zipD2 (A := X.A) S D1 D2, ⟨hz, hTI, ho, ⟨h1, p⟩, ⟨h2, p2⟩⟩, by omega, sub, fun vals hv => hy vals ?_, fun h' st' => ⟨st'.1, st'.2.1, st'.2.2.1, st'.2.2.2.1.1, st'.2.2.2.2.1⟩⟩
      exact hv
    | true =>
      have e3 : its2.toArray.size = its.toArray.size := by rw [e1, e2, hb rfl]
      rw [e3] at D2
      exact ⟨_, _, _, _, _, _, WalksT.zipS (A := X.A) hh S D1 D2, ⟨hz, hTI, ho, ⟨h1, p⟩, ⟨h2, p2⟩⟩, by omega, sub, hy, fun h' st' => ⟨st'.1, st'.2.1, st'.2.2.1, st'.2.2.2.1.1, st'.2.2.2.2.1⟩⟩
  · intro X hP hw hK hh i pins s σ H I st hg
    subst hP hw hK
    obtain ⟨xs, ys, q1, q2, l1, l2, le, hb⟩ := hg
    obtain ⟨its, rv, p, _⟩ := inv_K I q1
    obtain ⟨its2, rv2, p2, _⟩ := inv_K I q2
    obtain ⟨hz, hTI, ho, h1, h2⟩ := st
    have D1 := drawsK (prog := X.prog) (w := X.w) (A := X.A.in1) hh i1 a n1 its.toArray k1
    have D2 := drawsK (prog := X.prog) (w := X.w) (A := X.A.in1) hh i2 c n2 its2.toArray k2
    have e1 : its.toArray.size = xs.length := by rw [List.size_toArray]; exact rv.length.symm
    have e2 : its2.toArray.size = ys.length := by rw [List.size_toArray]; exact rv2.length.symm
    have sub : ∀ d ∈ [z, TO, i1, i2], d ∈ [z, TI, TO, i1, i2] := fun d hd => by
      simp only [List.mem_cons, List.not_mem_nil, or_false] at hd ⊢
      rcases hd with r | r | r | r
      · exact .inl r
      · exact .inr (.inr (.inl r))
      · exact .inr (.inr (.inr (.inl r)))
      · exact .inr (.inr (.inr (.inr r)))
    cases b with
    | false =>
      have W := WalksT.zipD2 (A := X.A) S D1 D2
      have en : min its.toArray.size its2.toArray.size = i := by omega
      rw [en] at W
      exact ⟨_, _, _, _, _, W, ⟨hz, hTI, ho, ⟨h1, p⟩, ⟨h2, p2⟩⟩, sub⟩
    | true =>
      have hb := hb rfl
      have e3 : its.toArray.size = i := by omega
      have e4 : its2.toArray.size = i := by omega
      rw [e3] at D1
      rw [e4] at D2
      exact ⟨_, _, _, _, _, WalksT.zipS (A := X.A) hh S D1 D2, ⟨hz, hTI, ho, ⟨h1, p⟩, ⟨h2, p2⟩⟩, sub⟩
/-! ### enumerate -/
def ItE (K : PySem.W.Frag) (k : SK) (a : Addr) : It :=
  ⟨fun i H => ∃ xs, SqK K H a xs k ∧ i < xs.length,
   fun i H v H' => ∃ T x, v = .ref T ∧ H T = none ∧ H' = upd H T (.tup [.int (i : Nat), x]) ∧ ∀ xs, SqK K H a xs k → xs[i]? = some x,
   fun i H => ∃ xs, SqK K H a xs k ∧ i = xs.length⟩
theorem turn_E {P : Program} {w : World} {K : PySem.W.Frag} {elts : List Expr} {kk : Nat} {tpos : Pos} {k : SK} {a e it : Addr} (n1 : a ≠ it) (n2 : e ≠ it) (n3 : e ≠ a) :
    Turn P w K (.Tuple elts kk tpos) (ItE K k a) [e, it] e (fun i h => (∃ old, IsEnum h e it (0 + (i : Int)) old) ∧ ItK h it a i k) := by
  have hef : e ∉ [it, a] := by
    simp only [List.mem_cons, List.not_mem_nil, or_false, not_or]
    exact ⟨n2, n3⟩
  refine turn_of (by simp) ?_ ?_ ?_ ?_ ?_
  · rintro i h ⟨⟨old, he⟩, h1⟩ d hd
    simp only [List.mem_cons, List.not_mem_nil, or_false] at hd
    rcases hd with rfl | rfl
    · exact ⟨_, he, fun v q => nomatch q⟩
    · exact h1.obj
  · rintro i h h' ⟨⟨old, he⟩, h1⟩ q
    exact ⟨⟨old, q e (by simp) _ he⟩, h1.at fun o r => q it (by simp) o r⟩
  · rintro A i s Q E ⟨⟨old, he⟩, h1⟩ h
    exact wpAny_pyIter_enum he h
  · intro X hP hw hK hh i pins s σ H I st hg
    subst hP hw hK
    obtain ⟨xs, q1, l1⟩ := hg
    obtain ⟨its, rv, p, _⟩ := inv_K I q1
    have D1 := drawsK (prog := X.prog) (w := X.w) (A := X.A.in1) hh it a n1 its.toArray k
    have e1 : its.toArray.size = xs.length := by rw [List.size_toArray]; exact rv.length.symm
    refine ⟨_, _, _, _, _, _, WalksT.enumFrom (A := X.A) 0 D1 e n2 hef (by simp), ⟨st.1, st.2, p⟩, by omega, fun d hd => by simpa using hd, ?_, fun h' st' => ⟨st'.1, st'.2.1⟩⟩
    rintro vals ⟨t, x, gx, rfl⟩
    have gx' : its[i]? = some x := by simpa using gx
    obtain ⟨u, hu, ru⟩ := rv.get (List.getElem?_eq_getElem l1)
    rw [gx'] at hu
    cases hu
    refine ⟨by show 2 ≤ sizeLine; decide, [.int (i : Nat), _], .cons ⟨t, by rw [Int.zero_add]⟩ (.cons ru .nil), fun T hT => ⟨T, _, rfl, hT, rfl, fun zs hz => ?_⟩⟩
    rw [inv_K_inj I hz q1]
    exact List.getElem?_eq_getElem l1
  · intro X hP hw hK hh i pins s σ H I st hg
    subst hP hw hK
    obtain ⟨xs, q1, l1⟩ := hg
    obtain ⟨its, rv, p, _⟩ := inv_K I q1
    have D1 := drawsK (prog := X.prog) (w := X.w) (A := X.A.in1) hh it a n1 its.toArray k
    have e1 : its.toArray.size = i := by rw [List.size_toArray, l1]; exact rv.length.symm
    rw [e1] at D1
    exact ⟨_, _, _, _, _, WalksT.enumFrom (A := X.A) 0 D1 e n2 hef (by simp), ⟨st.1, st.2, p⟩, fun d hd => by simpa using hd⟩
end DL

namespace DL
open PySem PySem.W PySem.Spec PyProof.Rows L2
/-! ### what a walk yields, as data -/
def rI (K : PySem.W.Frag) (H : Hp) (ow : Ow) (ds : List D) (J : It) : Prop :=
  ∀ H' ow', Ext H ow H' ow' → (∀ b, ow' b ≠ .out → H' b ≠ none) →
    (∀ i d, ds[i]? = some d → J.go i H' ∧ ∀ x H'', J.yld i H' x H'' → ∃ ow'', Step H' ow' H'' ow'' ∧ Rp K (Fz H'' ow'') x d) ∧ J.stop ds.length H'
theorem rI.ext {K : PySem.W.Frag} {H H1 : Hp} {ow ow1 : Ow} {ds : List D} {J : It} (e : Ext H ow H1 ow1) (h : rI K H ow ds J) : rI K H1 ow1 ds J := fun H' ow' e' d => h H' ow' (e.trans e') d
def DI (X : Cx) (tg e : Expr) (m : M (List D)) : Prop := PI X tg e (tM X.K (rI X.K) m)
theorem di_stuck {X : Cx} {tg e : Expr} : DI X tg e stuck := ⟨fun pins s σ H Q I ⟨ow, en, s, g⟩ => g.stuck_.elim⟩
/-- the things of a value -/
def seqB : B → M (List D)
  | .val (.list ds) => ret ds
  | .val (.tuple ds) => ret ds
  | .lst ds => ret ds
  | .scr ns => ret (ns.map .int)
  | _ => stuck
/-- a list or a tuple that stays as it is -/
def SqE (K : PySem.W.Frag) (F : Hp) (v : V) (ds : List D) : Prop := ∃ a xs k, v = .ref a ∧ SqK K F a xs k ∧ RpAll K F xs ds
theorem rp_scr {K : PySem.W.Frag} {F : Hp} : ∀ {ns : List Int}, RpAll K F (ns.map V.int) (ns.map PyData.int)
  | [] => .nil
  | n :: ns => .cons (.int n) rp_scr
theorem seqB_ok {K : PySem.W.Frag} {H : Hp} {ow : Ow} {σ : L2.St} {en : Env} {b : B} {v : V} {Q : It → Hp → Prop} {J : V → It → Prop} (s : Sta K H ow σ en) (r : BRep K H ow none b v) {α β : Type} {rep : Hp → Ow → α → β → Prop} {f : List D → M α} {R : β → Hp → Prop}
    (g : Go K rep σ (bd (seqB b) f en) H ow R) : ∃ ow' ds, Step H ow H ow' ∧ SqE K (Fz H ow') v ds ∧ Sta K H ow' σ en ∧ Go K rep σ (f ds en) H ow' R := by
  unfold bd at g
  cases b with
  | val d =>
    cases d <;> first
      | (obtain ⟨_, _, z, _⟩ := g; cases z)
      | skip
    · rename_i ds
      obtain ⟨a, xs, rfl, h1, h2⟩ := rp_lst (show Rp K (Fz H ow) v _ from r)
      exact ⟨ow, ds, .refl s.dom, ⟨a, xs, .l, rfl, SqL.of h1, h2⟩, s, g⟩
    · rename_i ds
      obtain ⟨a, xs, rfl, h1, h2⟩ := rp_tup (show Rp K (Fz H ow) v _ from r)
      exact ⟨ow, ds, .refl s.dom, ⟨a, xs, .t, rfl, h1, h2⟩, s, g⟩
  | lst ds =>
    obtain ⟨a, vs, rfl, h1, h2, h3⟩ := r
    have st := Step.frz s.dom h1
    exact ⟨_, ds, st, ⟨a, vs, .l, rfl, SqL.of ((res_at setL_same).trans h2), RpAll.mono st.ext.fz h3⟩, st.sta s, g.mono st.ext⟩
  | scr ns =>
    obtain ⟨a, rfl, h1⟩ := r
    exact ⟨ow, ns.map .int, .refl s.dom, ⟨a, _, .l, rfl, h1, rp_scr⟩, s, g⟩
  | ins c fs => obtain ⟨_, _, z, _⟩ := g; cases z
  | dk c => obtain ⟨_, _, z, _⟩ := g; cases z
  | dt c => obtain ⟨_, _, z, _⟩ := g; cases z
/-- walks over one list or tuple -/
theorem rI_list {K : PySem.W.Frag} {H : Hp} {ow : Ow} {a : Addr} {xs : List V} {ds : List D} (h : SqL K (Fz H ow) a xs) (r : RpAll K (Fz H ow) xs ds) : rI K H ow ds (Itl K a) := fun H' ow' e dm => by
  have q : SqL K H' a xs := L2.Same.seq res_sub (L2.Same.seq e.fz h)
  refine ⟨fun i d hd => ?_, xs, q, by rw [r.length]; exact Nat.le_refl _⟩
  obtain ⟨v, hv, rv⟩ := r.get hd
  refine ⟨⟨xs, v, q, hv⟩, fun x H'' y => ?_⟩
  obtain ⟨rfl, y⟩ := y
  have := y xs q
  rw [hv] at this
  cases this
  exact ⟨ow', .refl dm, Rp.mono e.fz rv⟩
theorem rI_tup {K : PySem.W.Frag} {H : Hp} {ow : Ow} {a : Addr} {xs : List V} {ds : List D} (h : SqT K (Fz H ow) a xs) (r : RpAll K (Fz H ow) xs ds) : rI K H ow ds (Itt K a) := fun H' ow' e dm => by
  have q : SqT K H' a xs := Same.sqT res_sub (Same.sqT e.fz h)
  refine ⟨fun i d hd => ?_, xs, q, by rw [r.length]; exact Nat.le_refl _⟩
  obtain ⟨v, hv, rv⟩ := r.get hd
  refine ⟨⟨xs, v, q, hv⟩, fun x H'' y => ?_⟩
  obtain ⟨rfl, y⟩ := y
  have := y xs q
  rw [hv] at this
  cases this
  exact ⟨ow', .refl dm, Rp.mono e.fz rv⟩
def iSq (K : PySem.W.Frag) (te : TE) : TI := fun σ H R => te σ H fun x H1 => ∃ a, x = .ref a ∧ (((∃ xs, SqL K H1 a xs) ∧ R (Itl K a) H1) ∨ ((∃ xs, SqT K H1 a xs) ∧ R (Itt K a) H1))
theorem pi_sq {X : Cx} {tg l : Expr} {tl : TE} (hl : PE X l tl) : PI X tg l (iSq X.K tl) := by
  refine ⟨fun pins s σ H R I h => ?_⟩
  refine thn (hl.run pins s σ H _ I h) fun v s1 ⟨x, H1, I1, r1, q1⟩ => ?_
  obtain ⟨a, e, q⟩ := q1
  subst e
  cases r1
  rcases q with ⟨⟨xs, hq⟩, q⟩ | ⟨⟨xs, hq⟩, q⟩
  · obtain ⟨its, rv, p, hz⟩ := I1.list hq
    refine wpAny_pyIter_list p.isList ?_
    refine ⟨s1.heap.objs.size, [s1.heap.objs.size], _, _, H1, rfl, I1.kept (t' := s1.toks) fun b o e => Heap.get?_push_of_some _ e, turn_list a _, ⟨_, Heap.get?_push_size _ rfl, rfl, rfl⟩, fun b hb => ?_, q⟩
    have e : b = s1.heap.objs.size := by simpa using hb
    subst e
    exact I1.fpOk (Nat.le_refl _) (I1.hok.fresh (Nat.le_refl _))
  · obtain ⟨its, rv, p, hz⟩ := I1.tuple hq
    refine wpAny_pyIter_tuple (show s1.heap.IsTuple a its.toArray from p) ?_
    refine ⟨s1.heap.objs.size, [s1.heap.objs.size], _, _, H1, rfl, I1.kept (t' := s1.toks) fun b o e => Heap.get?_push_of_some _ e, turn_tuple a _, ⟨_, Heap.get?_push_size _ rfl, rfl, rfl⟩, fun b hb => ?_, q⟩
    have e : b = s1.heap.objs.size := by simpa using hb
    subst e
    exact I1.fpOk (Nat.le_refl _) (I1.hok.fresh (Nat.le_refl _))
/-- one step ahead, then data -/
theorem Go.seqB {K : PySem.W.Frag} {σ : L2.St} {H : Hp} {ow : Ow} {en : Env} {m : M B} {α β : Type} {rep : Hp → Ow → α → β → Prop} {f : List D → M α} {R : β → Hp → Prop} (s : Sta K H ow σ en) (g : Go K rep σ (bd m (fun b => bd (seqB b) f) en) H ow R) :
    tM K (rB K) m σ H fun x H1 => ∃ ow1 en1 ds, Sta K H1 ow1 σ en1 ∧ SqE K (Fz H1 ow1) x ds ∧ Go K rep σ (f ds en1) H1 ow1 R := by
  refine ⟨ow, en, s, ?_⟩
  obtain ⟨b, en', h1, h2⟩ := g.bind (rep2 := rB K)
  refine ⟨b, en', h1, fun H1 ow1 x x1 s1 q1 => ?_⟩
  obtain ⟨ow1', en1, b', x2, s2, q2, g2⟩ := h2 H1 ow1 x x1 s1 q1
  obtain ⟨ow3, ds, st, sq, s3, g3⟩ := seqB_ok (Q := fun _ _ => True) (J := fun _ _ => True) s2 q2 g2
  exact ⟨ow3, en1, ds, s3, sq, g3⟩
theorem di_seq {X : Cx} {tg e : Expr} {m : M B} (h : DE X e m) : DI X tg e (bd m seqB) := by
  refine PI.of (pi_sq h) fun σ H Q ⟨ow, en, s, g⟩ => ?_
  have g' : Go X.K (rI X.K) σ (bd m (fun b => bd (seqB b) ret) en) H ow Q := by
    obtain ⟨a, en', h1, h2⟩ := g
    refine ⟨a, en', ?_, h2⟩
    rw [← h1]
    unfold bd
    cases m en with
    | none => rfl
    | some p =>
      obtain ⟨b, e1⟩ := p
      dsimp only
      cases seqB b e1 with
      | none => rfl
      | some q => rfl
  obtain ⟨ow1, en1, s1, b, en2, h1, h2⟩ := g'.seqB s
  refine ⟨ow1, en1, s1, b, en2, h1, fun H1 ow2 x e1 s2 q => ?_⟩
  obtain ⟨ow3, en3, ds, s3, ⟨a, xs, k, rfl, sq, r⟩, g3⟩ := h2 H1 ow2 x e1 s2 q
  refine ⟨a, rfl, ?_⟩
  cases k with
  | l => exact .inl ⟨⟨xs, L2.Same.seq res_sub sq⟩, g3.ret_ (.refl _ _) s3 (rI_list sq r)⟩
  | t => exact .inr ⟨⟨xs, Same.sqT res_sub sq⟩, g3.ret_ (.refl _ _) s3 (rI_tup sq r)⟩
/-! ### range -/
def small62 (i : Int) : Bool := decide (-(2 ^ 62) ≤ i) && decide (i < 2 ^ 62)
theorem small62_ok {i : Int} (h : small62 i = true) : -(2 ^ 62) ≤ i ∧ i < 2 ^ 62 := by
  unfold small62 at h
  rw [Bool.and_eq_true, decide_eq_true_eq, decide_eq_true_eq] at h
  exact h
def rangeD (lo : Int) (n : Nat) : List D := (List.range n).map fun i => .int (lo + (i : Nat))
def rangeM1 : List D → M (List D)
  | [.int j] => if small62 j = true then ret (rangeD 0 j.toNat) else stuck
  | _ => stuck
def rangeM2 : List D → M (List D)
  | [.int i, .int j] => if (small62 i && small62 j) = true then ret (rangeD i (j - i).toNat) else stuck
  | _ => stuck
theorem rI_range {K : PySem.W.Frag} {H : Hp} {ow : Ow} {lo : Int} {n : Nat} : rI K H ow (rangeD lo n) (Itr lo n) := fun H' ow' e dm => by
  refine ⟨fun i d hd => ?_, by unfold rangeD; rw [List.length_map, List.length_range]; exact Nat.le_refl n⟩
  unfold rangeD at hd
  rw [List.getElem?_map] at hd
  cases q : (List.range n)[i]? with
  | none => rw [q] at hd; cases hd
  | some j =>
    rw [q] at hd
    obtain ⟨hj, e⟩ := List.getElem?_eq_some_iff.mp q
    rw [List.getElem_range] at e
    subst e
    rw [List.length_range] at hj
    cases hd
    refine ⟨hj, fun x H'' y => ?_⟩
    obtain ⟨rfl, rfl⟩ := y
    exact ⟨ow', .refl dm, .int _⟩
section
variable {X : Cx} {tg : Expr} {p pos : Pos}
theorem di_range1 {a : Expr} {m : M (List D)} (hg : Gl X "range") (hm : X.mg "range" = none) (ha : DA X [a] m) (hs : starEach [a] X.env = [(false, eval a X.env)]) : DI X tg (.Call (.Name "range" p) [a] [] pos) (bd m rangeM1) := by
  refine PI.of (pi_range1 hg hm ha hs) fun σ H Q ⟨ow, en, st, g⟩ => ?_
  obtain ⟨ds, en', h1, h2⟩ := g.bind (rep2 := rDs X.K)
  refine ⟨ow, en, st, ds, en', h1, fun H' ow' vs x s' q => ?_⟩
  obtain ⟨ow1, en1, c, x1, s1, q1, g1⟩ := h2 H' ow' vs x s' q
  unfold rangeM1 at g1
  split at g1
  · split at g1
    · rename_i j hj
      have := small62_ok hj
      have e : vs = [.int j] := rpAll_ints (ns := [j]) q1
      exact ⟨j, e, this.1, this.2, g1.ret_ (.refl _ _) s1 rI_range⟩
    · exact g1.stuck_.elim
  · exact g1.stuck_.elim
theorem di_range2 {a b : Expr} {m : M (List D)} (hg : Gl X "range") (hm : X.mg "range" = none) (ha : DA X [a, b] m) (hs : starEach [a, b] X.env = [(false, eval a X.env), (false, eval b X.env)]) (hs2 : starEach [b] X.env = [(false, eval b X.env)]) : DI X tg (.Call (.Name "range" p) [a, b] [] pos) (bd m rangeM2) := by
  refine PI.of (pi_range2 hg hm ha hs hs2) fun σ H Q ⟨ow, en, st, g⟩ => ?_
  obtain ⟨ds, en', h1, h2⟩ := g.bind (rep2 := rDs X.K)
  refine ⟨ow, en, st, ds, en', h1, fun H' ow' vs x s' q => ?_⟩
  obtain ⟨ow1, en1, c, x1, s1, q1, g1⟩ := h2 H' ow' vs x s' q
  unfold rangeM2 at g1
  split at g1
  · split at g1
    · rename_i i j hj
      rw [Bool.and_eq_true] at hj
      have h3 := small62_ok hj.1
      have h4 := small62_ok hj.2
      have e : vs = [.int i, .int j] := rpAll_ints (ns := [i, j]) q1
      exact ⟨i, j, e, ⟨h3.1, h3.2, h4.1, h4.2⟩, g1.ret_ (.refl _ _) s1 rI_range⟩
    · exact g1.stuck_.elim
  · exact g1.stuck_.elim
/-! ### reversed -/
theorem rI_revL {K : PySem.W.Frag} {H : Hp} {ow : Ow} {a : Addr} {xs : List V} {ds : List D} (h : SqL K (Fz H ow) a xs) (r : RpAll K (Fz H ow) xs ds) : rI K H ow ds.reverse (Itv K a xs.length) := fun H' ow' e dm => by
  have q : SqL K H' a xs := L2.Same.seq res_sub (L2.Same.seq e.fz h)
  refine ⟨fun i d hd => ?_, by rw [List.length_reverse, ← r.length]; exact Nat.le_refl xs.length⟩
  have hl := r.length
  have hi : i < ds.length := by
    have := (List.getElem?_eq_some_iff.mp hd).1
    rwa [List.length_reverse] at this
  rw [List.getElem?_reverse hi] at hd
  obtain ⟨v, hv, rv⟩ := r.get hd
  rw [← hl] at hv
  refine ⟨⟨by omega, xs, v, q, hv⟩, fun x H'' y => ?_⟩
  obtain ⟨rfl, y⟩ := y
  have := y xs q
  rw [hv] at this
  cases this
  exact ⟨ow', .refl dm, Rp.mono e.fz rv⟩
theorem rI_revT {K : PySem.W.Frag} {H : Hp} {ow : Ow} {a : Addr} {xs : List V} {ds : List D} (h : SqT K (Fz H ow) a xs) (r : RpAll K (Fz H ow) xs ds) : rI K H ow ds.reverse (RT.ItvT K a xs.length) := fun H' ow' e dm => by
  have q : SqT K H' a xs := Same.sqT res_sub (Same.sqT e.fz h)
  refine ⟨fun i d hd => ?_, by rw [List.length_reverse, ← r.length]; exact Nat.le_refl xs.length⟩
  have hl := r.length
  have hi : i < ds.length := by
    have := (List.getElem?_eq_some_iff.mp hd).1
    rwa [List.length_reverse] at this
  rw [List.getElem?_reverse hi] at hd
  obtain ⟨v, hv, rv⟩ := r.get hd
  rw [← hl] at hv
  refine ⟨⟨by omega, xs, v, q, hv⟩, fun x H'' y => ?_⟩
  obtain ⟨rfl, y⟩ := y
  have := y xs q
  rw [hv] at this
  cases this
  exact ⟨ow', .refl dm, Rp.mono e.fz rv⟩
theorem di_rev {e : Expr} {m : M B} (hg : Gl X "reversed") (hm : X.mg "reversed" = none) (he : DE X e m) (hs : starEach [e] X.env = (false, eval e X.env) :: starEach [] X.env) : DI X tg (.Call (.Name "reversed" p) [e] [] pos) (bd m fun b => bd (seqB b) fun ds => ret ds.reverse) := by
  refine PI.of (RT.pi_revA hg hm he hs) fun σ H Q ⟨ow, en, s, g⟩ => ?_
  obtain ⟨ow1, en1, s1, b, en2, h1, h2⟩ := g.seqB s
  refine ⟨ow1, en1, s1, b, en2, h1, fun H1 ow2 x e1 s2 q => ?_⟩
  obtain ⟨ow3, en3, ds, s3, ⟨a, xs, k, rfl, sq, r⟩, g3⟩ := h2 H1 ow2 x e1 s2 q
  refine ⟨a, xs, rfl, ?_⟩
  cases k with
  | l => exact .inl ⟨L2.Same.seq res_sub sq, g3.ret_ (.refl _ _) s3 (rI_revL sq r)⟩
  | t => exact .inr ⟨Same.sqT res_sub sq, g3.ret_ (.refl _ _) s3 (rI_revT sq r)⟩
end
end DL

namespace DL
open PySem PySem.Spec PyProof.Rows
/-! ### list(..), tuple(..) of a reverse iterator -/
theorem nolen_rt : typeLookup (.type "reversed") "__len__" = pure none := by rw [typeLookup_type, builtinLookup_eq_fast]; kernel_rfl
theorem hint_rt : typeLookup (.type "reversed") "__length_hint__" = pure (some (.builtin "reversed.__length_hint__")) := by rw [typeLookup_type, builtinLookup_eq_fast]; kernel_rfl
def revT : SK → String
  | .l => "list_reverseiterator"
  | .t => "reversed"
def RevI (h : Heap) (it a : Addr) (i : Int) : SK → Prop
  | .l => h.IsRevIter it a i
  | .t => RT.IsRt h it a i
section
variable {prog : Program} {w : World} {A : Around} {E : Value → Shared → Prop} {s : Shared}
theorem RevI.typ {it a : Addr} {i : Int} : ∀ {k : SK}, RevI s.heap it a i k → s.TypeIs (.ref it) (revT k)
  | .l, x => Heap.IsRevIter.typeIs x
  | .t, x => RT.IsRt.typeIs x
theorem RevI.at {h h' : Heap} {it a : Addr} {i : Int} (e : ∀ o, h.get? it = some o → h'.get? it = some o) : ∀ {k : SK}, RevI h it a i k → RevI h' it a i k
  | .l, x => Heap.IsRevIter.at x e
  | .t, x => RT.IsRt.at x e
theorem iterR {it a : Addr} {i : Int} {Q : Value → Shared → Prop} (h : Q (.ref it) s) : ∀ {k : SK}, RevI s.heap it a i k → wpAny (model prog w) A (pyIter (.ref it)) Q E s
  | .l, x => wpAny_pyIter_revIter x h
  | .t, x => RT.iter_rt x h
theorem walksR (hh : A.handled = none) (it a : Addr) (hne : a ≠ it) (its : Array Value) (hz : its.size ≤ sizeLine) : ∀ k : SK,
    Walks prog w A it [it, a] [it] its.size (fun i v => its[its.size - 1 - i]? = some v) (fun i h => i ≤ its.size ∧ RevI h it a ((its.size : Int) - 1 - (i : Int)) k ∧ IsK h a its k)
  | .l => Walks.listRev hh it a hne its
  | .t =>
    { sub := fun b hb => by simp at hb; simp [hb]
      frame := fun _ _ _ x hk => ⟨x.1, RT.IsRt.at x.2.1 fun o e => hk it (by simp) o e, Heap.IsTuple.at x.2.2 fun o e => hk a (by simp) o e⟩
      item := fun i s Q E hi x hQ => by
        have e : (its.size : Int) - 1 - (i : Int) = ((its.size - 1 - i : Nat) : Int) := by omega
        have hit : RT.IsRt s.heap it a _ := x.2.1
        rw [e] at hit
        have hx : its[its.size - 1 - i]? = some (its[its.size - 1 - i]'(by omega)) := Array.getElem?_eq_getElem (by omega)
        refine RT.next_rt_item hit (show IsTup s.heap a its from x.2.2) hx hz fun h' hit' hs' => ?_
        have e2 : ((its.size - 1 - i : Nat) : Int) - 1 = (its.size : Int) - 1 - ((i + 1 : Nat) : Int) := by omega
        rw [e2] at hit'
        exact hQ _ h' (s.toks + 1) hx ⟨hi, hit', Heap.IsTuple.at x.2.2 fun o eo => (hs'.2 a hne).trans eo⟩ fun b o hb eo => hs'.extBut b o (fun h => hb (by simp [h])) eo
      done := fun s Q E x hQ => by
        have e : (its.size : Int) - 1 - (its.size : Int) = -1 := by omega
        have hit : RT.IsRt s.heap it a _ := x.2.1
        rw [e] at hit
        exact RT.next_rt_end hh hit fun h' he' => hQ h' s.toks fun b o hb eo => he' b o (fun h => hb (by simp [h])) eo
      self := fun _ _ _ _ x hQ => RT.iter_rt x.2.1 hQ }
theorem hintL {it : Addr} {Q : Bool → Shared → Prop} (hT : s.TypeIs (.ref it) "list_reverseiterator") (h : Q false s) : wpAny (model prog w) A (Builtin.List.listLengthHint (.ref it)) Q E s := by
  unfold Builtin.List.listLengthHint
  refine wpAny_bind (wpAny_specialOf hT RT.nolen_lri ?_)
  show wpAny _ _ (specialOf (Value.ref it) (Str.ofString "__length_hint__") >>= _) _ _ _
  refine wpAny_bind (wpAny_specialOf hT RT.hint_lri ?_)
  generalize hid : ("list_reverseiterator.__length_hint__" : String) = id0
  wp_delta
  rw [show splitId id0 = some ("list_reverseiterator", "__length_hint__") from by subst hid; decide +kernel]
  subst hid
  refine wpAny_bind (wpAny_isInstance (b := true) hT (by rw [isSubtype_type]; kernel_rfl) ?_)
  exact wpAny_pure h
theorem extend_revL {R : Result → Shared → Prop} {it a : Addr} {its : Array Value} (hh : A.handled = none) (hit : s.heap.IsRevIter it a ((its.size : Int) - 1)) (hl : s.heap.IsList a its) (hne : a ≠ it) (hz : its.size ≤ sizeLine) (S : Addr) (hSi : S ≠ it) (hSa : S ≠ a) (res : Value) (c₀ : Nat)
    (hS : s.heap.get? S = some { cls := .type "list", data := .seq #[] c₀ })
    (hR : ∀ h' tk acc' c', (∀ b o, b ≠ S → b ≠ it → s.heap.get? b = some o → h'.get? b = some o) → h'.get? S = some { cls := .type "list", dict := none, data := .seq acc' c', slots := #[] } →
      ItemsOf (fun i v => its[its.size - 1 - i]? = some v) acc' its.size → R (.ok (.ret res)) { s with heap := h', toks := tk }) :
    wpAny (model prog w) A.in1 (Builtin.List.listExtendWith (.ref S) (.ref it) res)
      (fun fin s' => match fin with | .done f => R (.ok f) s' | .again c' => c'.quiet = true ∧ codeAny (model prog w) A c' R s') (fun e s' => R (.error e) s') s := by
  have W := (Walks.listRev (prog := prog) (w := w) (A := A.in1) hh it a hne its).toS
  have hT : s.TypeIs (.ref it) "list_reverseiterator" := hit.typeIs
  have hSf : S ∉ [it, a] := by simp only [List.mem_cons, List.not_mem_nil, or_false, not_or]; exact ⟨hSi, hSa⟩
  have h1 : Builtin.List.listSameRef (.ref S) (.ref it) = false := by simp [Builtin.List.listSameRef, hSi]
  have h2 : (Value.type "list_reverseiterator" == Value.type "list") = false := by decide
  have h3 : (Value.type "list_reverseiterator" == Value.type "tuple") = false := by decide
  unfold Builtin.List.listExtendWith
  refine wpAny_bind (wpAny_typeOf hT ?_)
  simp only [h1, h2, h3, Bool.or_false, Bool.false_eq_true, if_false]
  refine wpAny_bind (wpAny_pyIter_revIter hit ?_)
  refine wpAny_bind (wpAny_holding (hintL hT ?_))
  rw [if_neg (by decide)]
  have e0 : ((its.size : Nat) : Int) - 1 - ((0 : Nat) : Int) = (its.size : Int) - 1 := by omega
  refine wpAny_pure ⟨plainId_quiet F.plain_extend_loop _, codeAny_extend_loopS W hz _ hSf _ its.size 0 _ _ _ rfl (Nat.zero_le _) ⟨Nat.zero_le _, by rw [e0]; exact hit, hl⟩ hS (ItemsOf.nil _) fun s' acc' c' hm hS' hacc => ?_⟩
  rw [Moved.eq_with hm]
  refine hR s'.heap s'.toks acc' c' (fun b o hb hb2 e => hm.heap b o (fun hmem => ?_) e) hS' hacc
  rcases List.mem_cons.mp hmem with e' | hmem
  · exact hb e'
  · exact hb2 (List.mem_singleton.mp hmem)
theorem init_revL {R : Result → Shared → Prop} {it a : Addr} {its : Array Value} (hh : A.handled = none) (hit : s.heap.IsRevIter it a ((its.size : Int) - 1)) (hl : s.heap.IsList a its) (hne : a ≠ it) (hz : its.size ≤ sizeLine) (S : Addr) (hSi : S ≠ it) (hSa : S ≠ a)
    (hS : s.heap.get? S = some { cls := .type "list", data := .seq #[] })
    (hR : ∀ h' tk acc' c', (∀ b o, b ≠ S → b ≠ it → s.heap.get? b = some o → h'.get? b = some o) → h'.get? S = some { cls := .type "list", dict := none, data := .seq acc' c', slots := #[] } →
      ItemsOf (fun i v => its[its.size - 1 - i]? = some v) acc' its.size → R (.ok (.ret .none)) { s with heap := h', toks := tk }) :
    wpAny (model prog w) A.in1 (Builtin.«list.__init__» ⟨[.ref S, .ref it], []⟩)
      (fun fin s' => match fin with | .done f => R (.ok f) s' | .again c' => c'.quiet = true ∧ codeAny (model prog w) A c' R s') (fun e s' => R (.error e) s') s := by
  show wpAny _ _ (do let old ← Builtin.List.listItems (.ref S); Builtin.List.listUpdate (.ref S) (fun _ => #[]); letGo old.toList.reverse; Builtin.List.listExtendWith (.ref S) (.ref it) .none) _ _ s
  refine wpAny_bind ?_
  unfold Builtin.List.listItems
  refine wpAny_bind (wpAny_seqItems hS rfl (wpAny_pure ?_))
  show wpAny _ _ (updateSeq S (fun _ => #[]) >>= fun _ => letGo (#[] : Array Value).toList.reverse >>= fun _ => Builtin.List.listExtendWith (.ref S) (.ref it) .none) _ _ s
  refine wpAny_bind (wpAny_updateSeq hS rfl ?_)
  have hS₂ := Heap.get?_update_self (Obj.mapSeq (fun _ => (#[] : Array Value))) hS rfl
  have oth : ∀ b o, b ≠ S → s.heap.get? b = some o → (s.heap.update S (Obj.mapSeq (fun _ => (#[] : Array Value)))).get? b = some o :=
    fun b o hb e => (Heap.get?_update_other _ _ (Ne.symm hb)).trans e
  refine wpAny_bind (wpAny_letGo ?_)
  refine extend_revL (s := { s with heap := s.heap.update S (Obj.mapSeq (fun _ => (#[] : Array Value))) }) hh (hit.at fun o e => oth it o (Ne.symm hSi) e) (hl.at fun o e => oth a o (Ne.symm hSa) e) hne hz S hSi hSa .none _ hS₂ fun h' tk acc' c' hk hS' hacc => ?_
  exact hR h' tk acc' c' (fun b o hb hb2 e => hk b o hb hb2 (oth b o hb e)) hS' hacc
theorem call_list_revL {it a : Addr} {its : Array Value} {Q : Value → Shared → Prop} (hh : A.handled = none) (hit : s.heap.IsRevIter it a ((its.size : Int) - 1)) (hl : s.heap.IsList a its) (hne : a ≠ it) (hz : its.size ≤ sizeLine)
    (hQ : ∀ h' tk acc' c', (∀ b o, b ≠ it → s.heap.get? b = some o → h'.get? b = some o) →
      h'.get? s.heap.objs.size = some { cls := .type "list", dict := none, data := .seq acc' c', slots := #[] } → ItemsOf (fun i v => its[its.size - 1 - i]? = some v) acc' its.size → Q (.ref s.heap.objs.size) { s with heap := h', toks := tk }) :
    wpAny (model prog w) A (call (.type "list") [.ref it]) Q E s := by
  refine callType_codes (Q₁ := fun obj s₁ => obj = .ref s.heap.objs.size ∧ s₁ = { s with heap := s.heap.push { cls := .type "list", data := .seq #[] } }) PySem.F.called_list (PySem.F.typeCall_list_1 _) PySem.F.entry_list_init
    (code_list_new _ ⟨rfl, rfl⟩) fun obj s₁ h₁ => ?_
  obtain ⟨rfl, rfl⟩ := h₁
  have hS : (s.heap.push { cls := .type "list", data := .seq #[] }).get? s.heap.objs.size = some { cls := .type "list", data := .seq #[] } := Heap.get?_push_size _ rfl
  have hSi : s.heap.objs.size ≠ it := Nat.ne_of_gt (by obtain ⟨o, e, _⟩ := hit; exact Heap.lt_size e)
  have hSa : s.heap.objs.size ≠ a := Nat.ne_of_gt (by obtain ⟨o, e, _⟩ := hl; exact Heap.lt_size e)
  refine ⟨⟨_, hS, rfl⟩, PySem.F.args_list_init_2 _ _, init_revL (s := { s with heap := s.heap.push { cls := .type "list", data := .seq #[] } }) (A := A.in1) hh (hit.at fun o e => Heap.get?_push_of_some _ e) (hl.push _) hne hz _ hSi hSa hS fun h' tk acc' c' hk hS' hacc => ?_⟩
  exact ⟨rfl, hQ h' tk acc' c' (fun b o hb e => hk b o (Nat.ne_of_lt (Heap.lt_size e)) hb (Heap.get?_push_of_some _ e)) hS' hacc⟩
end
/-! ### the expressions -/
section
open L2
variable {X : Cx}
def tLstRev (K : PySem.W.Frag) (te : TE) : TE := fun σ H Q => te σ H fun v H1 => ∃ (a : Addr) (xs : List V), v = .ref a ∧ SqL K H1 a xs ∧ ∀ q, H1 q = none → Q (.ref q) (upd H1 q (.lst xs.reverse))
theorem pe_lstRev {e : Expr} {te : TE} {p p2 pos pos2 : Pos} (hc : X.calm = true) (hg : Gl X "list") (hm : X.mg "list" = none) (hg2 : Gl X "reversed") (hm2 : X.mg "reversed" = none) (he : PE X e te)
    (hs : starEach [e] X.env = (false, eval e X.env) :: starEach [] X.env)
    (hs2 : starEach [.Call (.Name "reversed" p2) [e] [] pos2] X.env = (false, eval (.Call (.Name "reversed" p2) [e] [] pos2) X.env) :: starEach [] X.env) :
    PE X (.Call (.Name "list" p) [.Call (.Name "reversed" p2) [e] [] pos2] [] pos) (tLstRev X.K te) := by
  refine ⟨fun pins s σ H Q I h => ?_⟩
  refine Call_ (ld_blt I hg hm boot_list (PyProof.Rows.callWith_type1 (args_cons (Call_ (ld_blt I hg2 hm2 PyProof.Rows.boot_reversed (PyProof.Rows.callWith_type1 (args_cons (thn (he.run pins s σ H _ I h) fun u s1 ⟨v, H1, I1, r1, q1⟩ => args_nil ?_) hs) hs rfl))) hs2) hs2 rfl))
  obtain ⟨a, xs, ev, hq, q⟩ := q1
  subst ev
  obtain rfl : u = Value.ref a := r1
  obtain ⟨its, rv, p', hz⟩ := I1.list hq
  refine call_reversed_list p'.isList (args_nil ?_)
  have k0 : ∀ b o, s1.heap.get? b = some o → (s1.heap.push (revObj a ((its.toArray.size : Int) - 1))).get? b = some o := fun b o e => Heap.get?_push_of_some _ e
  have I2 : L2.Inv X pins σ H1 { s1 with heap := s1.heap.push (revObj a ((its.toArray.size : Int) - 1)) } := I1.kept (t' := s1.toks) k0
  obtain ⟨f0, f1, f2, f3, f4, f5⟩ := I1.fpOk (H' := H1) (b := s1.heap.objs.size) (Nat.le_refl _) (I1.hok.fresh (Nat.le_refl _))
  have hl := p'.isList
  obtain ⟨ol, hol, _⟩ := id hl
  have hne : a ≠ s1.heap.objs.size := Nat.ne_of_lt (Heap.lt_size hol)
  have hn : its.toArray.size ≤ sizeLine := by rw [List.size_toArray, ← rv.length]; exact hz
  refine call_list_revL (s := { s1 with heap := s1.heap.push (revObj a ((its.toArray.size : Int) - 1)) }) (I1.ok.hd hc) ⟨_, Heap.get?_push_size _ rfl, rfl, rfl⟩ (hl.push _) hne hn fun h' tk acc c' hk hS hi => ?_
  have e2 : (s1.heap.push (revObj a ((its.toArray.size : Int) - 1))).objs.size = s1.heap.objs.size + 1 := Heap.size_push ..
  have hT : s1.heap.objs.size ≤ (s1.heap.push (revObj a ((its.toArray.size : Int) - 1))).objs.size := by rw [e2]; exact Nat.le_succ _
  have hv := RT.vals_rev rv hi
  refine ⟨.ref _, _, I1.turnedNew (ch := []) (ob := .lst xs.reverse) (fun b o _ e => hk b o (Nat.ne_of_lt (Heap.lt_size e)) (k0 b o e)) (fun b hb => by cases hb) hT ⟨by rw [List.length_reverse]; exact hz, acc.toList, c', hv, by rw [Array.toArray_toList]; exact hS⟩, rfl, q _ (I1.hok.fresh hT)⟩
end
end DL

namespace DL
open PySem PySem.Spec PyProof.Rows
/-! ### the length hint of a tuple's reverse walk -/
theorem slot_rt_hint : Slot "reversed" "__length_hint__" "reversed.__length_hint__" :=
  .of (owner := "reversed") (n := "__length_hint__") (by rw [typeLookup_type, builtinLookup_eq_fast]; kernel_rfl) (by decide +kernel) (by decide +kernel) (by decide +kernel)
    (by first | exact .inl (by decide +kernel) | exact .inr (by decide +kernel)) (by rw [isSubtype_type]; kernel_rfl)
theorem entry_rt_hint : entryFor table "reversed.__length_hint__" = some Builtin.«reversed.__length_hint__» := entryFor_of_tree (by kernel_rfl)
theorem args_rt_hint (a : Value) : argsOk "reversed.__length_hint__" ⟨[a], []⟩ := by
  unfold argsOk; rw [signature?_of (id := "reversed.__length_hint__") (n := ['_', '_', 't', 'n', 'i', 'h', '_', 'h', 't', 'g', 'n', 'e', 'l', '_', '_']) (o := ['d', 'e', 's', 'r', 'e', 'v', 'e', 'r']) (by kernel_rfl) RT.owner_rt]; kernel_rfl
section
variable {prog : Program} {w : World} {A : Around} {E : Value → Shared → Prop} {s : Shared}
theorem hintT {it a : Addr} {its : Array Value} {Q : Bool → Shared → Prop} (hit : RT.IsRt s.heap it a ((its.size : Int) - 1)) (ht : IsTup s.heap a its) (hz : its.size ≤ sizeLine)
    (h : ∀ tk, Q ((its.size : Int) != 0) { s with toks := tk }) : wpAny (model prog w) A (Builtin.List.listLengthHint (.ref it)) Q E s := by
  have hT : s.TypeIs (.ref it) "reversed" := hit.typeIs
  rw [sizeLine_eq] at hz
  obtain ⟨o, ho, hc, hd⟩ := id hit
  unfold Builtin.List.listLengthHint
  refine wpAny_bind (wpAny_specialOf hT nolen_rt ?_)
  show wpAny _ _ (specialOf (Value.ref it) (Str.ofString "__length_hint__") >>= _) _ _ _
  refine wpAny_bind (wpAny_specialOf hT hint_rt ?_)
  generalize hid : ("reversed.__length_hint__" : String) = id0
  wp_delta
  rw [show splitId id0 = some ("reversed", "__length_hint__") from by subst hid; decide +kernel]
  subst hid
  refine wpAny_bind (wpAny_isInstance (b := true) hT (by rw [isSubtype_type]; kernel_rfl) ?_)
  refine wpAny_ite_split (fun hab => absurd hab (by decide)) (fun _ => ?_)
  refine wpAny_ite_split (fun hab => absurd hab (by decide +kernel)) (fun _ => ?_)
  refine wpAny_bind (wpAny_rule ?_)
  refine wpAny_bind (wpAny_of_eq (slot_rt_hint.bind _) ?_)
  try dsimp only
  refine wpAny_bind (wpAny_attempt (wpAny_call_entry slot_rt_hint hT entry_rt_hint ?_ (args_rt_hint _)))
  unfold Builtin.«reversed.__length_hint__»
  refine wpAny_bind (wpAny_of_eq (a := Value.ref it) rfl ?_)
  try dsimp only
  refine wpAny_bind (wpAny_field ho hd (x := .ref a) rfl ?_)
  refine wpAny_ite_split (fun hab => (Bool.false_ne_true hab).elim) (fun _ => ?_)
  refine wpAny_bind (len_tuple ht (by omega) ?_)
  refine wpAny_bind (m := asInt? _) (wpAny_pure ?_)
  try dsimp only
  refine wpAny_bind (wpAny_field (s := { s with toks := s.toks + 1 + 1 }) ho hd (x := rawInt ((its.size : Int) - 1)) rfl ?_)
  show wpAny _ _ (if (its.size : Int) < ((its.size : Int) - 1) + 1 then _ else retInt (((its.size : Int) - 1) + 1)) _ _ _
  rw [if_neg (by omega), Int.sub_add_cancel]
  have n0 : 0 ≤ (its.size : Int) := by omega
  have n1 : (its.size : Int) ≤ 16777216 := by omega
  clear hit ht hz hd
  generalize (its.size : Int) = N at h n0 n1 ⊢
  unfold retInt
  refine wpAny_bind (wpAny_mkInt ?_)
  refine wpAny_pure ⟨_, rfl, ?_⟩
  show wpAny _ _ (asInt? (Value.int N _) >>= _) _ _ _
  refine wpAny_bind (wpAny_of_eq (a := some N) rfl ?_)
  try dsimp only
  have hf : Builtin.List.listFitsIndex N = true := Bool.and_eq_true_iff.mpr ⟨decide_eq_true (by omega), decide_eq_true (by omega)⟩
  have htl : Builtin.List.listTooLong N.toNat = false := decide_eq_false (by rw [sizeLine_eq]; omega)
  refine wpAny_ite_split (fun hab => absurd hab (by rw [hf]; decide)) (fun _ => ?_)
  refine wpAny_ite_split (fun hab => absurd hab (by omega)) (fun _ => ?_)
  exact wpAny_ite_split (fun hab => absurd hab (by rw [htl]; decide)) (fun _ => wpAny_pure (h _))
end
end DL
namespace DL
open PySem PySem.Spec PyProof.Rows
section
variable {prog : Program} {w : World} {A : Around} {E : Value → Shared → Prop} {s : Shared}
theorem extend_rt {R : Result → Shared → Prop} {it a : Addr} {its : Array Value} (hh : A.handled = none) (hit : RT.IsRt s.heap it a ((its.size : Int) - 1)) (ht : IsTup s.heap a its) (hne : a ≠ it) (hz : its.size ≤ sizeLine) (S : Addr) (hSi : S ≠ it) (hSa : S ≠ a) (res : Value) (c₀ : Nat)
    (hS : s.heap.get? S = some { cls := .type "list", data := .seq #[] c₀ })
    (hR : ∀ h' tk acc' c', (∀ b o, b ≠ S → b ≠ it → s.heap.get? b = some o → h'.get? b = some o) → h'.get? S = some { cls := .type "list", dict := none, data := .seq acc' c', slots := #[] } →
      ItemsOf (fun i v => its[its.size - 1 - i]? = some v) acc' its.size → R (.ok (.ret res)) { s with heap := h', toks := tk }) :
    wpAny (model prog w) A.in1 (Builtin.List.listExtendWith (.ref S) (.ref it) res)
      (fun fin s' => match fin with | .done f => R (.ok f) s' | .again c' => c'.quiet = true ∧ codeAny (model prog w) A c' R s') (fun e s' => R (.error e) s') s := by
  have W := (walksR (prog := prog) (w := w) (A := A.in1) hh it a hne its hz .t).toS
  have hT : s.TypeIs (.ref it) "reversed" := hit.typeIs
  have hSf : S ∉ [it, a] := by simp only [List.mem_cons, List.not_mem_nil, or_false, not_or]; exact ⟨hSi, hSa⟩
  have h1 : Builtin.List.listSameRef (.ref S) (.ref it) = false := by simp [Builtin.List.listSameRef, hSi]
  have h2 : (Value.type "reversed" == Value.type "list") = false := by decide
  have h3 : (Value.type "reversed" == Value.type "tuple") = false := by decide
  have e0 : ((its.size : Nat) : Int) - 1 - ((0 : Nat) : Int) = (its.size : Int) - 1 := by omega
  have key : ∀ (h : Heap) (c₁ tk : Nat), (∀ b o, b ≠ S → s.heap.get? b = some o → h.get? b = some o) → h.get? S = some { cls := .type "list", data := .seq #[] c₁ } →
      codeAny (model prog w) A (.builtin "list.extend.loop" ⟨[.ref S, .ref it, res], []⟩) R { s with heap := h, toks := tk } := by
    intro h c₁ tk hk hS₁
    refine codeAny_extend_loopS W hz S hSf res its.size 0 _ #[] c₁ rfl (Nat.zero_le _) ⟨Nat.zero_le _, ?_, ?_⟩ hS₁ (ItemsOf.nil _) fun s' acc' c' hm hS' hacc => ?_
    · show RT.IsRt h it a _
      rw [e0]
      exact hit.at fun o e => hk it o (Ne.symm hSi) e
    · exact Heap.IsTuple.at (show s.heap.IsTuple a its from ht) fun o e => hk a o (Ne.symm hSa) e
    · rw [Moved.eq_with hm]
      refine hR s'.heap s'.toks acc' c' (fun b o hb hb2 e => hm.heap b o (fun hmem => ?_) (hk b o hb e)) hS' hacc
      rcases List.mem_cons.mp hmem with e' | hmem
      · exact hb e'
      · exact hb2 (List.mem_singleton.mp hmem)
  unfold Builtin.List.listExtendWith
  refine wpAny_bind (wpAny_typeOf hT ?_)
  simp only [h1, h2, h3, Bool.or_false, Bool.false_eq_true, if_false]
  refine wpAny_bind (RT.iter_rt hit ?_)
  refine wpAny_bind (wpAny_holding (hintT hit ht hz fun tk => ?_))
  refine wpAny_ite_split (fun _ => ?_) (fun _ => wpAny_pure ⟨plainId_quiet F.plain_extend_loop _, key _ c₀ _ (fun b o _ e => e) hS⟩)
  refine wpAny_bind (wpAny_rule ?_)
  refine wpAny_bind ?_
  show wpAny _ _ (updateSeq S (·.push .none) >>= fun _ => updateSeq S (·.pop)) _ _ _
  refine wpAny_bind (wpAny_updateSeq hS rfl ?_)
  have hS₂ := Heap.get?_update_self (Obj.mapSeq (·.push Value.none)) hS rfl
  refine wpAny_updateSeq (hz := by seq_fits) hS₂ rfl ?_
  have hS₃ := Heap.get?_update_self (Obj.mapSeq (·.pop)) hS₂ rfl
  exact wpAny_pure ⟨plainId_quiet F.plain_extend_loop _, key _ _ _ (fun b o hb e => (Heap.get?_update_other _ _ (Ne.symm hb)).trans ((Heap.get?_update_other _ _ (Ne.symm hb)).trans e)) hS₃⟩
end
end DL

namespace DL
open PySem PySem.Spec PyProof.Rows
section
variable {prog : Program} {w : World} {A : Around} {E : Value → Shared → Prop} {s : Shared}
theorem collect_rt {it a : Addr} {its : Array Value} {Q : List Value → Shared → Prop} (hh : A.handled = none) (hit : RT.IsRt s.heap it a ((its.size : Int) - 1)) (ht : IsTup s.heap a its) (hne : a ≠ it) (hz : its.size ≤ sizeLine)
    (hQ : ∀ (h' : Heap) (tk : Nat) (acc : Array Value), (∀ b o, b ≠ it → s.heap.get? b = some o → h'.get? b = some o) → ItemsOf (fun i v => its[its.size - 1 - i]? = some v) acc its.size → Q acc.toList { s with heap := h', toks := tk }) :
    wpAny (model prog w) A (collect (.ref it)) Q E s := by
  have hSi : s.heap.objs.size ≠ it := Nat.ne_of_gt (by obtain ⟨o, e, _⟩ := hit; exact Heap.lt_size e)
  have hSa : s.heap.objs.size ≠ a := Nat.ne_of_gt (by obtain ⟨o, e, _⟩ := ht; exact Heap.lt_size e)
  unfold collect
  refine wpAny_bind (wpAny_runValue (codeAny_builtin F.entry_proto_collect ?_))
  rw [Around.under_plainId F.plain_proto_collect _]
  show wpAny _ A.in1 (newList [] >>= fun l' => again (.builtin "list.__iadd__" ⟨[l', .ref it], []⟩)) _ _ s
  refine wpAny_bind (wpAny_newObj_type ?_)
  refine wpAny_pure ⟨plainId_quiet F.plain_list_iadd _, codeAny_builtin F.entry_list_iadd ?_⟩
  rw [Around.under_plainId F.plain_list_iadd _]
  show wpAny _ A.in1 (Builtin.List.listExtendWith (.ref s.heap.objs.size) (.ref it) (.ref s.heap.objs.size)) _ _ _
  refine extend_rt (R := fun r s' => match r with
    | .ok (.ret v) => wpAny (model prog w) A (match v with
      | .ref a => do
        let o ← load a
        match o.data with
        | .seq xs _ => pure xs.toList
        | _ => unsupported "internal:collect"
      | _ => unsupported "internal:collect") Q E s'
    | .ok _ => False
    | .error e => E e s') (A := A) (s := { s with heap := s.heap.push { cls := .type "list", data := .seq ([] : List Value).toArray } }) hh (hit.at fun o e => Heap.get?_push_of_some _ e) (by obtain ⟨o, e, r⟩ := ht; exact ⟨o, Heap.get?_push_of_some _ e, r⟩) hne hz _ hSi hSa _ 0 (Heap.get?_push_size _ rfl) fun h' tk acc c' hk hS' hacc => ?_
  show wpAny _ A (load s.heap.objs.size >>= _) _ _ _
  refine wpAny_bind (wpAny_load hS' ?_)
  refine wpAny_pure ?_
  exact hQ h' tk acc (fun b o hb e => hk b o (Nat.ne_of_lt (Heap.lt_size e)) hb (Heap.get?_push_of_some _ e)) hacc
theorem code_tuple_rt {it a : Addr} {its : Array Value} {Q₁ : Value → Shared → Prop} (hh : A.handled = none) (hit : RT.IsRt s.heap it a ((its.size : Int) - 1)) (ht : IsTup s.heap a its) (hne : a ≠ it) (hz : its.size ≤ sizeLine)
    (h : ∀ (h' : Heap) (tk : Nat) (acc : Array Value), (∀ b o, b ≠ it → s.heap.get? b = some o → h'.get? b = some o) → ItemsOf (fun i v => its[its.size - 1 - i]? = some v) acc its.size →
      Q₁ (.ref h'.objs.size) { s with heap := h'.push { cls := .type "tuple", data := .seq acc }, toks := tk }) :
    codeAny (model prog w) A (.call (.builtin "tuple.__new__") ⟨[.type "tuple", .ref it], []⟩) (wants Q₁ E) s := by
  refine codeAny_of_tree ?_
  show wpAny _ A.in1 (do checkBuiltinCall "tuple.__new__" ⟨[.type "tuple", .ref it], []⟩; again (.builtin "tuple.__new__" ⟨[.type "tuple", .ref it], []⟩)) _ _ s
  refine wpAny_bind (wpAny_of_eq (F.newCall_tuple_1 _) (wpAny_pure ⟨plainId_quiet F.plain_tuple_new _, codeAny_builtin F.entry_tuple_new ?_⟩))
  rw [Around.under_plainId F.plain_tuple_new _]
  have hsub := sub_tuple_self
  have hinit := init_tuple_lookup
  have hmh := madeHere_tuple
  have hTI : s.TypeIs (.ref it) "reversed" := hit.typeIs
  have hh1 : A.in1.handled = none := hh
  wp_walk using wpAny_typeOf hTI, collect_rt (A := A.in1) hh1 hit ht hne hz
  intro h' tk acc hk hacc
  show wpAny _ _ (Builtin.Tuple.tupleExact acc.toList.toArray >>= fun v => PySem.ret v) _ _ _
  unfold Builtin.Tuple.tupleExact
  refine wpAny_bind (wpAny_newObj_type ?_ (by show acc.toList.toArray.size ≤ sizeLine; simp only [Array.toArray_toList]; rw [hacc.1]; exact hz))
  refine wpAny_pure ?_
  have e : acc.toList.toArray = acc := by simp
  rw [e]
  exact h h' tk acc hk hacc
theorem call_tuple_rt {it a : Addr} {its : Array Value} {Q : Value → Shared → Prop} (hh : A.handled = none) (hit : RT.IsRt s.heap it a ((its.size : Int) - 1)) (ht : IsTup s.heap a its) (hne : a ≠ it) (hz : its.size ≤ sizeLine)
    (hQ : ∀ (h' : Heap) (tk : Nat) (acc : Array Value), (∀ b o, b ≠ it → s.heap.get? b = some o → h'.get? b = some o) → ItemsOf (fun i v => its[its.size - 1 - i]? = some v) acc its.size →
      Q (.ref h'.objs.size) { s with heap := h'.push { cls := .type "tuple", data := .seq acc }, toks := tk }) :
    wpAny (model prog w) A (call (.type "tuple") [.ref it]) Q E s := by
  refine callType_codes (Q₁ := fun obj s₁ => s₁.TypeIs obj "tuple" ∧ Q obj s₁) F.called_tuple (F.typeCall_tuple_1 _) F.entry_object_init
    (code_tuple_rt (A := A.in1) hh hit ht hne hz fun h' tk acc hk hacc => ⟨⟨_, Heap.get?_push_size _ rfl, rfl⟩, hQ h' tk acc hk hacc⟩) fun obj s₁ h₁ => ?_
  exact ⟨h₁.1, F.args_object_init_2 obj _, object_init_meets F.called_tuple.init.lookup F.called_tuple.made (by decide) prog w A.in1 _ s₁ ⟨h₁.1, rfl, h₁.2⟩⟩
theorem call_list_rt {it a : Addr} {its : Array Value} {Q : Value → Shared → Prop} (hh : A.handled = none) (hit : RT.IsRt s.heap it a ((its.size : Int) - 1)) (ht : IsTup s.heap a its) (hne : a ≠ it) (hz : its.size ≤ sizeLine)
    (hQ : ∀ h' tk acc' c', (∀ b o, b ≠ it → s.heap.get? b = some o → h'.get? b = some o) →
      h'.get? s.heap.objs.size = some { cls := .type "list", dict := none, data := .seq acc' c', slots := #[] } → ItemsOf (fun i v => its[its.size - 1 - i]? = some v) acc' its.size → Q (.ref s.heap.objs.size) { s with heap := h', toks := tk }) :
    wpAny (model prog w) A (call (.type "list") [.ref it]) Q E s := by
  refine callType_codes (Q₁ := fun obj s₁ => obj = .ref s.heap.objs.size ∧ s₁ = { s with heap := s.heap.push { cls := .type "list", data := .seq #[] } }) PySem.F.called_list (PySem.F.typeCall_list_1 _) PySem.F.entry_list_init
    (code_list_new _ ⟨rfl, rfl⟩) fun obj s₁ h₁ => ?_
  obtain ⟨rfl, rfl⟩ := h₁
  have hS : (s.heap.push { cls := .type "list", data := .seq #[] }).get? s.heap.objs.size = some { cls := .type "list", data := .seq #[] } := Heap.get?_push_size _ rfl
  have hSi : s.heap.objs.size ≠ it := Nat.ne_of_gt (by obtain ⟨o, e, _⟩ := hit; exact Heap.lt_size e)
  have hSa : s.heap.objs.size ≠ a := Nat.ne_of_gt (by obtain ⟨o, e, _⟩ := ht; exact Heap.lt_size e)
  refine ⟨⟨_, hS, rfl⟩, PySem.F.args_list_init_2 _ _, ?_⟩
  show wpAny _ _ (do let old ← Builtin.List.listItems (.ref s.heap.objs.size); Builtin.List.listUpdate (.ref s.heap.objs.size) (fun _ => #[]); letGo old.toList.reverse; Builtin.List.listExtendWith (.ref s.heap.objs.size) (.ref it) .none) _ _ _
  refine wpAny_bind ?_
  unfold Builtin.List.listItems
  refine wpAny_bind (wpAny_seqItems hS rfl (wpAny_pure ?_))
  show wpAny _ _ (updateSeq s.heap.objs.size (fun _ => #[]) >>= fun _ => letGo (#[] : Array Value).toList.reverse >>= fun _ => Builtin.List.listExtendWith (.ref s.heap.objs.size) (.ref it) .none) _ _ _
  refine wpAny_bind (wpAny_updateSeq hS rfl ?_)
  have hS₂ := Heap.get?_update_self (Obj.mapSeq (fun _ => (#[] : Array Value))) hS rfl
  have oth : ∀ b o, b ≠ s.heap.objs.size → (s.heap.push { cls := .type "list", data := .seq #[] }).get? b = some o → ((s.heap.push { cls := .type "list", data := .seq #[] }).update s.heap.objs.size (Obj.mapSeq (fun _ => (#[] : Array Value)))).get? b = some o :=
    fun b o hb e => (Heap.get?_update_other _ _ (Ne.symm hb)).trans e
  refine wpAny_bind (wpAny_letGo ?_)
  refine extend_rt (A := A.in1) (s := { s with heap := (s.heap.push { cls := .type "list", data := .seq #[] }).update s.heap.objs.size (Obj.mapSeq (fun _ => (#[] : Array Value))) }) hh (hit.at fun o e => oth it o (Ne.symm hSi) (Heap.get?_push_of_some _ e)) (by obtain ⟨o, e, r⟩ := ht; exact ⟨o, oth a o (Ne.symm hSa) (Heap.get?_push_of_some _ e), r⟩) hne hz _ hSi hSa .none _ hS₂ fun h' tk acc' c' hk hS' hacc => ?_
  exact ⟨rfl, hQ h' tk acc' c' (fun b o hb e => hk b o (Nat.ne_of_lt (Heap.lt_size e)) hb (oth b o (Nat.ne_of_lt (Heap.lt_size e)) (Heap.get?_push_of_some _ e))) hS' hacc⟩
end
end DL

namespace DL
open PySem PySem.Spec PyProof.Rows L2
/-! ### list(reversed(x)), tuple(reversed(x)), x a list or a tuple -/
def newS (t : Bool) (xs : List V) : HO := match t with
  | true => .tup xs
  | false => .lst xs
def tRevK (K : PySem.W.Frag) (t : Bool) (te : TE) : TE := fun σ H Q => te σ H fun v H1 => ∃ (a : Addr) (xs : List V) (k : SK), v = .ref a ∧ SqK K H1 a xs k ∧ ∀ q, H1 q = none → Q (.ref q) (upd H1 q (newS t xs.reverse))
def revO (k : SK) (a : Addr) (i : Int) : Obj := match k with
  | .l => revObj a i
  | .t => RT.rtObj a i
section
variable {X : Cx}
theorem rev_conv {pins : List (Addr × Obj)} {σ : L2.St} {H : Hp} {s : Shared} {a : Addr} {xs : List V} {its : List Value} {k : SK} {Q : VK} {t : Bool} {n : Nat} (hc : X.calm = true) (I : L2.Inv X pins σ H s) (rv : Vals xs its) (hz : xs.length ≤ sizeLine) (la : a < s.heap.objs.size) (p : IsK s.heap a its.toArray k) (q : ∀ q, H q = none → Q (.ref q) (upd H q (newS t xs.reverse))) :
    wpAny (model X.prog X.w) X.A (call (.type (if t then "tuple" else "list")) [.ref s.heap.objs.size]) (EP X pins σ Q) X.xe { s with heap := s.heap.push (revO k a ((its.toArray.size : Int) - 1)), toks := n } := by
  generalize hob : revO k a ((its.toArray.size : Int) - 1) = ob
  have hfr : ob.isFreed = false := by cases k <;> (subst hob; rfl)
  have k0 : ∀ b o, s.heap.get? b = some o → (s.heap.push ob).get? b = some o := fun b o e => Heap.get?_push_of_some _ e
  have I2 : L2.Inv X pins σ H { s with heap := s.heap.push ob, toks := n } := I.kept (t' := n) k0
  obtain ⟨f0, f1, f2, f3, f4, f5⟩ := I.fpOk (H' := H) (b := s.heap.objs.size) (Nat.le_refl _) (I.hok.fresh (Nat.le_refl _))
  have hne : a ≠ s.heap.objs.size := Nat.ne_of_lt la
  have hn : its.toArray.size ≤ sizeLine := by rw [List.size_toArray, ← rv.length]; exact hz
  have e2 : (s.heap.push ob).objs.size = s.heap.objs.size + 1 := Heap.size_push ..
  have hT : s.heap.objs.size ≤ (s.heap.push ob).objs.size := by rw [e2]; exact Nat.le_succ _
  have lz : xs.reverse.length ≤ sizeLine := by rw [List.length_reverse]; exact hz
  have fT : ∀ (h' : Heap) (tk : Nat) (acc : Array Value), (∀ b o, b ≠ s.heap.objs.size → (s.heap.push ob).get? b = some o → h'.get? b = some o) → ItemsOf (fun i v => its.toArray[its.toArray.size - 1 - i]? = some v) acc its.toArray.size → t = true →
      EP X pins σ Q (.ref h'.objs.size) { s with heap := h'.push { cls := .type "tuple", data := .seq acc }, toks := tk } := fun h' tk acc hk hi ht => by
    subst ht
    have I3 : L2.Inv X pins σ H { s with heap := h', toks := tk } := I2.turned (t' := tk) (fun b o hb e => hk b o hb e) f0 f1 f3 f4 f5
    have new : ObjOk X.prog X.w (upd H h'.objs.size (.tup xs.reverse)) (h'.push { cls := .type "tuple", data := .seq acc }) h'.objs.size (.tup xs.reverse) := ⟨lz, acc.toList, RT.vals_rev rv hi, by rw [Array.toArray_toList]; exact IsTup.new _ _⟩
    exact ⟨.ref h'.objs.size, _, I3.laid (t' := tk) (fun c o e => Heap.get?_push_of_some _ e) (Nat.le_refl _) new, rfl, q _ (I3.hok.fresh (Nat.le_refl _))⟩
  have fL : ∀ (h' : Heap) (tk : Nat) (acc : Array Value) (c' : Nat), (∀ b o, b ≠ s.heap.objs.size → (s.heap.push ob).get? b = some o → h'.get? b = some o) → h'.get? (s.heap.push ob).objs.size = some { cls := .type "list", dict := none, data := .seq acc c', slots := #[] } →
      ItemsOf (fun i v => its.toArray[its.toArray.size - 1 - i]? = some v) acc its.toArray.size → t = false → EP X pins σ Q (.ref (s.heap.push ob).objs.size) { s with heap := h', toks := tk } := fun h' tk acc c' hk hS hi ht => by
    subst ht
    exact ⟨.ref _, _, I.turnedNew (ch := []) (ob := .lst xs.reverse) (fun b o _ e => hk b o (Nat.ne_of_lt (Heap.lt_size e)) (k0 b o e)) (fun b hb => by cases hb) hT ⟨lz, acc.toList, c', RT.vals_rev rv hi, by rw [Array.toArray_toList]; exact hS⟩, rfl, q _ (I.hok.fresh hT)⟩
  cases k with
  | l =>
    subst hob
    have hl : s.heap.IsList a its.toArray := p
    have hit : (s.heap.push (revObj a ((its.toArray.size : Int) - 1))).IsRevIter s.heap.objs.size a ((its.toArray.size : Int) - 1) := ⟨_, Heap.get?_push_size _ rfl, rfl, rfl⟩
    cases t with
    | true => exact RT.call_tuple_rev (s := { s with heap := s.heap.push (revObj a ((its.toArray.size : Int) - 1)), toks := n }) (I.ok.hd hc) hit (hl.push _) hne hn fun h' tk acc hk hi => fT h' tk acc hk hi rfl
    | false => exact call_list_revL (s := { s with heap := s.heap.push (revObj a ((its.toArray.size : Int) - 1)), toks := n }) (I.ok.hd hc) hit (hl.push _) hne hn fun h' tk acc c' hk hS hi => fL h' tk acc c' hk hS hi rfl
  | t =>
    subst hob
    have ht : IsTup s.heap a its.toArray := p
    have ht2 : IsTup (s.heap.push (RT.rtObj a ((its.toArray.size : Int) - 1))) a its.toArray := by obtain ⟨o, e, r⟩ := ht; exact ⟨o, k0 a o e, r⟩
    have hit : RT.IsRt (s.heap.push (RT.rtObj a ((its.toArray.size : Int) - 1))) s.heap.objs.size a ((its.toArray.size : Int) - 1) := ⟨_, Heap.get?_push_size _ rfl, rfl, rfl⟩
    cases t with
    | true => exact call_tuple_rt (s := { s with heap := s.heap.push (RT.rtObj a ((its.toArray.size : Int) - 1)), toks := n }) (I.ok.hd hc) hit ht2 hne hn fun h' tk acc hk hi => fT h' tk acc hk hi rfl
    | false => exact call_list_rt (s := { s with heap := s.heap.push (RT.rtObj a ((its.toArray.size : Int) - 1)), toks := n }) (I.ok.hd hc) hit ht2 hne hn fun h' tk acc c' hk hS hi => fL h' tk acc c' hk hS hi rfl
theorem boot_conv {t : Bool} : bootBuiltins (if t then "tuple" else "list") = some (.type (if t then "tuple" else "list")) := by cases t <;> decide +kernel
theorem pe_revK {t : Bool} {e : Expr} {te : TE} {p p2 pos pos2 : Pos} (hc : X.calm = true) (hg : Gl X (if t then "tuple" else "list")) (hm : X.mg (if t then "tuple" else "list") = none) (hg2 : Gl X "reversed") (hm2 : X.mg "reversed" = none) (he : PE X e te)
    (hs : starEach [e] X.env = (false, eval e X.env) :: starEach [] X.env)
    (hs2 : starEach [.Call (.Name "reversed" p2) [e] [] pos2] X.env = (false, eval (.Call (.Name "reversed" p2) [e] [] pos2) X.env) :: starEach [] X.env) :
    PE X (.Call (.Name (if t then "tuple" else "list") p) [.Call (.Name "reversed" p2) [e] [] pos2] [] pos) (tRevK X.K t te) := by
  refine ⟨fun pins s σ H Q I h => ?_⟩
  have hn : (if t then ("tuple" : Str) else "list") ≠ "__name__" := by cases t <;> decide
  have hdb : ((if t then ("tuple" : Str) else "list") == ("__debug__" : Str)) = false := by cases t <;> decide
  have go : wpAny (model X.prog X.w) X.A (eval (.Call (.Name "reversed" p2) [e] [] pos2) X.env) (fun u s2 => wpAny (model X.prog X.w) X.A (call (.type (if t then "tuple" else "list")) [u]) (EP X pins σ Q) X.xe s2) X.xe s := by
    refine Call_ (ld_blt I hg2 hm2 PyProof.Rows.boot_reversed (PyProof.Rows.callWith_type1 (args_cons (thn (he.run pins s σ H _ I h) fun u s1 ⟨v, H1, I1, r1, q1⟩ => args_nil ?_) hs) hs rfl))
    obtain ⟨a, xs, k, ev, hq, q⟩ := q1
    subst ev
    obtain rfl : u = Value.ref a := r1
    obtain ⟨its, rv, p', la⟩ := inv_K I1 hq
    cases k with
    | l =>
      obtain ⟨_, _, _, hz⟩ := I1.list hq
      exact call_reversed_list (show s1.heap.IsList a its.toArray from p') (rev_conv (k := .l) (n := s1.toks) hc I1 rv hz la p' q)
    | t =>
      obtain ⟨_, _, _, hz⟩ := I1.tuple hq
      have hn := line63
      have hl := rv.length
      exact RT.call_reversed_tup (show IsTup s1.heap a its.toArray from p') (fun A E Q k => len_tuple (show IsTup s1.heap a its.toArray from p') (by simp only [List.size_toArray] <;> omega) k) (rev_conv (k := .t) (n := s1.toks + 1 + 1) hc I1 rv hz la p' q)
  cases t with
  | true => exact Call_ (ld_blt I hg hm boot_conv (PyProof.Rows.callWith_type1 (args_cons (thn go fun u s2 z => args_nil z) hs2) hs2 rfl) hn hdb)
  | false => exact Call_ (ld_blt I hg hm boot_conv (PyProof.Rows.callWith_type1 (args_cons (thn go fun u s2 z => args_nil z) hs2) hs2 rfl) hn hdb)
end
end DL

namespace DL
open PySem PySem.W PySem.Spec PyProof.Rows L2
/-! ### zip, enumerate -/
def seqD : D → Option (List D)
  | .list ds => some ds
  | .tuple ds => some ds
  | _ => none
theorem seqD_ok {K : PySem.W.Frag} {F : Hp} {v : V} {d : D} {ds : List D} (e : seqD d = some ds) (r : Rp K F v d) : SqE K F v ds := by
  cases d <;> first | (cases e; done) | skip
  · cases e
    obtain ⟨a, xs, rfl, h1, h2⟩ := rp_lst r
    exact ⟨a, xs, .l, rfl, SqL.of h1, h2⟩
  · cases e
    obtain ⟨a, xs, rfl, h1, h2⟩ := rp_tup r
    exact ⟨a, xs, .t, rfl, h1, h2⟩
def pairD (x y : D) : D := .tuple [x, y]
def zipM (b : Bool) : List D → M (List D)
  | [x, y] => match seqD x, seqD y with
    | some xs, some ys => if (!b || xs.length == ys.length) = true then ret (List.zipWith pairD xs ys) else stuck
    | _, _ => stuck
  | _ => stuck
theorem rI_zip {K : PySem.W.Frag} {H : Hp} {ow : Ow} {b : Bool} {k1 k2 : SK} {a c : Addr} {xs ys : List V} {ds es : List D} (h1 : SqK K (Fz H ow) a xs k1) (h2 : SqK K (Fz H ow) c ys k2) (r1 : RpAll K (Fz H ow) xs ds) (r2 : RpAll K (Fz H ow) ys es)
    (hb : b = true → ds.length = es.length) : rI K H ow (List.zipWith pairD ds es) (ItZ K b k1 k2 a c) := fun H' ow' e dm => by
  have q1 : SqK K H' a xs k1 := SqK.mono res_sub (SqK.mono e.fz h1)
  have q2 : SqK K H' c ys k2 := SqK.mono res_sub (SqK.mono e.fz h2)
  have l1 := r1.length
  have l2 := r2.length
  refine ⟨fun i d hd => ?_, xs, ys, q1, q2, ?_⟩
  · rw [List.getElem?_zipWith] at hd
    cases e1 : ds[i]? with
    | none => rw [e1] at hd; simp at hd
    | some d1 =>
      cases e2 : es[i]? with
      | none => rw [e1, e2] at hd; simp at hd
      | some d2 =>
        rw [e1, e2] at hd
        simp only [Option.some.injEq] at hd
        subst hd
        obtain ⟨v1, hv1, rv1⟩ := r1.get e1
        obtain ⟨v2, hv2, rv2⟩ := r2.get e2
        have i1 := (List.getElem?_eq_some_iff.mp hv1).1
        have i2 := (List.getElem?_eq_some_iff.mp hv2).1
        refine ⟨⟨xs, ys, q1, q2, i1, i2, fun z => by rw [l1, l2]; exact hb z⟩, ?_⟩
        rintro x H'' ⟨T, y1, y2, rfl, hT, rfl, g1, g2⟩
        have g1 := g1 xs q1
        have g2 := g2 ys q2
        rw [hv1] at g1
        rw [hv2] at g2
        cases g1
        cases g2
        have st := Step.new (o := .tup [v1, v2]) (l := .frz) dm hT (fun i k z => by cases z)
        refine ⟨_, st, .tup (.inl (.inl ((res_at setL_same).trans upd_same))) (.cons (Rp.mono st.ext.fz (Rp.mono e.fz rv1)) (.cons (Rp.mono st.ext.fz (Rp.mono e.fz rv2)) .nil))⟩
  · rw [List.length_zipWith]
    refine ⟨by omega, by omega, by omega, fun z => by rw [l1, l2]; exact hb z⟩
def enumD (ds : List D) : List D := ds.mapIdx fun i d => pairD (.int (i : Nat)) d
def enumM : List D → M (List D)
  | [x] => match seqD x with
    | some xs => ret (enumD xs)
    | none => stuck
  | _ => stuck
theorem rI_enum {K : PySem.W.Frag} {H : Hp} {ow : Ow} {k : SK} {a : Addr} {xs : List V} {ds : List D} (h1 : SqK K (Fz H ow) a xs k) (r1 : RpAll K (Fz H ow) xs ds) : rI K H ow (enumD ds) (ItE K k a) := fun H' ow' e dm => by
  have q1 : SqK K H' a xs k := SqK.mono res_sub (SqK.mono e.fz h1)
  have l1 := r1.length
  refine ⟨fun i d hd => ?_, xs, q1, by unfold enumD; rw [List.length_mapIdx]; exact l1.symm⟩
  unfold enumD at hd
  rw [List.getElem?_mapIdx] at hd
  cases e1 : ds[i]? with
  | none => rw [e1] at hd; cases hd
  | some d1 =>
    rw [e1] at hd
    cases hd
    obtain ⟨v1, hv1, rv1⟩ := r1.get e1
    have i1 := (List.getElem?_eq_some_iff.mp hv1).1
    refine ⟨⟨xs, q1, i1⟩, ?_⟩
    rintro x H'' ⟨T, y1, rfl, hT, rfl, g1⟩
    have g1 := g1 xs q1
    rw [hv1] at g1
    cases g1
    have st := Step.new (o := .tup [.int (i : Nat), v1]) (l := .frz) dm hT (fun i k z => by cases z)
    exact ⟨_, st, .tup (.inl (.inl ((res_at setL_same).trans upd_same))) (.cons (.int _) (.cons (Rp.mono st.ext.fz (Rp.mono e.fz rv1)) .nil))⟩
/-! a type called with keywords -/
section
variable {M : Model} {A : Around} {E : Value → Shared → Prop} {s : Shared} {env : PySem.Env}
theorem callWith_type_kwB {pos : Pos} {T : String} {args : List (Bool × Sem Value)} {keywords : List (Option Str × Sem Value)} {Q : Value → Shared → Prop}
    (hplain : args.any (·.1) = false) (hkw : keywords.any (·.1.isNone) = false)
    (h : wpAny M A (evalArgs (.type T) true args keywords) (fun a s₁ => wpAny M A (call (.type T) a.pos a.kw) Q E s₁) E s) :
    wpAny M A (callWith pos (.type T) [] args keywords) Q E s := by
  unfold callWith
  refine wpAny_bind (wpAny_holding (wpAny_mono h (fun a s₁ h₁ => wpAny_bind (wpAny_standAt ?_)) fun _ _ x => x))
  simp only [hplain, hkw, Bool.or_false]
  refine wpAny_bind (wpAny_pure ?_)
  exact wpAny_bind (wpAny_mono h₁ (fun r s₂ hr => wpAny_bind (wpAny_holding (wpAny_point (wpAny_pure hr)))) fun _ _ x => x)
theorem callWith_kwT {pos : Pos} {T : String} {e : Expr} {rest : List Expr} {kws : List Keyword} {Q : Value → Shared → Prop}
    (h : wpAny M A (spliced (backTo pos (starEach (e :: rest) env))) (fun vs s₁ => wpAny M A (evalAll ((backToKw pos (keywordEach kws env)).map (·.2)))
      (fun kvs s₂ => wpAny M A (call (.type T) vs (((backToKw pos (keywordEach kws env)).filterMap (·.1)).zip kvs)) Q E s₂) E s₁) E s)
    (he : backTo pos (starEach (e :: rest) env) = (false, eval e env) :: backTo pos (starEach rest env))
    (hplain : (backTo pos (starEach (e :: rest) env)).any (·.1) = false)
    (hall : (backToKw pos (keywordEach kws env)).all (·.1.isSome) = true := by rfl)
    (hkw : (backToKw pos (keywordEach kws env)).any (·.1.isNone) = false := by rfl) :
    wpAny M A (callWith pos (.type T) [] (backTo pos (starEach (e :: rest) env)) (backToKw pos (keywordEach kws env))) Q E s := by
  refine callWith_type_kwB hplain hkw ?_
  rw [he] at h ⊢
  exact evalArgs_kwB hall h
end
def iZ (K : PySem.W.Frag) (b : Bool) (ta : TA) : TI := fun σ H R => ta σ H fun vs H1 => ∃ a c k1 k2 xs ys, vs = [.ref a, .ref c] ∧ SqK K H1 a xs k1 ∧ SqK K H1 c ys k2 ∧ R (ItZ K b k1 k2 a c) H1
section
variable {X : Cx} {p pos tpos : Pos} {elts : List Expr} {kk : Nat}
theorem zip_after {a c : Addr} {b : Bool} {k1 k2 : SK} {xs ys : List V} {pins : List (Addr × Obj)} {σ : L2.St} {H : Hp} {s : Shared} {R : It → Hp → Prop} {its its2 : Array Value} {h' : Heap} (I : L2.Inv X pins σ H s) (la : a < s.heap.objs.size) (lc : c < s.heap.objs.size) (q : R (ItZ X.K b k1 k2 a c) H)
    (hz : IsZipB b h' (s.heap.objs.size + 4) (s.heap.objs.size + 2) (s.heap.objs.size + 3) .none) (hTI : IsTupOf2 h' (s.heap.objs.size + 2) (.ref s.heap.objs.size) (.ref (s.heap.objs.size + 1)))
    (hTO : IsTupOf2 h' (s.heap.objs.size + 3) .none .none) (h1 : h'.get? s.heap.objs.size = some (objK a k1)) (h2 : h'.get? (s.heap.objs.size + 1) = some (objK c k2))
    (hk : ∀ d o, s.heap.get? d = some o → h'.get? d = some o) :
    wpAny (model X.prog X.w) X.A (pyIter (.ref (s.heap.objs.size + 4))) (PIE X pins σ (.Tuple elts kk tpos) R) X.xe { s with heap := h' } := by
  refine zipB_iter hz ?_
  have fresh5 : ∀ d, d ∈ [s.heap.objs.size + 4, s.heap.objs.size + 2, s.heap.objs.size + 3, s.heap.objs.size, s.heap.objs.size + 1] → FpOk X pins H d := fun d hd => by
    simp only [List.mem_cons, List.not_mem_nil, or_false] at hd
    have hle : s.heap.objs.size ≤ d := by omega
    exact I.fpOk hle (I.hok.fresh hle)
  have I2 : L2.Inv X pins σ H { s with heap := h' } := I.kept (t' := s.toks) hk
  have S : ZipSep2 (s.heap.objs.size + 4) (s.heap.objs.size + 2) (s.heap.objs.size + 3) s.heap.objs.size (s.heap.objs.size + 1) [s.heap.objs.size, a] [s.heap.objs.size + 1, c] := by
    have n1 : ∀ j, ¬ s.heap.objs.size + j = a := fun j => Nat.ne_of_gt (Nat.lt_of_lt_of_le la (Nat.le_add_right _ _))
    have n2 : ∀ j, ¬ s.heap.objs.size + j = c := fun j => Nat.ne_of_gt (Nat.lt_of_lt_of_le lc (Nat.le_add_right _ _))
    have n3 := n1 0
    have n4 := n2 0
    constructor <;> simp [n1, n2] <;> first | exact n3 | exact n4 | skip
  exact ⟨s.heap.objs.size + 4, _, _, _, H, rfl, I2, turn_Z S (Nat.ne_of_lt la) (Nat.ne_of_lt (Nat.lt_succ_of_lt lc)), ⟨hz, hTI, ⟨_, _, hTO⟩, ItK.start h1, ItK.start h2⟩, fresh5, q⟩
theorem pi_zip2 {e e2 : Expr} {ta : TA} (hg : Gl X "zip") (hm : X.mg "zip" = none) (ha : PA X [e, e2] ta)
    (hs : starEach [e, e2] X.env = (false, eval e X.env) :: starEach [e2] X.env) (hpl : (backTo pos (starEach [e2] X.env)).any (·.1) = false) :
    PI X (.Tuple elts kk tpos) (.Call (.Name "zip" p) [e, e2] [] pos) (iZ X.K false ta) := by
  refine ⟨fun pins s σ H R I h => ?_⟩
  refine Call_ (ld_blt I hg hm PyProof.Rows.boot_zip (PyProof.Rows.callWith_type1 (thn (ha.run pos pins s σ H _ I h) fun us s1 ⟨vs, H1, I1, r1, q1⟩ => ?_) hs hpl))
  obtain ⟨a, c, k1, k2, xs, ys, ex, hqx, hqy, q⟩ := q1
  subst ex
  cases r1 with
  | cons r rr =>
    cases rr with
    | cons r' rr =>
      cases rr
      cases r
      cases r'
      obtain ⟨its, rv, p1, la⟩ := inv_K I1 hqx
      obtain ⟨its2, rv2, p2, lc⟩ := inv_K I1 hqy
      refine zip_begins2 (beginsK a its.toArray k1) (beginsK c its2.toArray k2) p1 p2 fun h' hz hTI hTO h1 h2 hsz hk => ?_
      exact zip_after (xs := xs) (ys := ys) (its := #[]) (its2 := #[]) I1 la lc q hz hTI hTO h1 h2 hk
theorem pi_zipS {e e2 : Expr} {ta : TA} {cpos kpos : Pos} {j : Nat} (hg : Gl X "zip") (hm : X.mg "zip" = none) (ha : PA X [e, e2] ta)
    (hs : backTo pos (starEach [e, e2] X.env) = (false, eval e X.env) :: backTo pos (starEach [e2] X.env)) (hpl : (backTo pos (starEach [e, e2] X.env)).any (·.1) = false) :
    PI X (.Tuple elts kk tpos) (.Call (.Name "zip" p) [e, e2] [⟨some "strict", .Constant (.bool true) j cpos, kpos⟩] pos) (iZ X.K true ta) := by
  refine ⟨fun pins s σ H R I h => ?_⟩
  refine wpAny_Call_Name_kw (ld_blt I hg hm PyProof.Rows.boot_zip (callWith_kwT (thn (ha.run pos pins s σ H _ I h) fun us s1 ⟨vs, H1, I1, r1, q1⟩ => ?_) hs hpl))
  have pk := pk_cons (nm := some "strict") (kpos := kpos) (pe_bl (X := X) (b := true) (j := j) (pos := cpos)) (pk_nil (X := X))
  refine thn (pk.run pos pins s1 σ H1 (fun ws H2 => H2 = H1 ∧ ws = [.bl true]) I1 ?_) fun us2 s2 ⟨vs2, H2, I2, r2, hH, hv⟩ => ?_
  · exact ⟨rfl, rfl⟩
  subst hH hv
  have e3 : us2 = [.bool true] := by
    cases r2 with
    | cons r rr =>
      cases rr
      rw [show _ = Value.bool true from r]
  subst e3
  obtain ⟨a, c, k1, k2, xs, ys, ex, hqx, hqy, q⟩ := q1
  subst ex
  cases r1 with
  | cons r rr =>
    cases rr with
    | cons r' rr =>
      cases rr
      cases r
      cases r'
      obtain ⟨its, rv, p1, la⟩ := inv_K I2 hqx
      obtain ⟨its2, rv2, p2, lc⟩ := inv_K I2 hqy
      refine zip_beginsB (beginsK a its.toArray k1) (beginsK c its2.toArray k2) p1 p2 fun h' hz hTI hTO h1 h2 hsz hk => ?_
      exact zip_after (xs := xs) (ys := ys) (its := #[]) (its2 := #[]) I2 la lc q hz hTI hTO h1 h2 hk
theorem iz_of {b : Bool} {m : M (List D)} {σ : L2.St} {H : Hp} {R : It → Hp → Prop} (h : tM X.K (rI X.K) (bd m (zipM b)) σ H R) : iZ X.K b (tM X.K (rDs X.K) m) σ H R := by
  obtain ⟨ow, en, st, g⟩ := h
  obtain ⟨ds, en', h1, h2⟩ := g.bind (rep2 := rDs X.K)
  refine ⟨ow, en, st, ds, en', h1, fun H' ow' vs x s' q => ?_⟩
  obtain ⟨ow1, en1, c, x1, s1, q1, g1⟩ := h2 H' ow' vs x s' q
  unfold zipM at g1
  split at g1
  · rename_i x y
    cases e1 : seqD x with
    | none =>
      rw [e1] at g1
      exact (show Go X.K (rI X.K) σ (stuck en1) H' ow1 R from g1).stuck_.elim
    | some xs =>
      cases e2 : seqD y with
      | none =>
        rw [e1, e2] at g1
        exact (show Go X.K (rI X.K) σ (stuck en1) H' ow1 R from g1).stuck_.elim
      | some ys =>
        rw [e1, e2] at g1
        dsimp only at g1
        split at g1
        · rename_i hb
          cases q1 with
          | cons r1 rr =>
            cases rr with
            | cons r2 rr =>
              cases rr
              obtain ⟨a1, vs1, k1, rfl, t1, u1⟩ := seqD_ok e1 r1
              obtain ⟨a2, vs2, k2, rfl, t2, u2⟩ := seqD_ok e2 r2
              refine ⟨a1, a2, k1, k2, vs1, vs2, rfl, SqK.mono res_sub t1, SqK.mono res_sub t2, g1.ret_ (.refl _ _) s1 (rI_zip t1 t2 u1 u2 fun z => ?_)⟩
              rw [z] at hb
              simpa using hb
        · exact g1.stuck_.elim
  · exact g1.stuck_.elim
/-! enumerate -/
theorem meets_enumerate_new1 {v : Value} {o : Obj} {H : Heap → Prop} (B : Begins v o H) :
    Meets (Builtin.«enumerate.__new__» ⟨[.type "enumerate", v], []⟩) (fun _ R s => H s.heap ∧
      R (.ok (.ret (.ref (s.heap.push o).objs.size))) { s with heap := (s.heap.push o).push { cls := .type "enumerate", data := .fields #[.none, .bool false, .ref s.heap.objs.size, rawInt 0, .none, .none] } }) :=
  .of_wp fun prog w A R s h => by
    obtain ⟨hp, g, d, tk, os⟩ := s; obtain ⟨h1, h⟩ := h
    have hsub := sub_enumerate
    have q1 : ∀ {A' : Around} {E : Value → Shared → Prop} {Q : Value → Shared → Prop}, Q (.ref hp.objs.size) ⟨hp.push o, g, d, tk, os⟩ → wpAny (model prog w) A' (pyIter v) Q E ⟨hp, g, d, tk, os⟩ :=
      fun q => B.iter prog w _ _ ⟨hp, g, d, tk, os⟩ _ h1 q
    wp_walk using q1
    refine wpAny_stack_any fun st => wpAny_pure ?_
    split
    · rename_i c _ _ _ _ _
      cases (c == Value.type "enumerate")
      · wp_walk using q1
        exact ⟨_, rfl, h⟩
      · wp_walk using q1
        exact ⟨_, rfl, h⟩
    · wp_walk using q1
      exact ⟨_, rfl, h⟩
theorem enum_begins1 {prog : Program} {w : World} {A : Around} {E : Value → Shared → Prop} {s : Shared} {v : Value} {o : Obj} {H : Heap → Prop} {Q : Value → Shared → Prop} (B : Begins v o H) (h1 : H s.heap)
    (h : ∀ h', IsEnum h' (s.heap.objs.size + 1) s.heap.objs.size 0 .none → h'.get? s.heap.objs.size = some o → h'.objs.size = s.heap.objs.size + 2 →
      (∀ b o, s.heap.get? b = some o → h'.get? b = some o) → Q (.ref (s.heap.objs.size + 1)) { s with heap := h' }) :
    wpAny (model prog w) A (call (.type "enumerate") [v]) Q E s := by
  refine callType_new F.called_enumerate (by decide) (F.typeCall_enumerate_1 _) (F.newCall_enumerate_1 _) (fun obj => F.args_object_init_2 obj _) F.entry_enumerate_new
    (meets_enumerate_new1 B) ⟨h1, ?_⟩
  have hz : (s.heap.push o).objs.size = s.heap.objs.size + 1 := Heap.size_push ..
  show _ ∧ _
  rw [hz]
  have he : IsEnum ((s.heap.push o).push { cls := .type "enumerate", data := .fields #[.none, .bool false, .ref s.heap.objs.size, rawInt 0, .none, .none] }) (s.heap.objs.size + 1) s.heap.objs.size 0 .none := by
    have := Heap.get?_push_size (s.heap.push o) (o := { cls := .type "enumerate", data := .fields #[.none, .bool false, .ref s.heap.objs.size, rawInt 0, .none, .none] }) rfl
    rw [hz] at this; exact this
  refine ⟨⟨_, he, rfl⟩, h _ he (Heap.get?_push_of_some _ (Heap.get?_push_size _ B.free)) (by rw [Heap.size_push, hz]) fun b o x => Heap.get?_push_of_some _ (Heap.get?_push_of_some _ x)⟩
def iE (K : PySem.W.Frag) (ta : TA) : TI := fun σ H R => ta σ H fun vs H1 => ∃ a k xs, vs = [.ref a] ∧ SqK K H1 a xs k ∧ R (ItE K k a) H1
theorem pi_enum1 {e : Expr} {ta : TA} (hg : Gl X "enumerate") (hm : X.mg "enumerate" = none) (ha : PA X [e] ta) (hs : starEach [e] X.env = [(false, eval e X.env)]) :
    PI X (.Tuple elts kk tpos) (.Call (.Name "enumerate" p) [e] [] pos) (iE X.K ta) := by
  refine ⟨fun pins s σ H R I h => ?_⟩
  refine Call_ (ld_blt I hg hm boot_enumerate (PyProof.Rows.callWith_type1 (thn (ha.run pos pins s σ H _ I h) fun us s1 ⟨vs, H1, I1, r1, q1⟩ => ?_) hs rfl))
  obtain ⟨a, k, xs, ex, hq, q⟩ := q1
  subst ex
  cases r1 with
  | cons r rr =>
    cases rr
    cases r
    obtain ⟨its, rv, p', la⟩ := inv_K I1 hq
    refine enum_begins1 (beginsK a its.toArray k) p' fun h' he h1 hsz hk => wpAny_pyIter_enum he ?_
    have I2 : L2.Inv X pins σ H1 { s1 with heap := h' } := I1.kept (t' := s1.toks) hk
    refine ⟨s1.heap.objs.size + 1, [s1.heap.objs.size + 1, s1.heap.objs.size], _, _, H1, rfl, I2, turn_E (Nat.ne_of_lt la) (Nat.succ_ne_self _) (Nat.ne_of_gt (Nat.lt_succ_of_lt la)), ⟨⟨.none, he⟩, ItK.start h1⟩, fun b hb => ?_, q⟩
    have e' : b = s1.heap.objs.size + 1 ∨ b = s1.heap.objs.size := by simpa using hb
    have hle : s1.heap.objs.size ≤ b := by
      rcases e' with z | z
      · rw [z]; exact Nat.le_add_right _ _
      · rw [z]; exact Nat.le_refl _
    exact I1.fpOk hle (I1.hok.fresh hle)
theorem ie_of {m : M (List D)} {σ : L2.St} {H : Hp} {R : It → Hp → Prop} (h : tM X.K (rI X.K) (bd m enumM) σ H R) : iE X.K (tM X.K (rDs X.K) m) σ H R := by
  obtain ⟨ow, en, st, g⟩ := h
  obtain ⟨ds, en', h1, h2⟩ := g.bind (rep2 := rDs X.K)
  refine ⟨ow, en, st, ds, en', h1, fun H' ow' vs x s' q => ?_⟩
  obtain ⟨ow1, en1, c, x1, s1, q1, g1⟩ := h2 H' ow' vs x s' q
  unfold enumM at g1
  split at g1
  · rename_i x
    cases e1 : seqD x with
    | none =>
      rw [e1] at g1
      exact (show Go X.K (rI X.K) σ (stuck en1) H' ow1 R from g1).stuck_.elim
    | some xs =>
      rw [e1] at g1
      cases q1 with
      | cons r1 rr =>
        cases rr
        obtain ⟨a1, vs1, k1, rfl, t1, u1⟩ := seqD_ok e1 r1
        exact ⟨a1, k1, vs1, rfl, SqK.mono res_sub t1, (show Go X.K (rI X.K) σ (ret (enumD xs) en1) H' ow1 R from g1).ret_ (.refl _ _) s1 (rI_enum t1 u1)⟩
  · exact g1.stuck_.elim
theorem di_zip2 {e e2 : Expr} {m : M (List D)} (hg : Gl X "zip") (hm : X.mg "zip" = none) (ha : DA X [e, e2] m)
    (hs : starEach [e, e2] X.env = (false, eval e X.env) :: starEach [e2] X.env) (hpl : (backTo pos (starEach [e2] X.env)).any (·.1) = false) :
    DI X (.Tuple elts kk tpos) (.Call (.Name "zip" p) [e, e2] [] pos) (bd m (zipM false)) := PI.of (pi_zip2 hg hm ha hs hpl) fun σ H R h => iz_of h
theorem di_zipS {e e2 : Expr} {m : M (List D)} {cpos kpos : Pos} {j : Nat} (hg : Gl X "zip") (hm : X.mg "zip" = none) (ha : DA X [e, e2] m)
    (hs : backTo pos (starEach [e, e2] X.env) = (false, eval e X.env) :: backTo pos (starEach [e2] X.env)) (hpl : (backTo pos (starEach [e, e2] X.env)).any (·.1) = false) :
    DI X (.Tuple elts kk tpos) (.Call (.Name "zip" p) [e, e2] [⟨some "strict", .Constant (.bool true) j cpos, kpos⟩] pos) (bd m (zipM true)) := PI.of (pi_zipS hg hm ha hs hpl) fun σ H R h => iz_of h
theorem di_enum1 {e : Expr} {m : M (List D)} (hg : Gl X "enumerate") (hm : X.mg "enumerate" = none) (ha : DA X [e] m) (hs : starEach [e] X.env = [(false, eval e X.env)]) :
    DI X (.Tuple elts kk tpos) (.Call (.Name "enumerate" p) [e] [] pos) (bd m enumM) := PI.of (pi_enum1 hg hm ha hs) fun σ H R h => ie_of h
end
end DL

namespace DL
open PySem PySem.W PySem.Spec PyProof.Rows L2
/-! ### targets -/
/-- protected slots stay -/
structure Kp (pr : Nat → Bool) (σ σ' : L2.St) : Prop where
  len : σ'.length = σ.length
  eqs : ∀ i, pr i = true → σ'[i]? = σ[i]?
theorem Kp.refl {pr : Nat → Bool} {σ : L2.St} : Kp pr σ σ := ⟨rfl, fun _ _ => rfl⟩
theorem Kp.trans {pr : Nat → Bool} {σ σ1 σ2 : L2.St} (a : Kp pr σ σ1) (b : Kp pr σ1 σ2) : Kp pr σ σ2 := ⟨b.len.trans a.len, fun i h => (b.eqs i h).trans (a.eqs i h)⟩
abbrev Tg := B → Env → Option Env
abbrev Tgs := List D → Env → Option Env
def gM (K : PySem.W.Frag) (pr : Nat → Bool) (t : Tg) : TG := fun v σ H Q => ∃ ow en b en', Sta K H ow σ en ∧ BRep K H ow none b v ∧ t b en = some en' ∧ ∀ H' ow' σ', Ext H ow H' ow' → Sta K H' ow' σ' en' → Kp pr σ σ' → Q σ' H'
def gsM (K : PySem.W.Frag) (pr : Nat → Bool) (t : Tgs) : TGs := fun vs σ H Q => ∃ ow en ds en', Sta K H ow σ en ∧ RpAll K (Fz H ow) vs ds ∧ t ds en = some en' ∧ ∀ H' ow' σ', Ext H ow H' ow' → Sta K H' ow' σ' en' → Kp pr σ σ' → Q σ' H'
theorem PGs.of {X : Cx} {es : List Expr} {t t' : TGs} (h : PGs X es t) (w : ∀ v σ H Q, t' v σ H Q → t v σ H Q) : PGs X es t' := ⟨fun pins s σ H v u Q I r q => h.run pins s σ H v u Q I r (w v σ H Q q)⟩
def DG (X : Cx) (Z : Stat) (tg : Expr) (t : Tg) : Prop := PG X tg (gM X.K Z.pr t)
def DGs (X : Cx) (Z : Stat) (es : List Expr) (t : Tgs) : Prop := PGs X es (gsM X.K Z.pr t)
/-- the slot that a name binds -/
def bindSlot (Z : Stat) (x : Str) : Option Nat := match Z.N.idxOf? x with
  | some i => match Z.pr i with
    | true => none
    | false => match Z.sc.names.lookup x with
      | some .local => some i
      | some .cell => match Z.blk with
        | none => some i
        | some s => if (s.names.lookup x == some .cell) = true then some i else none
      | _ => none
  | none => none
def setE (i : Nat) : Tg := fun b en => if i < en.length then some (en.set i (some b)) else none
/-- what was just reckoned goes to slot i -/
def adopt (i : Nat) (ow : Ow) : Ow := fun b => match ow b with
  | .own none k => .own (some i) k
  | l => l
theorem adopt_ext {H : Hp} {ow : Ow} {i : Nat} : Ext H ow H (adopt i ow) := ⟨fun b h => ⟨by unfold adopt; rw [h], rfl⟩, fun b h => ⟨by unfold adopt; rw [h], rfl⟩⟩
theorem sta_set {K : PySem.W.Frag} {H : Hp} {ow : Ow} {σ : L2.St} {en : Env} {i : Nat} {b : B} {v : V} (s : Sta K H ow σ en) (r : BRep K H ow none b v) (hi : i < en.length) : Sta K H (adopt i ow) (σ.set i (some v)) (en.set i (some b)) := by
  have ex : Ext H ow H (adopt i ow) := adopt_ext
  refine ⟨by rw [List.length_set, List.length_set]; exact s.len, fun j c h => ?_, fun c h => ?_⟩
  · by_cases e : i = j
    · subst e
      rw [List.getElem?_set_self hi] at h
      cases h
      refine ⟨v, by rw [List.getElem?_set_self (by rw [← s.len]; exact hi)], BRep.move ex.fz (fun b k e => ⟨by unfold adopt; rw [e], rfl⟩) r⟩
    · rw [List.getElem?_set_ne e] at h
      obtain ⟨w, w1, w2⟩ := s.rep j c h
      exact ⟨w, by rw [List.getElem?_set_ne e]; exact w1, BRep.mono ex.fz (fun b k e => ⟨by unfold adopt; rw [e], rfl⟩) w2⟩
  · refine s.dom c fun z => h ?_
    unfold adopt
    rw [z]
section
variable {G : Glob} {cs : Calls} {k : Nat} {Z : Stat} {X : Cx}
theorem bind_ok (g : Good G cs k Z X) {x : Str} {i : Nat} (h : bindSlot Z x = some i) : X.N[i]? = some x ∧ Loc X.env.scope x ∧ (X.fn x = true ∨ X.env.scope.names.lookup x = some .local) ∧ Z.pr i = false := by
  unfold bindSlot at h
  cases e : Z.N.idxOf? x with
  | none => rw [e] at h; cases h
  | some j =>
    rw [e] at h
    dsimp only at h
    have hx : X.N[j]? = some x := by
      rw [g.hN]
      unfold List.idxOf? at e
      rw [List.findIdx?_eq_some_iff_getElem] at e
      obtain ⟨h1, h2, _⟩ := e
      rw [List.getElem?_eq_getElem h1]
      exact congrArg some (by simpa using h2)
    cases p : Z.pr j with
    | true => rw [p] at h; cases h
    | false =>
      rw [p] at h
      dsimp only at h
      split at h
      · cases h
        rename_i hl
        have hl' : X.env.scope.names.lookup x = some .local := by rw [g.sc]; exact hl
        exact ⟨hx, .inl hl', .inr hl', p⟩
      · rename_i hl
        have hl' : X.env.scope.names.lookup x = some .cell := by rw [g.sc]; exact hl
        split at h
        · cases h
          rename_i hb
          refine ⟨hx, .inr hl', .inl ?_, p⟩
          rw [g.fn]
          unfold fnOf
          rw [hb]
        · split at h
          · cases h
            rename_i s hb hc
            refine ⟨hx, .inr hl', .inl ?_, p⟩
            rw [g.fn]
            unfold fnOf
            rw [hb]
            exact hc
          · cases h
      · cases h
theorem dg_stuck {tg : Expr} : DG X Z tg (fun _ _ => none) := ⟨fun pins s σ H v u Q I r ⟨ow, en, b, en', _, _, z, _⟩ => by cases z⟩
theorem dg_name (g : Good G cs k Z X) {x : Str} {i : Nat} {pos : Pos} (h : bindSlot Z x = some i) : DG X Z (.Name x pos) (setE i) := by
  obtain ⟨h1, h2, h3, h4⟩ := bind_ok g h
  refine PG.of (pg_name g.nd h1 h2 h3) fun v σ H Q ⟨ow, en, b, en', s, r, e, q⟩ => ?_
  unfold setE at e
  split at e
  · cases e
    rename_i hi
    refine q _ _ _ adopt_ext (sta_set s r hi) ⟨List.length_set .., fun j hj => ?_⟩
    refine List.getElem?_set_ne fun z => ?_
    rw [z, hj] at h4
    cases h4
  · cases e
def tgsE (f : Expr → Tg) : List Expr → Tgs
  | [], [] => some
  | e :: es, d :: ds => fun en => match f e (.val d) en with
    | some en' => tgsE f es ds en'
    | none => none
  | _, _ => fun _ => none
theorem assign_cons {e : Expr} {es : List Expr} {env : PySem.Env} (h : notStar e = true) : assignEach (e :: es) env = (false, assign e env) :: assignEach es env := by
  cases e <;> first | rfl | cases h
theorem assign_len {env : PySem.Env} : ∀ {es : List Expr}, es.all notStar = true → (assignEach es env).length = es.length
  | [], _ => rfl
  | e :: es, h => by
    rw [List.all_cons, Bool.and_eq_true] at h
    rw [assign_cons h.1]
    exact congrArg Nat.succ (assign_len h.2)
theorem assign_nostar {env : PySem.Env} : ∀ {es : List Expr}, es.all notStar = true → (assignEach es env).findIdx? (·.1) = none
  | [], _ => rfl
  | e :: es, h => by
    rw [List.all_cons, Bool.and_eq_true] at h
    rw [assign_cons h.1, List.findIdx?_cons]
    simp [assign_nostar h.2]
theorem dgs_list {f : Expr → Tg} : ∀ {es : List Expr}, es.all notStar = true → (∀ e ∈ es, DG X Z e (f e)) → DGs X Z es (tgsE f es)
  | [], _, _ => PGs.of pgs_nil fun vs σ H Q ⟨ow, en, ds, en', s, r, e, q⟩ => by
    cases r with
    | nil =>
      cases e
      exact ⟨rfl, q H ow σ (.refl _ _) s .refl⟩
    | cons _ _ => cases e
  | e :: es, hs, h => by
    rw [List.all_cons, Bool.and_eq_true] at hs
    have ih := dgs_list (f := f) hs.2 fun e' he' => h e' (List.mem_cons_of_mem _ he')
    refine PGs.of (pgs_cons (h e List.mem_cons_self) ih (by rw [assign_cons hs.1]; rfl)) fun vs σ H Q ⟨ow, en, ds, en', s, r, e1, q⟩ => ?_
    cases r with
    | nil => cases e1
    | @cons v vs d ds r rr =>
      have e1' : (match f e (.val d) en with
        | some en' => tgsE f es ds en'
        | none => none) = some en' := e1
      cases e2 : f e (.val d) en with
      | none => rw [e2] at e1'; cases e1'
      | some en2 =>
        rw [e2] at e1'
        refine ⟨v, vs, rfl, ow, en, .val d, en2, s, r, e2, fun H' ow' σ' x s' kp => ?_⟩
        exact ⟨ow', en2, ds, en', s', RpAll.mono x.fz rr, e1', fun H2 ow2 σ2 x2 s2 kp2 => q H2 ow2 σ2 (x.trans x2) s2 (kp.trans kp2)⟩
def tupT (n : Nat) (t : Tgs) : Tg := fun b en => match b with
  | .val (.tuple ds) => if ds.length = n then t ds en else none
  | .val (.list ds) => if ds.length = n then t ds en else none
  | .lst ds => if ds.length = n then t ds en else none
  | _ => none
theorem dg_tup (g : Good G cs k Z X) {es : List Expr} {j : Nat} {pos : Pos} {t : Tgs} (hs : es.all notStar = true) (h : DGs X Z es t) : DG X Z (.Tuple es j pos) (tupT es.length t) := by
  refine ⟨fun pins s σ H v u Q I rv hw => ?_⟩
  obtain ⟨ow, en, b, en', s1, r, e, q⟩ := hw
  unfold tupT at e
  split at e
  · rename_i ds
    split at e
    · rename_i hl
      obtain ⟨a, xs, rfl, h1, h2⟩ := rp_tup (show Rp X.K (Fz H ow) v _ from r)
      exact (pg_tup g.calm h (assign_len hs) (assign_nostar hs)).run pins s σ H _ u Q I rv ⟨a, xs, rfl, Same.sqT res_sub h1, h2.length.trans hl, ow, en, ds, en', s1, h2, e, q⟩
    · cases e
  · rename_i ds
    split at e
    · rename_i hl
      obtain ⟨a, xs, rfl, h1, h2⟩ := rp_lst (show Rp X.K (Fz H ow) v _ from r)
      exact (pg_lst g.calm h (assign_len hs) (assign_nostar hs)).run pins s σ H _ u Q I rv ⟨a, xs, rfl, SqL.of (res_sub _ _ h1), h2.length.trans hl, ow, en, ds, en', s1, h2, e, q⟩
    · cases e
  · rename_i ds
    split at e
    · rename_i hl
      obtain ⟨a, xs, rfl, h1, h2, h3⟩ := r
      exact (pg_lst g.calm h (assign_len hs) (assign_nostar hs)).run pins s σ H _ u Q I rv ⟨a, xs, rfl, SqL.of h2, h3.length.trans hl, ow, en, ds, en', s1, h3, e, q⟩
    · cases e
  · cases e
/-- a target: names, tuples of targets -/
def tgE (Z : Stat) : Nat → Expr → Tg
  | 0, _ => fun _ _ => none
  | n + 1, e => match e with
    | .Name x _ => (match bindSlot Z x with
      | some i => setE i
      | none => fun _ _ => none)
    | .Tuple es _ _ => (match es.all notStar with
      | true => tupT es.length (tgsE (tgE Z n) es)
      | false => fun _ _ => none)
    | _ => fun _ _ => none
theorem dg_ok (g : Good G cs k Z X) : ∀ (n : Nat) (e : Expr), DG X Z e (tgE Z n e)
  | 0, _ => dg_stuck
  | n + 1, e => by
    cases e with
    | Name x pos =>
      show DG X Z _ (match bindSlot Z x with
        | some i => setE i
        | none => fun _ _ => none)
      split
      · exact dg_name g (by assumption)
      · exact dg_stuck
    | Tuple es j pos =>
      show DG X Z _ (match es.all notStar with
        | true => tupT es.length (tgsE (tgE Z n) es)
        | false => fun _ _ => none)
      split
      · exact dg_tup g (by assumption) (dgs_list (by assumption) fun e _ => dg_ok g n e)
      · exact dg_stuck
    | _ => exact dg_stuck
end
/-! ### comprehensions -/
def wipeE (en : Env) : List Nat → Env
  | [] => en
  | v :: vs => (wipeE en vs).set v none
def keepB : Option B → Option B
  | some (.val d) => some (.val d)
  | some (.scr ns) => some (.scr ns)
  | _ => none
/-- the block's own names as they were -/
def restE (vs : List Nat) (en0 en : Env) : Env := en.mapIdx fun i b => match vs.contains i with
  | true => match en0[i]? with
    | some b => keepB b
    | none => none
  | false => b
def lcL (vs : List Nat) (asg : Tg) (tt : M Bool) (te : M D) : List D → List D → Env → Option (List D × Env)
  | [], acc, en => some (acc, en)
  | d :: ds, acc, en => match asg (.val d) (wipeE en vs) with
    | none => none
    | some en1 => match tt en1 with
      | none => none
      | some (false, en2) => lcL vs asg tt te ds acc en2
      | some (true, en2) => match te en2 with
        | none => none
        | some (y, en3) => if acc.length < cap then lcL vs asg tt te ds (acc ++ [y]) en3 else none
def lcE (vs : List Nat) (mi : M (List D)) (asg : Tg) (tt : M Bool) (te : M D) : M B := fun en => match mi en with
  | none => none
  | some (ds, en1) => match lcL vs asg tt te ds [] en1 with
    | none => none
    | some (acc, en2) => some (.lst acc, restE vs en1 en2)
theorem wipeE_len {en : Env} : ∀ vs : List Nat, (wipeE en vs).length = en.length
  | [] => rfl
  | v :: vs => by unfold wipeE; rw [List.length_set, wipeE_len vs]
theorem wipeE_some {en : Env} {i : Nat} {b : B} : ∀ {vs : List Nat}, (wipeE en vs)[i]? = some (some b) → en[i]? = some (some b) ∧ i ∉ vs
  | [], h => ⟨h, by simp⟩
  | v :: vs, h => by
    unfold wipeE at h
    by_cases hi : v = i
    · subst hi
      by_cases hv : v < (wipeE en vs).length
      · rw [List.getElem?_set_self hv] at h; cases h
      · rw [List.getElem?_eq_none (by simpa using hv)] at h; cases h
    · rw [List.getElem?_set_ne hi] at h
      obtain ⟨h1, h2⟩ := wipeE_some h
      exact ⟨h1, by simp only [List.mem_cons, not_or]; exact ⟨fun e => hi e.symm, h2⟩⟩
theorem sta_wipe {K : PySem.W.Frag} {H : Hp} {ow : Ow} {σ : L2.St} {en : Env} (vs : List Nat) (s : Sta K H ow σ en) : Sta K H ow (wipe σ vs) (wipeE en vs) :=
  ⟨by rw [wipeE_len, wipe_length]; exact s.len, fun i b h => by
    obtain ⟨h1, h2⟩ := wipeE_some h
    obtain ⟨v, v1, v2⟩ := s.rep i b h1
    exact ⟨v, by rw [wipe_out h2]; exact v1, v2⟩, s.dom⟩
theorem wipe_kp {vs : List Nat} {σ σ' : L2.St} (k : Kp (fun i => !vs.contains i) (wipe σ vs) σ') : wipe σ' vs = wipe σ vs := by
  have h1 : ∀ j, j ∈ vs → ∀ (τ : L2.St), τ.length = σ.length → (wipe τ vs)[j]? = if j < σ.length then some none else none := fun j hj τ hl => by
    cases e : (wipe τ vs)[j]? with
    | none =>
      rw [List.getElem?_eq_none_iff, wipe_length, hl] at e
      rw [if_neg (by omega)]
    | some o =>
      have hlt := (List.getElem?_eq_some_iff.mp e).1
      rw [wipe_length, hl] at hlt
      rw [if_pos hlt]
      cases o with
      | none => rfl
      | some x =>
        have := (wipe_some e).2
        exact absurd hj this
  have hl : σ'.length = σ.length := by rw [k.len, wipe_length]
  apply List.ext_getElem?
  intro j
  by_cases hj : j ∈ vs
  · rw [h1 j hj σ' hl, h1 j hj σ rfl]
  · rw [wipe_out hj, k.eqs j (by simpa using hj)]
section
variable {K : PySem.W.Frag}
theorem sta_unlab {H : Hp} {ow : Ow} {σ : L2.St} {en : Env} {a : Addr} {l : Lab} (s : Sta K H ow σ en) (h : ow a = .frm) (hl : l ≠ .out) : Sta K H (setL ow a l) σ en := by
  have ne : ∀ b, ow b ≠ .frm → b ≠ a := fun b z e => z (by rw [e]; exact h)
  refine ⟨s.len, fun i b q => ?_, fun b q => ?_⟩
  · obtain ⟨v, v1, v2⟩ := s.rep i b q
    refine ⟨v, v1, BRep.mono (fun b o e => ?_) (fun b k e => ?_) v2⟩
    · obtain ⟨e1, e2⟩ := res_some e
      exact (res_at (by rw [setL_ne (ne b (by rw [e1]; intro z; cases z))]; exact e1)).trans e2
    · rw [setL_ne (ne b (by rw [e]; intro z; cases z))]
      exact ⟨e, rfl⟩
  · by_cases e : b = a
    · rw [e]
      exact s.dom a (by rw [h]; intro z; cases z)
    · rw [setL_ne e] at q
      exact s.dom b q
theorem fz_unlab {H : Hp} {ow : Ow} {a : Addr} {l : Lab} (h : ow a = .frm) : Same (Fz H ow) (Fz H (setL ow a l)) := fun b o e => by
  obtain ⟨e1, e2⟩ := res_some e
  exact (res_at (by rw [setL_ne (by intro z; rw [z, h] at e1; cases e1)]; exact e1)).trans e2
theorem fz_upfrm {H : Hp} {ow : Ow} {a : Addr} {o : HO} (h : ow a = .frm) : Same (Fz H ow) (Fz (upd H a o) ow) := fun b p e => by
  obtain ⟨e1, e2⟩ := res_some e
  exact (res_at e1).trans ((upd_ne (by intro z; rw [z, h] at e1; cases e1)).trans e2)
theorem sta_upfrm {H : Hp} {ow : Ow} {σ : L2.St} {en : Env} {a : Addr} {o : HO} (s : Sta K H ow σ en) (h : ow a = .frm) : Sta K (upd H a o) ow σ en := by
  refine ⟨s.len, fun i b q => ?_, fun b q => ?_⟩
  · obtain ⟨v, v1, v2⟩ := s.rep i b q
    exact ⟨v, v1, BRep.mono (fz_upfrm h) (fun b k e => ⟨e, upd_ne (by intro z; rw [z, h] at e; cases e)⟩) v2⟩
  · by_cases e : b = a
    · rw [e, upd_same]
      intro z
      cases z
    · rw [upd_ne e]
      exact s.dom b q
theorem sta_rest {H H' : Hp} {ow ow' : Ow} {σ σx : L2.St} {en0 en : Env} (vs : List Nat) (s0 : Sta K H ow σ en0) (x : Ext H ow H' ow') (s : Sta K H' ow' σx en) (ew : wipe σx vs = wipe σ vs) : Sta K H' ow' σ (restE vs en0 en) := by
  refine ⟨by unfold restE; rw [List.length_mapIdx, s.len, ← wipe_length σx vs, ew, wipe_length], fun i b h => ?_, s.dom⟩
  unfold restE at h
  rw [List.getElem?_mapIdx, Option.map_eq_some_iff] at h
  obtain ⟨b0, h0, h1⟩ := h
  cases c : vs.contains i with
  | true =>
    rw [c] at h1
    dsimp only at h1
    cases e : en0[i]? with
    | none => rw [e] at h1; cases h1
    | some o =>
      rw [e] at h1
      dsimp only at h1
      cases o with
      | none => cases h1
      | some b1 =>
        obtain ⟨v, v1, v2⟩ := s0.rep i b1 e
        cases b1 with
        | val d =>
          cases h1
          exact ⟨v, v1, Rp.mono x.fz v2⟩
        | scr ns =>
          cases h1
          obtain ⟨a, a1, a2⟩ := v2
          exact ⟨v, v1, a, a1, L2.Same.seq x.fz a2⟩
        | lst ds => cases h1
        | ins c fs => cases h1
        | dk c => cases h1
        | dt c => cases h1
  | false =>
    rw [c] at h1
    dsimp only at h1
    subst h1
    obtain ⟨v, v1, v2⟩ := s.rep i b h0
    rw [← wipe_out (vs := vs) (by simpa using c), ew, wipe_out (by simpa using c)] at v1
    exact ⟨v, v1, v2⟩
end
theorem tLc_of {K : PySem.W.Frag} {vs : List Nat} {mi : M (List D)} {asg : Tg} {tt : M Bool} {te : M D} {σ : L2.St} {H : Hp} {Q : VK} (h : tM K (rB K) (lcE vs mi asg tt te) σ H Q) :
    tLc (tM K (rI K) mi) (gM K (fun i => !vs.contains i) asg) (tM K rT tt) (tM K (rD K) te) vs σ H Q := by
  obtain ⟨ow, en, s, b, en', e, q⟩ := h
  unfold lcE at e
  cases e1 : mi en with
  | none => rw [e1] at e; cases e
  | some p =>
    obtain ⟨ds, en1⟩ := p
    rw [e1] at e
    dsimp only at e
    cases e2 : lcL vs asg tt te ds [] en1 with
    | none => rw [e2] at e; cases e
    | some p2 =>
      obtain ⟨accF, en2⟩ := p2
      rw [e2] at e
      cases e
      refine ⟨ow, en, s, ds, en1, e1, fun H1 ow1 J x1 s1 hJ Dd hD => ?_⟩
      have out1 : ow1 Dd = .out := by
        by_cases z : ow1 Dd = .out
        · exact z
        · exact absurd hD (s1.dom Dd z)
      have st1 := Step.new (o := .lst []) (l := .frm) s1.dom hD (fun i k z => by cases z)
      refine ⟨fun i m H => m = ds.length - i ∧ i ≤ ds.length ∧ ∃ ow en acc accV σx, Ext H1 ow1 H ow ∧ Sta K H ow σx en ∧ wipe σx vs = wipe σ vs ∧ ow Dd = .frm ∧ H Dd = some (.lst accV) ∧ RpAll K (Fz H ow) accV acc ∧ lcL vs asg tt te (ds.drop i) acc en = some (accF, en2), ?_, ?_⟩
      · refine ⟨_, rfl, Nat.zero_le _, setL ow1 Dd .frm, en1, [], [], σ, st1.ext, st1.sta s1, rfl, setL_same, upd_same, .nil, e2⟩
      · rintro i m H2 ⟨rfl, hi, ow2, en2', acc, accV, σx, x2, s2, ew, hl, hD2, hr, hq⟩
        have x12 : Ext H1 ow1 H2 ow2 := x2
        obtain ⟨jy, js⟩ := hJ H2 ow2 x12 s2.dom
        by_cases hlt : i < ds.length
        · refine .inr ?_
          have hd : ds[i]? = some ds[i] := List.getElem?_eq_getElem hlt
          obtain ⟨go, yl⟩ := jy i _ hd
          rw [List.drop_eq_getElem_cons hlt] at hq
          refine ⟨go, fun H => ∃ ow en acc accV σx, Ext H1 ow1 H ow ∧ Sta K H ow σx en ∧ wipe σx vs = wipe σ vs ∧ ow Dd = .frm ∧ H Dd = some (.lst accV) ∧ RpAll K (Fz H ow) accV acc ∧ lcL vs asg tt te (ds.drop (i + 1)) acc en = some (accF, en2), fun H' hN => ⟨_, by omega, rfl, by omega, hN⟩, fun x H3 y3 => ?_⟩
          obtain ⟨ow3, st3, rx⟩ := yl x H3 y3
          have s3 := st3.sta s2
          unfold lcL at hq
          cases a1 : asg (.val ds[i]) (wipeE en2' vs) with
          | none => rw [a1] at hq; cases hq
          | some en4 =>
            rw [a1] at hq
            dsimp only at hq
            have s3' := sta_wipe vs s3
            rw [ew] at s3'
            refine ⟨ow3, _, .val ds[i], en4, s3', rx, a1, fun H4 ow4 σ4 x4 s4 kp4 => ?_⟩
            have w4 := wipe_kp kp4
            refine ⟨w4, ow4, en4, s4, ?_⟩
            cases t1 : tt en4 with
            | none => rw [t1] at hq; cases hq
            | some pt =>
              obtain ⟨bt, en5⟩ := pt
              rw [t1] at hq
              refine ⟨bt, en5, rfl, fun H5 ow5 c x5 s5 ec => ?_⟩
              cases ec
              have x25 : Ext H2 ow2 H5 ow5 := (st3.ext.trans x4).trans x5
              have D5 := x25.frm Dd hl
              cases bt with
              | false =>
                rw [if_neg Bool.false_ne_true]
                exact ⟨ow5, en5, acc, accV, σ4, x2.trans x25, s5, w4, D5.1, D5.2.trans hD2, RpAll.mono x25.fz hr, hq⟩
              | true =>
                rw [if_pos rfl]
                dsimp only at hq
                refine ⟨ow5, en5, s5, ?_⟩
                cases t2 : te en5 with
                | none => rw [t2] at hq; cases hq
                | some pe =>
                  obtain ⟨y, en6⟩ := pe
                  rw [t2] at hq
                  dsimp only at hq
                  split at hq
                  · rename_i hc
                    refine ⟨y, en6, rfl, fun H6 ow6 yv x6 s6 ry => ?_⟩
                    have x26 := x25.trans x6
                    have D6 := x26.frm Dd hl
                    have hlen := hr.length
                    have D6' : H6 Dd = some (.lst accV) := D6.2.trans hD2
                    refine ⟨accV, D6', by rw [hlen, cap_eq]; exact hc, ?_⟩
                    have xw : Ext H1 ow1 (upd H6 Dd (.lst (accV ++ [yv]))) ow6 := by
                      have x := x12.trans x26
                      refine ⟨fun b hb => ?_, fun b hb => ?_⟩
                      · have n : b ≠ Dd := fun z => by rw [z, out1] at hb; cases hb
                        rw [upd_ne n]
                        exact x.frz b hb
                      · have n : b ≠ Dd := fun z => by rw [z, out1] at hb; cases hb
                        rw [upd_ne n]
                        exact x.frm b hb
                    exact ⟨ow6, en6, acc ++ [y], accV ++ [yv], σ4, xw, sta_upfrm s6 D6.1, w4, D6.1, upd_same, RpAll.mono (fz_upfrm D6.1) ((RpAll.mono x26.fz hr).append (.cons ry .nil)), hq⟩
                  · cases hq
        · have ei : i = ds.length := by omega
          subst ei
          refine .inl ⟨js, ?_⟩
          rw [List.drop_length] at hq
          cases hq
          have xe : Ext H1 ow1 H2 (setL ow2 Dd (.own none 0)) := by
            refine ⟨fun b hb => ?_, fun b hb => ?_⟩
            · have n : b ≠ Dd := fun z => by rw [z, out1] at hb; cases hb
              rw [setL_ne n]
              exact x12.frz b hb
            · have n : b ≠ Dd := fun z => by rw [z, out1] at hb; cases hb
              rw [setL_ne n]
              exact x12.frm b hb
          refine q H2 (setL ow2 Dd (.own none 0)) _ (x1.trans xe) (sta_rest vs s1 xe (sta_unlab s2 hl (by intro z; cases z)) ew) ⟨Dd, accV, rfl, setL_same, hD2, RpAll.mono (fz_unlab hl) hr⟩
end DL

namespace DL
open PySem PySem.W PySem.Spec PyProof.Rows L2
/-! ### comprehensions: the rule -/
def ownOf (N : List Str) (scope : Scope) : List (Str × Nat) := scope.names.filterMap fun y => match y.2 with
  | .local => (N.idxOf? y.1).map fun i => (y.1, i)
  | .cell => (N.idxOf? y.1).map fun i => (y.1, i)
  | _ => none
def vsOf (N : List Str) (scope : Scope) : List Nat := (ownOf N scope).map (·.2)
def blkZ (Z : Stat) (scope : Scope) : Stat := { Z with sc := relS scope Z.sc, blk := some scope, pr := fun i => !(vsOf Z.N scope).contains i }
def isSetD : Expr → Bool
  | .Set .. => true
  | _ => false
theorem folded_ok {iter : Expr} {env : PySem.Env} (h : isSetD iter = false) : ∀ x, foldedSetIterable iter env x = pure x := fun x => by
  cases iter <;> first | rfl | cases h
def DTs (X : Cx) (ifs : List Expr) (m : M Bool) : Prop := PTs X ifs (tM X.K rT m)
theorem PTs.of {X : Cx} {e : List Expr} {t t' : TT} (h : PTs X e t) (w : ∀ σ H Q, t' σ H Q → t σ H Q) : PTs X e t' := ⟨fun pins s σ H Q I q => h.run pins s σ H Q I (w σ H Q q)⟩
def ifsM (f : Expr → M Bool) : List Expr → M Bool
  | [] => ret true
  | [c] => f c
  | _ => stuck
theorem dts_ok {X : Cx} {f : Expr → M Bool} : ∀ {ifs : List Expr}, (∀ c ∈ ifs, DT X c (f c)) → DTs X ifs (ifsM f ifs)
  | [], _ => PTs.of pts_nil fun σ H Q ⟨ow, en, s, g⟩ => g.ret_ (.refl _ _) s (show rT H ow true true from rfl)
  | [c], h => pts_one (h c (by simp))
  | _ :: _ :: _, _ => ⟨fun pins s σ H Q I ⟨ow, en, s, g⟩ => (Go.stuck_ (en := en) g).elim⟩
section
variable {G : Glob} {cs : Calls} {k : Nat} {Z : Stat} {X : Cx}
theorem good_blk (g : Good G cs k Z X) (scope : Scope) (s : Shared) (H : Hp) (C : Addr) (cl : List (Str × Addr)) (fp : List Addr) : Good G cs k (blkZ Z scope) (X.blk s H scope (compEnvC scope cl C X.env) fp) where
  hN := g.hN
  sc := by
    show relS scope X.env.scope = relS scope Z.sc
    rw [g.sc]
  fn := rfl
  calm := g.calm
  xe := rfl
  nd := g.nd
  room := g.room
  free := g.free
  con := g.con
  fns := g.fns
  cls := g.cls
  mks := g.mks
theorem de_lc (g : Good G cs k Z X) {elt tg iter : Expr} {ifs : List Expr} {scope : Scope} {pos : Pos} {mi : M (List D)} {asg : Tg} {tt : M Bool} {te : M B} (hi : DI X tg iter mi) (hb : blkC Z.N Z.sc scope (ownOf Z.N scope) = true)
    (hg : ∀ X', Good G cs k (blkZ Z scope) X' → DG X' (blkZ Z scope) tg asg) (ht : ∀ X', Good G cs k (blkZ Z scope) X' → DTs X' ifs tt) (he : ∀ X', Good G cs k (blkZ Z scope) X' → DE X' elt te) (hs : isSetD iter = false) :
    DE X (.ListComp elt [⟨tg, iter, ifs, 0⟩] scope pos) (lcE (vsOf Z.N scope) mi asg tt (mD te)) := by
  have ok : BlkOk X.N X.env.scope scope (ownOf Z.N scope) := by
    rw [g.hN, g.sc]
    exact blkOk_by hb
  refine PE.of (pe_lc (g := gM X.K (blkZ Z scope).pr asg) (tt := tM X.K rT tt) (te := tM X.K (rD X.K) (mD te)) g.calm g.nd hi ok (fun s H C cl fp => hg _ (good_blk g scope s H C cl fp)) (fun s H C cl fp => ht _ (good_blk g scope s H C cl fp)) (fun s H C cl fp => (he _ (good_blk g scope s H C cl fp)).d) (folded_ok hs)) fun σ H Q h => tLc_of h
/-! ### list(reversed(..)), tuple(reversed(..)) -/
def revS (t : Bool) : List D → Option B
  | [.list ds] => match t with
    | true => some (.val (.tuple ds.reverse))
    | false => some (.lst ds.reverse)
  | [.tuple ds] => match t with
    | true => some (.val (.tuple ds.reverse))
    | false => some (.lst ds.reverse)
  | _ => none
def revC (t : Bool) (m : M B) : M B := bd (mD m) fun d => lift (revS t [d])
theorem rev_new {K : PySem.W.Frag} {H : Hp} {ow : Ow} {t : Bool} {ds : List D} {b : B} {vs : List V} {Q : VK} (e : (match t with
    | true => some (B.val (.tuple ds.reverse))
    | false => some (B.lst ds.reverse)) = some b) (dm : ∀ b, ow b ≠ .out → H b ≠ none) (q : ∀ H' ow' v, Step H ow H' ow' → BRep K H' ow' none b v → Q v H') (r : RpAll K (Fz H ow) vs ds) : ∀ p, H p = none → Q (.ref p) (upd H p (newS t vs.reverse)) := by
  cases t with
  | true =>
    cases e
    exact rPrim.tup dm q r.reverse
  | false =>
    cases e
    exact rPrim.lst dm q r.reverse
theorem de_revC (g : Good G cs k Z X) {e : Expr} {m : M B} {p p2 pos pos2 : Pos} {t : Bool} (hg : Gl X (if t then "tuple" else "list")) (hm : X.mg (if t then "tuple" else "list") = none) (hg2 : Gl X "reversed") (hm2 : X.mg "reversed" = none) (he : DE X e m) (hs : notStar e = true) :
    DE X (.Call (.Name (if t then "tuple" else "list") p) [.Call (.Name "reversed" p2) [e] [] pos2] [] pos) (revC t m) := by
  have h1 : starEach [e] X.env = (false, eval e X.env) :: starEach [] X.env := star_cons hs
  refine PE.of (pe_revK g.calm hg hm hg2 hm2 he.d h1 rfl) fun σ H Q ⟨ow, en, s, gg⟩ => ?_
  obtain ⟨a, en', e1, q⟩ := gg.bind (rep2 := rD X.K)
  refine ⟨ow, en, s, a, en', e1, fun H1 ow1 x x1 s1 q1 => ?_⟩
  obtain ⟨ow2, en2, d, x2, s2, r2, g2⟩ := q H1 ow1 x x1 s1 q1
  obtain ⟨ow3, ds, b, dm, r3, e3, q3⟩ := g2.lift_ (sem := revS t) (ds := [d]) s2 (.cons r2 .nil)
  unfold revS at e3
  split at e3
  · cases r3 with
    | cons r3 rr =>
      obtain ⟨a, xs, rfl, h1, h2⟩ := rp_lst r3
      exact ⟨a, xs, .l, rfl, SqL.of (res_some h1).2, rev_new e3 dm q3 h2⟩
  · cases r3 with
    | cons r3 rr =>
      obtain ⟨a, xs, rfl, h1, h2⟩ := rp_tup r3
      exact ⟨a, xs, .t, rfl, Same.sqT res_sub h1, rev_new e3 dm q3 h2⟩
  · cases e3
end
end DL

namespace DL
open PySem PySem.W PySem.Spec PyProof.Rows L2
/-! ### statements -/
inductive Out where
  | nx (en : Env) | bk (en : Env) | ct (en : Env) | rt (b : B) (en : Env)
abbrev Sm := Env → Option Out
def EndS (K : PySem.W.Frag) (pr : Nat → Bool) (σ : L2.St) (H : Hp) (ow : Ow) (en' : Env) (Q : L2.St → Hp → Prop) : Prop := ∀ H' ow' σ', Ext H ow H' ow' → Sta K H' ow' σ' en' → Kp pr σ σ' → Q σ' H'
def GoS (K : PySem.W.Frag) (pr : Nat → Bool) (σ : L2.St) (r : Option Out) (H : Hp) (ow : Ow) (D : Ends) : Prop := match r with
  | none => False
  | some (.nx en') => EndS K pr σ H ow en' D.nx
  | some (.bk en') => EndS K pr σ H ow en' D.bk
  | some (.ct en') => EndS K pr σ H ow en' D.ct
  | some (.rt b en') => ∀ H' ow' σ' v, Ext H ow H' ow' → Sta K H' ow' σ' en' → Kp pr σ σ' → BRep K H' ow' none b v → D.rt v H'
def tS (K : PySem.W.Frag) (pr : Nat → Bool) (m : Sm) : TS := fun D σ H => ∃ ow en, Sta K H ow σ en ∧ GoS K pr σ (m en) H ow D
def DS (X : Cx) (Z : Stat) (st : Stmt) (m : Sm) : Prop := PS X st (tS X.K Z.pr m)
def DSs (X : Cx) (Z : Stat) (sts : List Stmt) (m : Sm) : Prop := PSs X sts (tS X.K Z.pr m)
theorem GoS.mono {K : PySem.W.Frag} {pr : Nat → Bool} {σ σ' : L2.St} {r : Option Out} {H H' : Hp} {ow ow' : Ow} {D : Ends} (h : GoS K pr σ r H ow D) (x : Ext H ow H' ow') (k : Kp pr σ σ') : GoS K pr σ' r H' ow' D := by
  cases r with
  | none => exact h
  | some o =>
    cases o with
    | nx en => exact fun H2 ow2 σ2 x2 s2 k2 => h H2 ow2 σ2 (x.trans x2) s2 (k.trans k2)
    | bk en => exact fun H2 ow2 σ2 x2 s2 k2 => h H2 ow2 σ2 (x.trans x2) s2 (k.trans k2)
    | ct en => exact fun H2 ow2 σ2 x2 s2 k2 => h H2 ow2 σ2 (x.trans x2) s2 (k.trans k2)
    | rt b en => exact fun H2 ow2 σ2 v x2 s2 k2 => h H2 ow2 σ2 v (x.trans x2) s2 (k.trans k2)
def nextS : Sm := fun en => some (.nx en)
def stuckS : Sm := fun _ => none
def seqS (a b : Sm) : Sm := fun en => match a en with
  | some (.nx en') => b en'
  | r => r
def seqsS : List Sm → Sm
  | [] => nextS
  | a :: as => seqS a (seqsS as)
def retS (m : M B) : Sm := fun en => match m en with
  | some (b, en') => some (.rt b en')
  | none => none
def dropS (m : M B) : Sm := fun en => match m en with
  | some (_, en') => some (.nx en')
  | none => none
def asgS (t : Tg) (m : M B) : Sm := fun en => match m en with
  | some (b, en') => match t b en' with
    | some en2 => some (.nx en2)
    | none => none
  | none => none
def ifS (c : M Bool) (a b : Sm) : Sm := fun en => match c en with
  | some (true, en') => a en'
  | some (false, en') => b en'
  | none => none
def loopS (t : Tg) (body : Sm) : List D → Sm
  | [], en => some (.nx en)
  | d :: ds, en => match t (.val d) en with
    | none => none
    | some en1 => match body en1 with
      | some (.nx en2) => loopS t body ds en2
      | some (.ct en2) => loopS t body ds en2
      | some (.bk en2) => some (.nx en2)
      | some (.rt b en2) => some (.rt b en2)
      | none => none
def forS (mi : M (List D)) (t : Tg) (body : Sm) : Sm := fun en => match mi en with
  | some (ds, en') => loopS t body ds en'
  | none => none
def whileN (c : M Bool) (body : Sm) : Nat → Sm
  | 0, _ => none
  | n + 1, en => match c en with
    | none => none
    | some (false, en1) => some (.nx en1)
    | some (true, en1) => match body en1 with
      | some (.nx en2) => whileN c body n en2
      | some (.ct en2) => whileN c body n en2
      | some (.bk en2) => some (.nx en2)
      | some (.rt b en2) => some (.rt b en2)
      | none => none
open Classical in
noncomputable def whileS (c : M Bool) (body : Sm) : Sm := fun en => if h : ∃ n, (whileN c body n en).isSome = true then whileN c body h.choose en else none
section
variable {G : Glob} {cs : Calls} {k : Nat} {Z : Stat} {X : Cx} {st : Stmt} {sts : List Stmt} {m m2 : Sm} {pos : Pos}
theorem ds_stuck : DS X Z st stuckS := ⟨fun pins s σ H D I ⟨ow, en, s', g⟩ => g.elim⟩
theorem dss_nil : DSs X Z [] nextS := PSs.of pss_nil fun D σ H ⟨ow, en, s, g⟩ => g H ow σ (.refl _ _) s .refl
theorem ds_next (h : PS X st tNext) : DS X Z st nextS := PS.of h fun D σ H ⟨ow, en, s, g⟩ => g H ow σ (.refl _ _) s .refl
theorem ds_break : DS X Z (.Break pos) (fun en => some (.bk en)) := PS.of ps_break fun D σ H ⟨ow, en, s, g⟩ => g H ow σ (.refl _ _) s .refl
theorem ds_continue : DS X Z (.Continue pos) (fun en => some (.ct en)) := PS.of ps_continue fun D σ H ⟨ow, en, s, g⟩ => g H ow σ (.refl _ _) s .refl
theorem dss_cons (h1 : DS X Z st m) (h2 : DSs X Z sts m2) : DSs X Z (st :: sts) (seqS m m2) := PSs.of (pss_cons h1 h2) fun D σ H ⟨ow, en, s, g⟩ => by
  refine ⟨ow, en, s, ?_⟩
  unfold seqS at g
  cases e : m en with
  | none => rw [e] at g; exact g.elim
  | some o =>
    rw [e] at g
    cases o with
    | nx en' => exact fun H' ow' σ' x s' kp => ⟨ow', en', s', g.mono x kp⟩
    | bk en' => exact g
    | ct en' => exact g
    | rt b en' => exact g
theorem dss_list {f : Stmt → Sm} : ∀ {sts : List Stmt}, (∀ st ∈ sts, DS X Z st (f st)) → DSs X Z sts (seqsS (sts.map f))
  | [], _ => dss_nil
  | st :: sts, h => dss_cons (h st List.mem_cons_self) (dss_list fun s hs => h s (List.mem_cons_of_mem _ hs))
theorem ds_ret {e : Expr} {me : M B} (h : DE X e me) : DS X Z (.Return (some e) pos) (retS me) := PS.of (ps_ret h) fun D σ H ⟨ow, en, s, g⟩ => by
  unfold retS at g
  cases e : me en with
  | none => rw [e] at g; exact g.elim
  | some p =>
    obtain ⟨b, en'⟩ := p
    rw [e] at g
    exact ⟨ow, en, s, b, en', e, fun H' ow' v x s' r => g H' ow' σ v x s' .refl r⟩
theorem ds_retN : DS X Z (.Return none pos) (retS (ret (.val .none))) := PS.of ps_retN fun D σ H ⟨ow, en, s, g⟩ => g H ow σ .non (.refl _ _) s .refl (show Rp X.K _ _ _ from .non)
theorem ds_expr {e : Expr} {me : M B} (h : DE X e me) (hs : swapsWith e none pos.line X.env = pure false) : DS X Z (.Expr e pos) (dropS me) := PS.of (ps_expr h hs) fun D σ H ⟨ow, en, s, g⟩ => by
  unfold dropS at g
  cases e : me en with
  | none => rw [e] at g; exact g.elim
  | some p =>
    obtain ⟨b, en'⟩ := p
    rw [e] at g
    exact ⟨ow, en, s, b, en', e, fun H' ow' v x s' r => g H' ow' σ x s' .refl⟩
theorem tAsg_of {K : PySem.W.Frag} {pr : Nat → Bool} {me : M B} {t : Tg} {te : TE} {tg : TG} {D : Ends} {σ : L2.St} {H : Hp} (he : ∀ σ H Q, tM K (rB K) me σ H Q → te σ H Q) (hg : ∀ v σ H Q, gM K pr t v σ H Q → tg v σ H Q) (h : tS K pr (asgS t me) D σ H) : tAsg te tg D σ H := by
  obtain ⟨ow, en, s, g⟩ := h
  unfold asgS at g
  cases e : me en with
  | none => rw [e] at g; exact g.elim
  | some p =>
    obtain ⟨b, en'⟩ := p
    rw [e] at g
    dsimp only at g
    cases e2 : t b en' with
    | none => rw [e2] at g; exact g.elim
    | some en2 =>
      rw [e2] at g
      exact he _ _ _ ⟨ow, en, s, b, en', e, fun H' ow' v x s' r => hg _ _ _ _ ⟨ow', en', b, en2, s', r, e2, fun H2 ow2 σ2 x2 s2 k2 => g H2 ow2 σ2 (x.trans x2) s2 k2⟩⟩
/-! which store: plain, the comprehension's own -/
def swB (sc : Scope) (v : Expr) (tg : Expr) : Bool := match v with
  | .ListComp _ _ s _ => (match tg with
    | .Name t pos => sc.names.lookup t == some .local && pos.line == v.pos.line && !(s.names.any fun (n, k) => n == t && (k == .local || k == .cell))
    | _ => false)
  | _ => false
def noComp : Expr → Bool
  | .SetComp .. => false
  | .DictComp .. => false
  | _ => true
def isFun (sc : Scope) : Bool := match sc.kind with
  | .function => true
  | _ => false
theorem swB_ok {v tg : Expr} {l : Nat} {env : PySem.Env} (hk : isFun env.scope = true) (hn : noComp v = true) : swapsWith v (some tg) l env = pure (swB env.scope v tg) := by
  have hb : env.blockKind = .function := by
    unfold isFun at hk
    split at hk
    · rename_i e
      unfold Env.blockKind
      rw [e]
      rfl
    · cases hk
  unfold swapsWith
  cases v <;> first
    | rfl
    | (cases hn; done)
    | (cases tg <;> first
        | rfl
        | (dsimp only
           rw [hb]
           unfold swB Env.kindOf
           rfl)
        | (simp [hb, swB, Env.kindOf]))
/-- no several names stored from the right -/
def swN : Expr → Expr → Bool
  | .Tuple .., .Tuple .. => false
  | .List .., .Tuple .. => false
  | _, _ => true
theorem swN_ok {tg v : Expr} {env : PySem.Env} (h : swN tg v = true) : swappedStores [tg] v env = pure none := by
  unfold swappedStores
  cases v <;> cases tg <;> first | rfl | (cases h; done)
theorem assign_one {tg : Expr} {env : PySem.Env} (h : notStar tg = true) : (assignEach [tg] env).map (·.2) = [assign tg env] := by
  rw [assign_cons h]
  rfl
theorem ds_asg (g : Good G cs k Z X) {tg e : Expr} {me : M B} {t : Tg} (he : DE X e me) (hg : DG X Z tg t) (hk : isFun Z.sc = true) (hn : noComp e = true) (hs : swB Z.sc e tg = false) (hw : swappedStores [tg] e X.env = pure none) (h1 : notStar tg = true) : DS X Z (.Assign [tg] e pos) (asgS t me) := by
  refine PS.of (ps_asg he hg ?_ hw (assign_one h1)) fun D σ H h => tAsg_of (fun _ _ _ x => x) (fun _ _ _ _ x => x) h
  show swapsWith e (some tg) pos.line X.env = pure false
  rw [swB_ok (by rw [g.sc]; exact hk) hn, g.sc, hs]
/-- name = [..] on one line -/
theorem ds_setLc (g : Good G cs k Z X) {y : Str} {py : Pos} {i : Nat} {elt tg iter : Expr} {ifs : List Expr} {scope : Scope} {pos2 : Pos} {mi : M (List D)} {asg : Tg} {tt : M Bool} {te : M B} (hy : bindSlot Z y = some i) (hi : DI X tg iter mi) (hb : blkC Z.N Z.sc scope (ownOf Z.N scope) = true)
    (hg : ∀ X', Good G cs k (blkZ Z scope) X' → DG X' (blkZ Z scope) tg asg) (ht : ∀ X', Good G cs k (blkZ Z scope) X' → DTs X' ifs tt) (he : ∀ X', Good G cs k (blkZ Z scope) X' → DE X' elt te) (hs : isSetD iter = false)
    (hk : isFun Z.sc = true) (hw : swB Z.sc (.ListComp elt [⟨tg, iter, ifs, 0⟩] scope pos2) (.Name y py) = true) :
    DS X Z (.Assign [.Name y py] (.ListComp elt [⟨tg, iter, ifs, 0⟩] scope pos2) pos) (asgS (setE i) (lcE (vsOf Z.N scope) mi asg tt (mD te))) := by
  have ok : BlkOk X.N X.env.scope scope (ownOf Z.N scope) := by
    rw [g.hN, g.sc]
    exact blkOk_by hb
  obtain ⟨h1, h2, h3, h4⟩ := bind_ok g hy
  have hl : X.env.scope.names.lookup y = some .local := by
    rw [g.sc]
    unfold swB at hw
    dsimp only at hw
    rw [Bool.and_eq_true, Bool.and_eq_true] at hw
    exact eq_of_beq hw.1.1
  refine PS.of (ps_setLc (i := i) (g := gM X.K (blkZ Z scope).pr asg) (tt := tM X.K rT tt) (te := tM X.K (rD X.K) (mD te)) g.calm g.nd h1 hl ?_ hi ok (fun s H C cl fp => hg _ (good_blk g scope s H C cl fp)) (fun s H C cl fp => ht _ (good_blk g scope s H C cl fp)) (fun s H C cl fp => (he _ (good_blk g scope s H C cl fp)).d) (folded_ok hs)) fun D σ H h => ?_
  · rw [swB_ok (by rw [g.sc]; exact hk) rfl, g.sc, hw]
  · refine tAsg_of (pr := Z.pr) (fun σ H Q x => tLc_of x) (fun v σ H Q ⟨ow, en, b, en', s, r, e, q⟩ => ?_) h
    unfold setE at e
    split at e
    · cases e
      rename_i hlt
      refine q _ _ _ adopt_ext (sta_set s r hlt) ⟨List.length_set .., fun j hj => List.getElem?_set_ne fun z => ?_⟩
      rw [z, hj] at h4
      cases h4
    · cases e
end
end DL

namespace DL
open PySem PySem.W PySem.Spec PyProof.Rows L2
section
variable {K : PySem.W.Frag} {H : Hp} {ow : Ow} {σ : L2.St} {en : Env}
/-- a slot's own list is written -/
theorem sta_put {i : Nat} {a : Addr} {vs : List V} {ds : List D} {b0 : B} (s : Sta K H ow σ en) (e : en[i]? = some (some b0)) (hv : σ[i]? = some (some (.ref a))) (hl : ow a = .own (some i) 0) (r : RpAll K (Fz H ow) vs ds) :
    Ext H ow (upd H a (.lst vs)) ow ∧ Sta K (upd H a (.lst vs)) ow σ (en.set i (some (.lst ds))) := by
  have fz : Same (Fz H ow) (Fz (upd H a (.lst vs)) ow) := fun b o h => by
    obtain ⟨h1, h2⟩ := res_some h
    exact (res_at h1).trans ((upd_ne (by intro z; rw [z, hl] at h1; cases h1)).trans h2)
  refine ⟨⟨fun b h => ⟨h, upd_ne (by intro z; rw [z, hl] at h; cases h)⟩, fun b h => ⟨h, upd_ne (by intro z; rw [z, hl] at h; cases h)⟩⟩, by rw [List.length_set]; exact s.len, fun j c q => ?_, fun b q => ?_⟩
  · by_cases hj : i = j
    · subst hj
      have hlt : i < en.length := (List.getElem?_eq_some_iff.mp e).1
      rw [List.getElem?_set_self hlt] at q
      cases q
      exact ⟨_, hv, a, vs, rfl, hl, upd_same, RpAll.mono fz r⟩
    · rw [List.getElem?_set_ne hj] at q
      obtain ⟨w, w1, w2⟩ := s.rep j c q
      refine ⟨w, w1, BRep.mono fz (fun b k q2 => ⟨q2, upd_ne ?_⟩) w2⟩
      intro z
      rw [z, hl] at q2
      cases q2
      exact hj rfl
  · by_cases n : b = a
    · rw [n, upd_same]
      intro z
      cases z
    · rw [upd_ne n]
      exact s.dom b q
theorem own_at {i : Nat} {ds : List D} (s : Sta K H ow σ en) (e : en[i]? = some (some (.lst ds))) : ∃ a vs, σ[i]? = some (some (.ref a)) ∧ ow a = .own (some i) 0 ∧ H a = some (.lst vs) ∧ RpAll K (Fz H ow) vs ds := by
  obtain ⟨v, v1, a, vs, rfl, h1, h2, h3⟩ := s.rep i _ e
  exact ⟨a, vs, v1, h1, h2, h3⟩
end
def subT (i : Nat) (mi : M D) : Tg := fun b en => match b with
  | .val d => match en[i]? with
    | some (some (.lst _)) => match mi en with
      | some (.int k, en1) => match en1[i]? with
        | some (some (.lst ds)) => match ixN ds.length k with
          | some j => some (en1.set i (some (.lst (ds.set j d))))
          | none => none
        | _ => none
      | _ => none
    | _ => none
  | _ => none
def appS (i : Nat) (me : M D) : Sm := fun en => match en[i]? with
  | some (some (.lst _)) => match me en with
    | some (d, en1) => match en1[i]? with
      | some (some (.lst ds)) => if ds.length < cap then some (.nx (en1.set i (some (.lst (ds ++ [d]))))) else none
      | _ => none
    | none => none
  | _ => none
def opA : Operator → D → D → Option D
  | .Add, .int i, .int j => some (.int (i + j))
  | .Sub, .int i, .int j => some (.int (i - j))
  | .Add, .str x, .str y => if x.length + y.length ≤ cap then some (.str (x ++ y)) else none
  | _, _, _ => none
def augS (i : Nat) (op : Operator) (me : M D) : Sm := fun en => match en[i]? with
  | some (some (.val d1)) => match me en with
    | some (d2, en1) => match opA op d1 d2 with
      | some d => if i < en1.length then some (.nx (en1.set i (some (.val d)))) else none
      | none => none
    | none => none
  | _ => none
def retV (i : Nat) : Sm := fun en => match en[i]? with
  | some (some (.val d)) => some (.rt (.val d) en)
  | some (some (.scr ns)) => some (.rt (.scr ns) en)
  | some (some b) => some (.rt b (en.set i none))
  | _ => none
/-- i, j = two things -/
def parS (i j : Nat) (ms : M (List D)) : Sm := fun en => match ms en with
  | some ([a, b], en1) => if i < en1.length ∧ j < en1.length then some (.nx ((en1.set i (some (.val a))).set j (some (.val b)))) else none
  | _ => none
section
variable {G : Glob} {cs : Calls} {k : Nat} {Z : Stat} {X : Cx} {st : Stmt} {sts : List Stmt} {m m2 : Sm} {pos : Pos}
theorem peek_var (g : Good G cs k Z X) {x : Str} {i : Nat} {pos : Pos} (h : slotOf Z x = some i) : PE X (.Name x pos) (fun σ H Q => ∃ v, σ[i]? = some (some v) ∧ Q v H) := by
  obtain ⟨h1, h2, h3, h4⟩ := slot_vis g h
  exact pe_var h1 h2 h3 h4
theorem dg_sub (g : Good G cs k Z X) {x : Str} {i : Nat} {p pos : Pos} {e : Expr} {me : M B} (h : slotOf Z x = some i) (he : DE X e me) (hp : plainIx e = true) : DG X Z (.Subscript (.Name x p) e pos) (subT i (mD me)) := by
  refine PG.of (pg_sub (peek_var g h) he.d set_list (by intro v; cases e <;> first | rfl | cases hp)) fun v σ H Q ⟨ow, en, b, en', s, r, e1, q⟩ => ?_
  unfold subT at e1
  split at e1
  · rename_i d
    split at e1
    · rename_i ds0 ed
      obtain ⟨a, vs0, a1, a2, a3, a4⟩ := own_at s ed
      refine ⟨.ref a, a1, ?_⟩
      split at e1
      · rename_i kk en1 em
        refine ⟨ow, en, s, _, en1, em, fun H1 ow1 y x1 s1 ry => ?_⟩
        split at e1
        · rename_i ds ed2
          split at e1
          · rename_i j hj
            cases e1
            obtain ⟨a', vs, b1, b2, b3, b4⟩ := own_at s1 ed2
            rw [a1] at b1
            cases b1
            have rd : RpAll X.K (Fz H1 ow1) (vs.set j v) (ds.set j d) := RpAll.set (Rp.mono x1.fz r) j b4
            obtain ⟨x2, s2⟩ := sta_put s1 ed2 a1 b2 rd
            refine ⟨a, vs, kk, j, rfl, rp_int ry, b3, by rw [b4.length]; exact hj, q _ ow1 σ (x1.trans x2) s2 .refl⟩
          · cases e1
        · cases e1
      · cases e1
    · cases e1
  · cases e1
theorem ds_app (g : Good G cs k Z X) {x : Str} {i : Nat} {p apos cpos : Pos} {e : Expr} {me : M B} (h : slotOf Z x = some i) (he : DE X e me) (hs : notStar e = true) (hline : (apos.endLine == cpos.line) = true) :
    DS X Z (.Expr (.Call (.Attribute (.Name x p) "append" apos) [e] [] cpos) pos) (appS i (mD me)) := by
  have s1 : starEach [e] X.env = (false, eval e X.env) :: starEach [] X.env := star_cons hs
  refine PS.of (ps_expr (pe_bm PySem.F.plainAttrs_list PySem.F.slot_list_append PySem.F.type_list_append mt_append (peek_var g h) (pa_cons he.d pa_nil s1) rfl (by rw [s1]; rfl) hline s1 rfl) rfl) fun D σ H ⟨ow, en, s, gg⟩ => ?_
  unfold appS at gg
  split at gg
  · rename_i ds0 ed
    obtain ⟨a, vs0, a1, a2, a3, a4⟩ := own_at s ed
    refine ⟨.ref a, a1, .inl ⟨rfl, vs0, SqL.of a3⟩, ow, en, s, ?_⟩
    split at gg
    · rename_i d en1 em
      refine ⟨d, en1, em, fun H1 ow1 y x1 s1 ry => ?_⟩
      split at gg
      · rename_i ds ed2
        split at gg
        · rename_i hc
          obtain ⟨a', vs, b1, b2, b3, b4⟩ := own_at s1 ed2
          rw [a1] at b1
          cases b1
          have rd : RpAll X.K (Fz H1 ow1) (vs ++ [y]) (ds ++ [d]) := b4.append (.cons ry .nil)
          obtain ⟨x2, s2⟩ := sta_put s1 ed2 a1 b2 rd
          exact ⟨a, vs, y, rfl, rfl, b3, by rw [b4.length, cap_eq]; exact hc, gg _ ow1 σ (x1.trans x2) s2 .refl⟩
        · exact gg.elim
      · exact gg.elim
    · exact gg.elim
  · exact gg.elim
def augOp : Operator → Option (Int → Int → Int)
  | .Add => some fun i j => i + j
  | .Sub => some fun i j => i - j
  | _ => none
def ipA (op : Operator) (f : Int → Int → Int) : TIp := fun x y H Q => ipI f x y H Q ∨ (op = .Add ∧ ∃ i j, x = .str i ∧ y = .str j ∧ i.length + j.length ≤ sizeLine ∧ Q (.str (i ++ j)) H)
theorem augOp_ok {op : Operator} {f : Int → Int → Int} (h : augOp op = some f) : PIp X op (ipA op f) := by
  intro pins s σ H x y v u Q I rx ry q
  rcases q with q | ⟨rfl, q⟩
  · exact (show PIp X op (ipI f) by cases op <;> first | (cases h; exact ip_add) | (cases h; exact ip_sub) | cases h) pins s σ H x y v u Q I rx ry q
  · exact iop_add_str pins s σ H x y v u Q I rx ry q
theorem opA_f {op : Operator} {f : Int → Int → Int} {d1 d2 d : D} (h : augOp op = some f) (e : opA op d1 d2 = some d) : (∃ i j, d1 = .int i ∧ d2 = .int j ∧ d = .int (f i j)) ∨ (op = .Add ∧ ∃ x y, d1 = .str x ∧ d2 = .str y ∧ x.length + y.length ≤ cap ∧ d = .str (x ++ y)) := by
  unfold opA at e
  split at e
  · cases h
    cases e
    exact .inl ⟨_, _, rfl, rfl, rfl⟩
  · cases h
    cases e
    exact .inl ⟨_, _, rfl, rfl, rfl⟩
  · split at e
    · rename_i hc
      cases e
      exact .inr ⟨rfl, _, _, rfl, rfl, hc, rfl⟩
    · cases e
  · cases e
theorem ds_aug (g : Good G cs k Z X) {x : Str} {i : Nat} {p : Pos} {e : Expr} {me : M B} {op : Operator} {f : Int → Int → Int} (h : bindSlot Z x = some i) (he : DE X e me) (hf : augOp op = some f) : DS X Z (.AugAssign (.Name x p) op e pos) (augS i op (mD me)) := by
  obtain ⟨h1, h2, h3, h4⟩ := bind_ok g h
  refine PS.of (ps_aug g.nd h1 h2 he.d (augOp_ok hf) h3) fun D σ H ⟨ow, en, s, gg⟩ => ?_
  unfold augS at gg
  split at gg
  · rename_i d1 ed
    obtain ⟨v, v1, v2⟩ := s.rep i _ ed
    refine ⟨v, v1, ow, en, s, ?_⟩
    split at gg
    · rename_i d2 en1 em
      refine ⟨d2, en1, em, fun H1 ow1 y x1 s1 ry => ?_⟩
      split at gg
      · rename_i d eo
        split at gg
        · rename_i hlt
          have kp : ∀ z : V, ∀ j, Z.pr j = true → (σ.set i (some z))[j]? = σ[j]? := fun z j hj => List.getElem?_set_ne fun z => by
            rw [z, hj] at h4
            cases h4
          rcases opA_f hf eo with ⟨a, b, rfl, rfl, rfl⟩ | ⟨eop, a, b, rfl, rfl, hc, rfl⟩
          · exact .inl ⟨a, b, rp_int v2, rp_int ry, gg _ _ _ (x1.trans adopt_ext) (sta_set s1 (show BRep X.K H1 ow1 none (.val (.int (f a b))) _ from .int _) hlt) ⟨List.length_set .., kp _⟩⟩
          · exact .inr ⟨eop, a, b, rp_str v2, rp_str ry, by rw [cap_eq]; exact hc, gg _ _ _ (x1.trans adopt_ext) (sta_set s1 (show BRep X.K H1 ow1 none (.val (.str (a ++ b))) _ from .str _) hlt) ⟨List.length_set .., kp _⟩⟩
        · exact gg.elim
      · exact gg.elim
    · exact gg.elim
  · exact gg.elim
theorem ds_if {c : Expr} {a b : List Stmt} {mc : M Bool} (hc : DT X c mc) (ha : DSs X Z a m) (hb : DSs X Z b m2) : DS X Z (.If c a b pos) (ifS mc m m2) := PS.of (ps_if hc ha hb) fun D σ H ⟨ow, en, s, gg⟩ => by
  unfold ifS at gg
  cases e : mc en with
  | none => rw [e] at gg; exact gg.elim
  | some p =>
    obtain ⟨c, en'⟩ := p
    rw [e] at gg
    refine ⟨ow, en, s, c, en', e, fun H' ow' b x s' r => ?_⟩
    have r : b = c := r
    subst r
    cases b with
    | true =>
      exact (show tS X.K Z.pr m D σ H' from ⟨ow', en', s', gg.mono x .refl⟩)
    | false =>
      exact (show tS X.K Z.pr m2 D σ H' from ⟨ow', en', s', gg.mono x .refl⟩)
theorem hpass (g : Good G cs k Z X) : PassesOwn (model X.prog X.w) X.A X.env X.xe := by
  rw [g.xe]
  exact .never
/-- what a body's end means for the loop -/
theorem ds_for (g : Good G cs k Z X) {tg iter : Expr} {body : List Stmt} {mi : M (List D)} {t : Tg} (hi : DI X tg iter mi) (ht : DG X Z tg t) (hb : DSs X Z body m) (hs : isSetD iter = false) : DS X Z (.For tg iter body [] pos) (forS mi t m) := by
  refine PS.of (ps_for (hpass g) g.calm hi ht hb (folded_ok hs)) fun D σ H ⟨ow, en, s, gg⟩ => ?_
  unfold forS at gg
  cases e : mi en with
  | none => rw [e] at gg; exact gg.elim
  | some p =>
    obtain ⟨ds, en1⟩ := p
    rw [e] at gg
    dsimp only at gg
    refine ⟨ow, en, s, ds, en1, e, fun H1 ow1 J x1 s1 hJ => ?_⟩
    refine ⟨fun i m' σ' H' => m' = ds.length - i ∧ i ≤ ds.length ∧ ∃ ow' en', Ext H1 ow1 H' ow' ∧ Kp Z.pr σ σ' ∧ Sta X.K H' ow' σ' en' ∧ GoS X.K Z.pr σ' (loopS t m (ds.drop i) en') H' ow' D, ⟨_, rfl, Nat.zero_le _, ow1, en1, .refl _ _, .refl, s1, gg.mono x1 .refl⟩, ?_⟩
    rintro i m' σ2 H2 ⟨rfl, hi, ow2, en2, x2, k2, s2, g2⟩
    obtain ⟨jy, js⟩ := hJ H2 ow2 x2 s2.dom
    by_cases hlt : i < ds.length
    · have hd : ds[i]? = some ds[i] := List.getElem?_eq_getElem hlt
      obtain ⟨go, yl⟩ := jy i _ hd
      rw [List.drop_eq_getElem_cons hlt] at g2
      refine .inr ⟨go, fun σ' H' => ∃ ow' en', Ext H1 ow1 H' ow' ∧ Kp Z.pr σ σ' ∧ Sta X.K H' ow' σ' en' ∧ GoS X.K Z.pr σ' (loopS t m (ds.drop (i + 1)) en') H' ow' D, fun σ' H' hN => ⟨_, by omega, rfl, by omega, hN⟩, fun x H3 y3 => ?_⟩
      obtain ⟨ow3, st3, rx⟩ := yl x H3 y3
      have s3 := st3.sta s2
      unfold loopS at g2
      cases a1 : t (.val ds[i]) en2 with
      | none => rw [a1] at g2; exact g2.elim
      | some en4 =>
        rw [a1] at g2
        dsimp only at g2
        refine ⟨ow3, en2, .val ds[i], en4, s3, rx, a1, fun H4 ow4 σ4 x4 s4 k4 => ⟨ow4, en4, s4, ?_⟩⟩
        have x24 : Ext H2 ow2 H4 ow4 := st3.ext.trans x4
        have x14 := x2.trans x24
        have k14 := k2.trans k4
        have g4 := g2.mono x24 k4
        cases b1 : m en4 with
        | none => rw [b1] at g4; exact g4.elim
        | some o =>
          rw [b1] at g4
          cases o with
          | nx en5 => exact fun H5 ow5 σ5 x5 s5 k5 => ⟨ow5, en5, x14.trans x5, k14.trans k5, s5, g4.mono x5 k5⟩
          | ct en5 => exact fun H5 ow5 σ5 x5 s5 k5 => ⟨ow5, en5, x14.trans x5, k14.trans k5, s5, g4.mono x5 k5⟩
          | bk en5 => exact g4
          | rt b en5 => exact g4
    · have ei : i = ds.length := by omega
      subst ei
      rw [List.drop_length] at g2
      exact .inl ⟨js, g2 H2 ow2 σ2 (.refl _ _) s2 .refl⟩
theorem whileS_n {c : M Bool} {en : Env} {o : Out} (h : whileS c m en = some o) : ∃ n, whileN c m n en = some o := by
  unfold whileS at h
  split at h
  · exact ⟨_, h⟩
  · cases h
theorem whileN_mono {c : M Bool} : ∀ {n j : Nat} {en : Env} {o : Out}, n ≤ j → whileN c m n en = some o → whileN c m j en = some o
  | 0, _, _, _, _, h => by cases h
  | n + 1, 0, _, _, hj, _ => by omega
  | n + 1, j + 1, en, o, hj, h => by
    unfold whileN at h ⊢
    cases e : c en with
    | none => rw [e] at h; cases h
    | some p =>
      obtain ⟨b, en1⟩ := p
      rw [e] at h
      cases b with
      | false => exact h
      | true =>
        dsimp only at h ⊢
        cases e2 : m en1 with
        | none => rw [e2] at h; cases h
        | some o2 =>
          rw [e2] at h
          cases o2 with
          | nx en2 => exact whileN_mono (by omega) h
          | ct en2 => exact whileN_mono (by omega) h
          | bk en2 => exact h
          | rt b en2 => exact h
/-- the loop by a number of turns -/
theorem whileS_of {c : M Bool} {en : Env} {o : Out} {n : Nat} (h : whileN c m n en = some o) : whileS c m en = some o := by
  have hx : ∃ n, (whileN c m n en).isSome = true := ⟨n, by rw [h]; rfl⟩
  unfold whileS
  rw [dif_pos hx]
  have hc := hx.choose_spec
  cases e : whileN c m hx.choose en with
  | none => rw [e] at hc; cases hc
  | some o2 =>
    have h1 := whileN_mono (Nat.le_max_left n hx.choose) h
    have h2 := whileN_mono (Nat.le_max_right n hx.choose) e
    rw [h1] at h2
    exact h2.symm
theorem ds_while (g : Good G cs k Z X) {c : Expr} {body : List Stmt} {mc : M Bool} (hc : DT X c mc) (hb : DSs X Z body m) : DS X Z (.While c body [] pos) (whileS mc m) := by
  refine PS.of (ps_while (hpass g) hc hb) fun D σ H ⟨ow, en, s, gg⟩ => ?_
  cases e0 : whileS mc m en with
  | none => rw [e0] at gg; exact gg.elim
  | some o =>
    obtain ⟨n, hn⟩ := whileS_n e0
    rw [e0, ← hn] at gg
    refine ⟨fun j σ' H' => ∃ ow' en', Ext H ow H' ow' ∧ Kp Z.pr σ σ' ∧ Sta X.K H' ow' σ' en' ∧ GoS X.K Z.pr σ' (whileN mc m j en') H' ow' D, ⟨n, ow, en, .refl _ _, .refl, s, gg⟩, ?_⟩
    rintro j σ1 H1 ⟨ow1, en1, x1, k1, s1, g1⟩
    cases j with
    | zero => exact g1.elim
    | succ j =>
      unfold whileN at g1
      cases e1 : mc en1 with
      | none => rw [e1] at g1; exact g1.elim
      | some p =>
        obtain ⟨b, en2⟩ := p
        rw [e1] at g1
        refine ⟨ow1, en1, s1, b, en2, e1, fun H2 ow2 c x2 s2 r => ?_⟩
        have r : c = b := r
        subst r
        have g2 := g1.mono x2 .refl
        cases c with
        | false =>
          exact g2 H2 ow2 σ1 (.refl _ _) s2 .refl
        | true =>
          show ∃ N : L2.St → Hp → Prop, (∀ σ' H', N σ' H' → ∃ m', m' < j + 1 ∧ _) ∧ _
          refine ⟨fun σ' H' => ∃ ow' en', Ext H ow H' ow' ∧ Kp Z.pr σ σ' ∧ Sta X.K H' ow' σ' en' ∧ GoS X.K Z.pr σ' (whileN mc m j en') H' ow' D, fun σ' H' hN => ⟨j, Nat.lt_succ_self _, hN⟩, ow2, en2, s2, ?_⟩
          dsimp only at g2
          have x12 := x1.trans x2
          cases b1 : m en2 with
          | none => rw [b1] at g2; exact g2.elim
          | some o2 =>
            rw [b1] at g2
            cases o2 with
            | nx en5 => exact fun H5 ow5 σ5 x5 s5 k5 => ⟨ow5, en5, x12.trans x5, k1.trans k5, s5, g2.mono x5 k5⟩
            | ct en5 => exact fun H5 ow5 σ5 x5 s5 k5 => ⟨ow5, en5, x12.trans x5, k1.trans k5, s5, g2.mono x5 k5⟩
            | bk en5 => exact g2
            | rt b en5 => exact g2
/-- return x: a list of the name's own goes over to the caller -/
theorem ds_retV (g : Good G cs k Z X) {x : Str} {i : Nat} {p : Pos} (h : slotOf Z x = some i) : DS X Z (.Return (some (.Name x p)) pos) (retV i) := PS.of (ps_ret (peek_var g h)) fun D σ H ⟨ow, en, s, gg⟩ => by
  unfold retV at gg
  have own : ∀ b, en[i]? = some (some b) → GoS X.K Z.pr σ (some (.rt b (en.set i none))) H ow D → ∃ v, σ[i]? = some (some v) ∧ D.rt v H := fun b0 ed gg => by
    obtain ⟨v0, v1, v2⟩ := s.rep i _ ed
    let ow' : Ow := fun b => match ow b with
      | .own (some j) k => if j = i then .own none k else .own (some j) k
      | l => l
    have ex : Ext H ow H ow' := ⟨fun b h => ⟨by show (match ow b with | .own (some j) k => if j = i then Lab.own none k else .own (some j) k | l => l) = _; rw [h], rfl⟩, fun b h => ⟨by show (match ow b with | .own (some j) k => if j = i then Lab.own none k else .own (some j) k | l => l) = _; rw [h], rfl⟩⟩
    have hown : ∀ b j k, ow b = .own (some j) k → ow' b = if j = i then .own none k else .own (some j) k := fun b j k h => by
      show (match ow b with | .own (some j) k => if j = i then Lab.own none k else .own (some j) k | l => l) = _
      rw [h]
    have hlt : i < en.length := (List.getElem?_eq_some_iff.mp ed).1
    refine ⟨v0, v1, gg H ow' σ v0 ex ⟨by rw [List.length_set]; exact s.len, fun j b q => ?_, fun b q => ?_⟩ .refl (BRep.move ex.fz (fun b k e => ⟨by rw [hown b i k e, if_pos rfl], rfl⟩) v2)⟩
    · by_cases hj : i = j
      · subst hj
        rw [List.getElem?_set_self hlt] at q
        cases q
      · rw [List.getElem?_set_ne hj] at q
        obtain ⟨w, w1, w2⟩ := s.rep j b q
        exact ⟨w, w1, BRep.mono ex.fz (fun b k e => ⟨by rw [hown b j k e, if_neg (fun z => hj z.symm)], rfl⟩) w2⟩
    · refine s.dom b fun z => q ?_
      show (match ow b with | .own (some j) k => if j = i then Lab.own none k else .own (some j) k | l => l) = _
      rw [z]
  split at gg
  · rename_i d ed
    obtain ⟨v, v1, v2⟩ := s.rep i _ ed
    exact ⟨v, v1, gg H ow σ v (.refl _ _) s .refl v2⟩
  · rename_i ns ed
    obtain ⟨v, v1, v2⟩ := s.rep i _ ed
    exact ⟨v, v1, gg H ow σ v (.refl _ _) s .refl v2⟩
  · rename_i b _ _ ed
    exact own _ ed gg
  · exact gg.elim
end
end DL

namespace DL
open PySem PySem.W PySem.Spec PyProof.Rows L2
/-! ### a, b = x, y -/
def swS (sc : Scope) (ts vs : List Expr) : Option (Option (List Str)) :=
  if (!(ts.length == 2 || ts.length == 3) || vs.length != ts.length) = true then some none else
  if (vs.any fun | .Starred .. => true | _ => false) = true then some none else
  let line := (ts.head?.map (·.pos.line)).getD 0
  let names := ts.filterMap fun
    | .Name id pos => if sc.names.lookup id == some .local && pos.line == line then some id else none
    | _ => none
  if (names.length != ts.length || names.eraseDups.length != names.length) = true then some none else
  if (vs.all (foldedForSure 8)) = true then some none else
  if (vs.all (constantsAlone 8)) = true then none else some (some names)
theorem blockKind_fun {env : PySem.Env} (hk : isFun env.scope = true) : env.blockKind = .function := by
  unfold isFun at hk
  split at hk
  · rename_i e
    unfold Env.blockKind
    rw [e]
    rfl
  · cases hk
theorem swS_ok {ts vs : List Expr} {k k2 : Nat} {p p2 : Pos} {env : PySem.Env} {o : Option (List Str)} (hk : isFun env.scope = true) (h : swS env.scope ts vs = some o) : swappedStores [.Tuple ts k p] (.Tuple vs k2 p2) env = pure o := by
  have hb := blockKind_fun hk
  unfold swS at h
  unfold swappedStores
  dsimp only
  rw [hb]
  have e0 : (ScopeKind.function != ScopeKind.function) = false := rfl
  rw [e0, Bool.or_false]
  unfold Env.kindOf
  split at h
  · rename_i h1
    cases h
    exact if_pos h1
  · rename_i h1
    refine (if_neg h1).trans ?_
    split at h
    · rename_i h2
      cases h
      exact if_pos h2
    · rename_i h2
      refine (if_neg h2).trans ?_
      dsimp only at h ⊢
      split at h
      · rename_i h3
        cases h
        exact if_pos h3
      · rename_i h3
        refine (if_neg h3).trans ?_
        split at h
        · rename_i h4
          cases h
          exact if_pos h4
        · rename_i h4
          refine (if_neg h4).trans ?_
          split at h
          · cases h
          · rename_i h5
            refine (if_neg h5).trans ?_
            cases h
            rfl
end DL

namespace DL
open PySem PySem.W PySem.Spec PyProof.Rows L2
/-! ### a name's list that is never written goes over to data for ever -/
def frzAt (i : Nat) (en : Env) : Env := match en[i]? with
  | some (some (.lst ds)) => en.set i (some (.val (.list ds)))
  | _ => en
def frzS (i : Nat) (m : Sm) : Sm := fun en => match m en with
  | some (.nx e) => some (.nx (frzAt i e))
  | r => r
/-- i = m, frozen -/
def asgF (i : Nat) (t : Tg) (m : M B) : Sm := frzS i (asgS t m)
section
variable {G : Glob} {cs : Calls} {k : Nat} {Z : Stat} {X : Cx} {st : Stmt} {m : Sm} {pos : Pos}
theorem sta_frzAt {K : PySem.W.Frag} {H : Hp} {ow : Ow} {σ : L2.St} {en : Env} {i : Nat} (s : Sta K H ow σ en) : ∃ ow', Ext H ow H ow' ∧ Sta K H ow' σ (frzAt i en) := by
  unfold frzAt
  split
  · rename_i ds e
    obtain ⟨ow', v, _, ex, s', _⟩ := sta_frz s e
    exact ⟨ow', ex, s'⟩
  · exact ⟨ow, .refl _ _, s⟩
theorem ds_frz {i : Nat} (h : DS X Z st m) : DS X Z st (frzS i m) := PS.of h fun D σ H ⟨ow, en, s, g⟩ => by
  refine ⟨ow, en, s, ?_⟩
  unfold frzS at g
  cases e : m en with
  | none => rw [e] at g; exact g.elim
  | some o =>
    rw [e] at g
    cases o with
    | nx e1 =>
      intro H' ow' σ' x s' kp
      obtain ⟨ow2, x2, s2⟩ := sta_frzAt (i := i) s'
      exact g H' ow2 σ' (x.trans x2) s2 kp
    | bk e1 => exact g
    | ct e1 => exact g
    | rt b e1 => exact g
/-! ### x.insert(i, y), x.extend(ys) -/
def insS (i : Nat) (mi me : M D) : Sm := fun en => match en[i]? with
  | some (some (.lst _)) => match mi en with
    | some (.int j, en1) => match me en1 with
      | some (d, en2) => match en2[i]? with
        | some (some (.lst ds)) => if ds.length < cap ∧ 0 ≤ j ∧ j < 2 ^ 62 then some (.nx (en2.set i (some (.lst (ds.take j.toNat ++ [d] ++ ds.drop j.toNat))))) else none
        | _ => none
      | none => none
    | _ => none
  | _ => none
def extS (i : Nat) (me : M D) : Sm := fun en => match en[i]? with
  | some (some (.lst _)) => match me en with
    | some (.list es, en1) => match en1[i]? with
      | some (some (.lst ds)) => if ds.length + es.length ≤ cap then some (.nx (en1.set i (some (.lst (ds ++ es))))) else none
      | _ => none
    | _ => none
  | _ => none
theorem ds_ins (g : Good G cs k Z X) {x : Str} {i : Nat} {p apos cpos : Pos} {e1 e2 : Expr} {m1 m2 : M B} (h : slotOf Z x = some i) (h1 : DE X e1 m1) (h2 : DE X e2 m2) (n1 : notStar e1 = true) (n2 : notStar e2 = true) (hline : (apos.endLine == cpos.line) = true) :
    DS X Z (.Expr (.Call (.Attribute (.Name x p) "insert" apos) [e1, e2] [] cpos) pos) (insS i (mD m1) (mD m2)) := by
  have s1 : starEach [e1, e2] X.env = (false, eval e1 X.env) :: starEach [e2] X.env := star_cons n1
  have s2 : starEach [e2] X.env = (false, eval e2 X.env) :: starEach [] X.env := star_cons n2
  refine PS.of (ps_expr (pe_bm PySem.F.plainAttrs_list PySem.F.slot_list_insert PySem.F.type_list_insert mt_insert (peek_var g h) (pa_cons h1.d (pa_cons h2.d pa_nil s2) s1) rfl (by rw [s1, s2]; rfl) hline s1 (by rw [s2]; rfl)) rfl) fun D σ H ⟨ow, en, s, gg⟩ => ?_
  unfold insS at gg
  split at gg
  · rename_i ds0 ed
    obtain ⟨a, vs0, a1, a2, a3, a4⟩ := own_at s ed
    refine ⟨.ref a, a1, .inl ⟨rfl, vs0, SqL.of a3⟩, ow, en, s, ?_⟩
    split at gg
    · rename_i j en1 em
      refine ⟨_, en1, em, fun H1 ow1 y x1 s1 ry => ⟨ow1, en1, s1, ?_⟩⟩
      split at gg
      · rename_i d en2 em2
        refine ⟨d, en2, em2, fun H2 ow2 z x2 s2 rz => ?_⟩
        split at gg
        · rename_i ds ed2
          split at gg
          · rename_i hc
            obtain ⟨a', vs, b1, b2, b3, b4⟩ := own_at s2 ed2
            rw [a1] at b1
            cases b1
            have rd : RpAll X.K (Fz H2 ow2) (vs.take j.toNat ++ [z] ++ vs.drop j.toNat) (ds.take j.toNat ++ [d] ++ ds.drop j.toNat) := ((b4.take _).append (.cons rz .nil)).append (b4.drop _)
            obtain ⟨x3, s3⟩ := sta_put s2 ed2 a1 b2 rd
            refine ⟨a, vs, j, z, rfl, by rw [rp_int ry], b3, by rw [b4.length, cap_eq]; exact hc.1, hc.2.1, by omega, gg _ ow2 σ ((x1.trans x2).trans x3) s3 .refl⟩
          · exact gg.elim
        · exact gg.elim
      · exact gg.elim
    · exact gg.elim
  · exact gg.elim
theorem ds_ext (g : Good G cs k Z X) {x : Str} {i : Nat} {p apos cpos : Pos} {e : Expr} {me : M B} (h : slotOf Z x = some i) (he : DE X e me) (hs : notStar e = true) (hline : (apos.endLine == cpos.line) = true) :
    DS X Z (.Expr (.Call (.Attribute (.Name x p) "extend" apos) [e] [] cpos) pos) (extS i (mD me)) := by
  have s1 : starEach [e] X.env = (false, eval e X.env) :: starEach [] X.env := star_cons hs
  refine PS.of (ps_expr (pe_bm PySem.F.plainAttrs_list PySem.F.slot_list_extend PySem.F.type_list_extend mt_extend (peek_var g h) (pa_cons he.d pa_nil s1) rfl (by rw [s1]; rfl) hline s1 rfl) rfl) fun D σ H ⟨ow, en, s, gg⟩ => ?_
  unfold extS at gg
  split at gg
  · rename_i ds0 ed
    obtain ⟨a, vs0, a1, a2, a3, a4⟩ := own_at s ed
    refine ⟨.ref a, a1, .inl ⟨rfl, vs0, SqL.of a3⟩, ow, en, s, ?_⟩
    split at gg
    · rename_i es en1 em
      refine ⟨_, en1, em, fun H1 ow1 y x1 s1 ry => ?_⟩
      split at gg
      · rename_i ds ed2
        split at gg
        · rename_i hc
          obtain ⟨a', vs, b1, b2, b3, b4⟩ := own_at s1 ed2
          rw [a1] at b1
          cases b1
          obtain ⟨c, zs, rfl, c1, c2, c3⟩ := rp_list_in ry
          obtain ⟨x2, s2⟩ := sta_put s1 ed2 a1 b2 (b4.append c3)
          exact ⟨a, c, vs, zs, rfl, rfl, b3, c2, by rw [b4.length, c3.length, cap_eq]; exact hc, gg _ ow1 σ (x1.trans x2) s2 .refl⟩
        · exact gg.elim
      · exact gg.elim
    · exact gg.elim
  · exact gg.elim
/-! ### max, min with default= -/
def dfl (f : D → List Int → Option D) : List D → Option B
  | [d, e] => if flatD e = true then (match itemsS d with
    | some ds => (match ints? ds with
      | some ns => (f e ns).map B.val
      | none => none)
    | none => none) else none
  | _ => none
def maxDS : List D → Option B := dfl maxDL
def minDS : List D → Option B := dfl minDL
theorem vals1' {z : V} {ws : List Value} (h : Vals [z] ws) : ∃ w, ws = [w] ∧ RelV z w := by
  cases h with
  | cons h r =>
    cases r
    exact ⟨_, rfl, h⟩
theorem pk_flat {K : PySem.W.Frag} {H : Hp} {ow : Ow} {v : V} {d : D} (h : Pk K H ow v d) (f : flatD d = true) : Rp K (Fz H ow) v d := by
  cases d <;> first | exact h | cases f
theorem call_maxK (hc : X.calm = true) (hu : X.A.units + 64 < cLine) : CallRK X (.builtin "max") [Str.ofString "default"] (fun vs zs H Q => ∃ v z, vs = [v] ∧ zs = [z] ∧ rPk X.K maxDS [v, z] H Q) := by
  intro pins s σ H vs zs us ws Q I rv rz h
  obtain ⟨v, z, rfl, rfl, ow, ds, b, dm, r, e, q⟩ := h
  obtain ⟨d1, d2, rfl, h1, h2⟩ := pk2 r
  have e' : (if flatD d2 = true then (match itemsS d1 with
    | some ds => (match ints? ds with
      | some ns => (maxDL d2 ns).map B.val
      | none => none)
    | none => none) else none) = some b := e
  clear e
  split at e'
  · rename_i hf
    split at e'
    · rename_i ds' ed
      split at e'
      · rename_i ns en
        have eds := ints?_ok en
        subst eds
        have hd2 := pk_flat h2 hf
        obtain ⟨a, xs, rfl, hr, hd⟩ := pk_items h1 ed
        obtain ⟨w, rfl, rw1⟩ := vals1' rz
        rw [Vals.ref1 rv]
        have hdp := depth_ints ns
        have k0 : ns = [] → ∀ h' tk, (∀ b o, s.heap.get? b = some o → h'.get? b = some o) → EP X pins σ Q w { s with heap := h', toks := tk } := fun hn h' tk hk => by
          subst hn
          cases e'
          exact ⟨z, H, I.kept hk, rw1, rPrim.val dm q hd2⟩
        have fin : ∀ (n : Int) (ms : List Int), ns = n :: ms → ∀ (h' : Heap) (tk : Nat) (v : Value), (∀ b o, s.heap.get? b = some o → h'.get? b = some o) → RelV (.int (ms.foldl max n)) v → EP X pins σ Q v { s with heap := h', toks := tk } := fun n ms hn h' tk v hk hv => by
          subst hn
          cases e'
          exact ⟨.int _, H, I.kept hk, hv, rPrim.val dm q (.int _)⟩
        have split1 : ∀ (y : PyData) (ys : List PyData), ns.map PyData.int = y :: ys → ∃ n ms, ns = n :: ms ∧ y = .int n ∧ ys = ms.map PyData.int := fun y ys h => by
          cases ns with
          | nil => cases h
          | cons n ms =>
            cases h
            exact ⟨n, ms, rfl, rfl, rfl⟩
        rcases hd with ⟨_, hs⟩ | ⟨_, hs⟩
        · obtain ⟨its, rv2, hl, _⟩ := I.list hs
          obtain ⟨as, hra⟩ := ints_reads I hr rv2
          refine max_list_default (I.ok.hd hc) hl.isList hra (alike_ints ns) (by omega) (fun z => k0 (by simpa using z)) fun y ys i v h' tk bs hy _ r2 hk => ?_
          obtain ⟨n, ms, rfl, rfl, rfl⟩ := split1 y ys hy
          rw [maxD_ints] at r2
          exact fin n ms rfl h' tk v hk (reads_int r2)
        · obtain ⟨its, rv2, hl, _⟩ := I.tuple hs
          obtain ⟨as, hra⟩ := ints_reads I hr rv2
          refine max_tuple_default (I.ok.hd hc) (show s.heap.IsTuple a its.toArray from hl) hra (alike_ints ns) (by omega) (fun z => k0 (by simpa using z)) fun y ys i v h' tk bs hy _ r2 hk => ?_
          obtain ⟨n, ms, rfl, rfl, rfl⟩ := split1 y ys hy
          rw [maxD_ints] at r2
          exact fin n ms rfl h' tk v hk (reads_int r2)
      · cases e'
    · cases e'
  · cases e'
theorem call_minK (hc : X.calm = true) (hu : X.A.units + 64 < cLine) : CallRK X (.builtin "min") [Str.ofString "default"] (fun vs zs H Q => ∃ v z, vs = [v] ∧ zs = [z] ∧ rPk X.K minDS [v, z] H Q) := by
  intro pins s σ H vs zs us ws Q I rv rz h
  obtain ⟨v, z, rfl, rfl, ow, ds, b, dm, r, e, q⟩ := h
  obtain ⟨d1, d2, rfl, h1, h2⟩ := pk2 r
  have e' : (if flatD d2 = true then (match itemsS d1 with
    | some ds => (match ints? ds with
      | some ns => (minDL d2 ns).map B.val
      | none => none)
    | none => none) else none) = some b := e
  clear e
  split at e'
  · rename_i hf
    split at e'
    · rename_i ds' ed
      split at e'
      · rename_i ns en
        have eds := ints?_ok en
        subst eds
        have hd2 := pk_flat h2 hf
        obtain ⟨a, xs, rfl, hr, hd⟩ := pk_items h1 ed
        obtain ⟨w, rfl, rw1⟩ := vals1' rz
        rw [Vals.ref1 rv]
        have hdp := depth_ints ns
        have k0 : ns = [] → ∀ h' tk, (∀ b o, s.heap.get? b = some o → h'.get? b = some o) → EP X pins σ Q w { s with heap := h', toks := tk } := fun hn h' tk hk => by
          subst hn
          cases e'
          exact ⟨z, H, I.kept hk, rw1, rPrim.val dm q hd2⟩
        have fin : ∀ (n : Int) (ms : List Int), ns = n :: ms → ∀ (h' : Heap) (tk : Nat) (v : Value), (∀ b o, s.heap.get? b = some o → h'.get? b = some o) → RelV (.int (ms.foldl min n)) v → EP X pins σ Q v { s with heap := h', toks := tk } := fun n ms hn h' tk v hk hv => by
          subst hn
          cases e'
          exact ⟨.int _, H, I.kept hk, hv, rPrim.val dm q (.int _)⟩
        have split1 : ∀ (y : PyData) (ys : List PyData), ns.map PyData.int = y :: ys → ∃ n ms, ns = n :: ms ∧ y = .int n ∧ ys = ms.map PyData.int := fun y ys h => by
          cases ns with
          | nil => cases h
          | cons n ms =>
            cases h
            exact ⟨n, ms, rfl, rfl, rfl⟩
        rcases hd with ⟨_, hs⟩ | ⟨_, hs⟩
        · obtain ⟨its, rv2, hl, _⟩ := I.list hs
          obtain ⟨as, hra⟩ := ints_reads I hr rv2
          refine min_list_default (I.ok.hd hc) hl.isList hra (alike_ints ns) (by omega) (fun z => k0 (by simpa using z)) fun y ys i v h' tk bs hy _ r2 hk => ?_
          obtain ⟨n, ms, rfl, rfl, rfl⟩ := split1 y ys hy
          rw [minD_ints] at r2
          exact fin n ms rfl h' tk v hk (reads_int r2)
        · obtain ⟨its, rv2, hl, _⟩ := I.tuple hs
          obtain ⟨as, hra⟩ := ints_reads I hr rv2
          refine min_tuple_default (I.ok.hd hc) (show s.heap.IsTuple a its.toArray from hl) hra (alike_ints ns) (by omega) (fun z => k0 (by simpa using z)) fun y ys i v h' tk bs hy _ r2 hk => ?_
          obtain ⟨n, ms, rfl, rfl, rfl⟩ := split1 y ys hy
          rw [minD_ints] at r2
          exact fin n ms rfl h' tk v hk (reads_int r2)
      · cases e'
    · cases e'
  · cases e'
def dflE (sem : List D → Option B) (pa pb : M PArg) : M B := bin2 pa pb fun x y => withR [x, y] fun ds => lift (sem ds)
theorem de_maxK (g : Good G cs k Z X) {e e2 : Expr} {ma mb : M B} {p pos kp : Pos} (hg : isGlob Z "max" = true) (hm : X.mg "max" = none) (n1 : notStar e = true) (ha : DE X e ma) (hb : DE X e2 mb) :
    DE X (.Call (.Name "max" p) [e] [⟨some "default", e2, kp⟩] pos) (dflE maxDS (peekM Z e ma) (peekM Z e2 mb)) := by
  obtain ⟨gl, db⟩ := glob_gl g hg
  have s1 : starEach [e] X.env = (false, eval e X.env) :: starEach [] X.env := star_cons n1
  refine PE.of (pe_callBK (ks := [Str.ofString "default"]) (call_maxK g.calm g.room.units) gl hm (by decide +kernel) (pa_cons (pe_peek g ha) pa_nil s1) (pk_cons (pe_peek g hb) pk_nil) (by decide) db (by rw [s1]; rfl) (by rw [s1]; rfl) rfl rfl rfl) fun σ H Q h => ?_
  have h2 : tOp _ (tMs X.K (rPσ X.K) (peekM Z e ma)) (tMs X.K (rPσ X.K) (peekM Z e2 mb)) σ H Q := two_rule h
  obtain ⟨ow, en, s, a, en', e1, q⟩ := h2
  refine ⟨ow, en, s, a, en', e1, fun H1 ow1 x x1 s1 q1 => ?_⟩
  obtain ⟨ow2, en2, s2, b, en3, e3, q3⟩ := q H1 ow1 x x1 s1 q1
  exact ⟨ow2, en2, s2, b, en3, e3, fun H2 ow3 y x2 s3 q2 => ⟨x, y, rfl, rfl, q3 H2 ow3 y x2 s3 q2⟩⟩
theorem de_minK (g : Good G cs k Z X) {e e2 : Expr} {ma mb : M B} {p pos kp : Pos} (hg : isGlob Z "min" = true) (hm : X.mg "min" = none) (n1 : notStar e = true) (ha : DE X e ma) (hb : DE X e2 mb) :
    DE X (.Call (.Name "min" p) [e] [⟨some "default", e2, kp⟩] pos) (dflE minDS (peekM Z e ma) (peekM Z e2 mb)) := by
  obtain ⟨gl, db⟩ := glob_gl g hg
  have s1 : starEach [e] X.env = (false, eval e X.env) :: starEach [] X.env := star_cons n1
  refine PE.of (pe_callBK (ks := [Str.ofString "default"]) (call_minK g.calm g.room.units) gl hm (by decide +kernel) (pa_cons (pe_peek g ha) pa_nil s1) (pk_cons (pe_peek g hb) pk_nil) (by decide) db (by rw [s1]; rfl) (by rw [s1]; rfl) rfl rfl rfl) fun σ H Q h => ?_
  have h2 : tOp _ (tMs X.K (rPσ X.K) (peekM Z e ma)) (tMs X.K (rPσ X.K) (peekM Z e2 mb)) σ H Q := two_rule h
  obtain ⟨ow, en, s, a, en', e1, q⟩ := h2
  refine ⟨ow, en, s, a, en', e1, fun H1 ow1 x x1 s1 q1 => ?_⟩
  obtain ⟨ow2, en2, s2, b, en3, e3, q3⟩ := q H1 ow1 x x1 s1 q1
  exact ⟨ow2, en2, s2, b, en3, e3, fun H2 ow3 y x2 s3 q2 => ⟨x, y, rfl, rfl, q3 H2 ow3 y x2 s3 q2⟩⟩
/-! ### x[::-1] of a list, a tuple -/
theorem fm_congr {α β : Type} {f g : α → Option β} : ∀ {l : List α}, (∀ x ∈ l, f x = g x) → l.filterMap f = l.filterMap g
  | [], _ => rfl
  | x :: l, h => by rw [List.filterMap_cons, List.filterMap_cons, h x (by simp), fm_congr fun y hy => h y (by simp [hy])]
theorem fm_self {α : Type} : ∀ l : List α, (List.range l.length).filterMap (fun m => l[m]?) = l
  | [] => rfl
  | x :: t => by
    rw [List.length_cons, List.range_succ_eq_map, List.filterMap_cons]
    simp only [List.getElem?_cons_zero, List.filterMap_map]
    exact congrArg (x :: ·) (fm_self t)
theorem fm_rev {α : Type} (l : List α) : ((List.range l.length).filterMap fun (m : Nat) => l[((l.length : Int) - 1 + (m : Int) * (-1)).toNat]?) = l.reverse := by
  have h : (List.range l.length).filterMap (fun (m : Nat) => l[((l.length : Int) - 1 + (m : Int) * (-1)).toNat]?) = (List.range l.reverse.length).filterMap (fun m => l.reverse[m]?) := by
    rw [List.length_reverse]
    refine fm_congr fun m hm => ?_
    have := List.mem_range.mp hm
    rw [List.getElem?_reverse this, show ((l.length : Int) - 1 + (m : Int) * (-1)).toNat = l.length - 1 - m by omega]
  rw [h]
  exact fm_self _
section
variable {prog : Program} {w : World} {A : Around} {E : Value → Shared → Prop} {s : Shared}
theorem adjust_rev (n : Nat) : Builtin.Slice.sliceAdjust none none (-1) (n : Int) = ((n : Int) - 1, -1) := rfl
theorem places_rev (n : Nat) : Builtin.Slice.slicePlaces ((n : Int) - 1) (-1) (-1) = n := by
  unfold Builtin.Slice.slicePlaces
  have h1 : ¬ (-1 : Int) > 0 := by omega
  rw [if_neg h1]
  split
  · have e : (n : Int) - 1 - -1 - 1 = n - 1 := by omega
    rw [e]
    simp
  · have : n = 0 := by omega
    subst this
    rfl
theorem sliceApplied_rev {sl : Addr} {vs : Value} {n : Nat} {Q : Int × Int × Nat → Shared → Prop} (hs : s.heap.IsSliceOf sl .none .none vs) (ps : IsPart vs (some (-1)))
    (h : Q ((n : Int) - 1, -1, n) s) : wpAny (model prog w) A (Builtin.Slice.sliceApplied (.ref sl) (pure (n : Int))) Q E s := by
  obtain ⟨os, hos, hcs, hds⟩ := id hs
  unfold Builtin.Slice.sliceApplied Builtin.Slice.sliceFields
  refine wpAny_bind (wpAny_bind (wpAny_field hos hds (x := .none) rfl (wpAny_bind (wpAny_field hos hds (x := .none) rfl (wpAny_bind (wpAny_field hos hds (x := vs) rfl (wpAny_pure ?_)))))))
  refine wpAny_bind (HT.slicePart_ ps ?_)
  show wpAny _ _ (if ((-1 : Int) == 0) = true then _ else _) _ _ s
  rw [if_neg (by decide)]
  refine wpAny_bind (slicePart_none (wpAny_bind (slicePart_none (wpAny_bind (wpAny_pure ?_)))))
  show wpAny _ _ (match Builtin.Slice.sliceAdjust none none (-1) (n : Int) with | (lo, hi) => pure (lo, (-1 : Int), Builtin.Slice.slicePlaces lo hi (-1))) _ _ s
  rw [adjust_rev n]
  show wpAny _ _ (pure ((n : Int) - 1, (-1 : Int), Builtin.Slice.slicePlaces ((n : Int) - 1) (-1) (-1))) _ _ s
  rw [places_rev]
  exact wpAny_pure h
theorem getItem_tuple_rev {t sl : Addr} {its : List Value} {vs : Value} {Q : Value → Shared → Prop} (ht : IsTup s.heap t its.toArray) (hs : s.heap.IsSliceOf sl .none .none vs) (ps : IsPart vs (some (-1)))
    (h : Q (.ref s.heap.objs.size) { s with heap := s.heap.push { cls := .type "tuple", data := .seq its.reverse.toArray } })
    (hsz : its.length ≤ sizeLine) : wpAny (model prog w) A (getItem (.ref t) (.ref sl)) Q E s := by
  have htake : sizeOk (.seq its.reverse.toArray) := by
    show its.reverse.toArray.size ≤ sizeLine
    rw [List.size_toArray, List.length_reverse]
    exact hsz
  obtain ⟨os, hos, hcs, hds⟩ := id hs
  have hTs : s.TypeIs (.ref sl) "slice" := ⟨os, hos, hcs⟩
  unfold getItem
  try with_reducible refine wpAny_holding ?_
  first | refine wpAny_bind (wpAny_pure ?_) | skip
  refine wpAny_bind (wpAny_sequenceKey ht.typeIs (by decide) ?_)
  refine wpAny_bind (wpAny_callSpecial?_slot (name := Str.ofString "__getitem__") ht.typeIs PyProof.Rows.slot_tuple_getitem
    (wpAny_call_entry PyProof.Rows.slot_tuple_getitem ht.typeIs entry_tuple_getitem ?_ (args_tuple_getitem _ _)))
  show wpAny _ _ (Builtin.Tuple.tupleItemsOf (.ref t) >>= _) _ _ s
  refine wpAny_bind (tupleItemsOf_ ht ?_)
  refine wpAny_bind (wpAny_typeOf hTs ?_)
  rw [if_pos (by decide)]
  refine wpAny_bind (sliceApplied_rev hs ps ?_)
  show wpAny _ _ (if (((its.toArray.size : Int) - 1) == 0 && (-1 : Int) == 1 && its.toArray.size == its.toArray.size) = true then _ else _) _ _ s
  rw [if_neg (by simp)]
  have e : ((List.range its.toArray.size).filterMap fun (k : Nat) => its.toArray[((its.toArray.size : Int) - 1 + (k : Int) * (-1)).toNat]?) = its.reverse := by
    rw [← fm_rev its]
    simp
  rw [e]
  first
    | exact wpAny_bind (m := Builtin.Tuple.tupleExact _) (wpAny_newObj_type (wpAny_pure ⟨_, rfl, wpAny_pure h⟩) htake)
    | exact wpAny_bind (m := Builtin.Tuple.tupleExact _) (wpAny_newObj_type (wpAny_bind (wpAny_pure (wpAny_pure ⟨_, rfl, wpAny_pure h⟩))) htake)
    | exact wpAny_bind (wpAny_bind (m := Builtin.Tuple.tupleExact _) (wpAny_newObj_type (wpAny_pure (wpAny_pure ⟨_, rfl, wpAny_pure h⟩)) htake))
    | exact wpAny_bind (wpAny_bind (m := Builtin.Tuple.tupleExact _) (wpAny_newObj_type (wpAny_pure ⟨_, rfl, wpAny_pure h⟩) htake))
end
def tRevA (K : PySem.W.Frag) (te : TE) : TE := fun σ H Q => te σ H fun x H1 => ∃ a xs, x = .ref a ∧ ((SqL K H1 a xs ∧ ∀ p, H1 p = none → Q (.ref p) (upd H1 p (.lst xs.reverse))) ∨ (SqT K H1 a xs ∧ ∀ p, H1 p = none → Q (.ref p) (upd H1 p (.tup xs.reverse))))
theorem pe_revA {e : Expr} {te : TE} {k : Nat} {p1 p2 p3 pos : Pos} (he : PE X e te) : PE X (.Subscript e (.Slice none none (some (.UnaryOp .USub (.Constant (.int 1) k p1) p2)) p3) pos) (tRevA X.K te) := by
  refine ⟨fun pins s σ H Q I h => ?_⟩
  refine Subscript_ (thn (he.run pins s σ H _ I h) fun v s1 ⟨x, H1, I1, r1, q1⟩ => ?_)
  obtain ⟨a, xs, ex, q⟩ := q1
  subst ex
  cases r1
  have hst : PO X (some (.UnaryOp .USub (.Constant (.int 1) k p1) p2)) (tPart (tUn (rU fun i => .int (-i)) (tC (.int 1)))) := po_some (pe_un un_neg pe_int)
  refine wpAny_Slice (thn (po_none.run pins s1 σ H1 (fun o H2 => o = none ∧ H2 = H1) I1 ⟨rfl, rfl⟩) fun vl s2 ⟨l, H2, I2, pl, el, e2⟩ => ?_)
  subst el e2
  refine thn (po_none.run pins s2 σ H2 (fun o H3 => o = none ∧ H3 = H2) I2 ⟨rfl, rfl⟩) fun vu s3 ⟨u, H3, I3, pu, eu, e3⟩ => ?_
  subst eu e3
  refine thn (hst.run pins s3 σ H3 (fun o H4 => o = some (-1) ∧ H4 = H3) I3 ⟨1, rfl, -1, rfl, rfl, rfl⟩) fun vs s4 ⟨o, H4, I4, ps, eo, e4⟩ => ?_
  subst eo e4
  have I5 : Inv X pins σ H4 { s4 with heap := s4.heap.push { cls := .type "slice", data := .fields #[vl, vu, vs] } } := I4.kept (t' := s4.toks) fun b ob q => Heap.get?_push_of_some _ q
  rcases q with ⟨hx, q⟩ | ⟨hx, q⟩
  · obtain ⟨its, r, ht, hz⟩ := I5.list hx
    have hlen := r.length
    show wpAny (model X.prog X.w) X.A (subscriptTail e (.Slice none none (some (.UnaryOp .USub (.Constant (.int 1) k p1) p2)) p3) (.ref a) (.ref s4.heap.objs.size)) (EP X pins σ Q) X.xe { s4 with heap := s4.heap.push { cls := .type "slice", data := .fields #[vl, vu, vs] } }
    refine tail_any (ops := [.ref a, .ref s4.heap.objs.size]) ht.isList.typeIs (PySem.slot_list_getitem.lookup) ?_ (by with_unfolding_all rfl)
    refine wpAny_getItem_list_slice ht.isList (Heap.IsSliceOf.new _ vl vu vs) pl pu ps (by decide) ?_ (by rw [List.size_toArray]; omega)
    rw [PySem.W.krv_pick]
    refine ⟨.ref _, _, I5.laid (t' := s4.toks) (o := .lst xs.reverse) (fun b ob q => Heap.get?_push_of_some _ q) (Nat.le_refl _) ?_, rfl, q _ (I5.hok.fresh (Nat.le_refl _))⟩
    exact ⟨by rw [List.length_reverse]; exact hz, _, 0, r.reverse, Heap.get?_push_size _ rfl⟩
  · obtain ⟨its, r, ht, hz⟩ := I5.tuple hx
    have hlen := r.length
    cases pl
    cases pu
    show wpAny (model X.prog X.w) X.A (subscriptTail e (.Slice none none (some (.UnaryOp .USub (.Constant (.int 1) k p1) p2)) p3) (.ref a) (.ref s4.heap.objs.size)) (EP X pins σ Q) X.xe { s4 with heap := s4.heap.push { cls := .type "slice", data := .fields #[.none, .none, vs] } }
    refine tail_any (ops := [.ref a, .ref s4.heap.objs.size]) ht.typeIs (PyProof.Rows.slot_tuple_getitem.lookup) ?_ (by with_unfolding_all rfl)
    refine getItem_tuple_rev ht (Heap.IsSliceOf.new _ _ _ vs) ps ?_ (by omega)
    refine ⟨.ref _, _, I5.laid (t' := s4.toks) (o := .tup xs.reverse) (fun b ob q => Heap.get?_push_of_some _ q) (Nat.le_refl _) ?_, rfl, q _ (I5.hok.fresh (Nat.le_refl _))⟩
    exact ⟨by rw [List.length_reverse]; exact hz, _, r.reverse, IsTup.new _ _⟩
def revLS : List D → Option B
  | [.list ds] => some (.lst ds.reverse)
  | [.tuple ds] => some (.val (.tuple ds.reverse))
  | _ => none
def revE (pa : M PArg) : M B := bd pa fun x => withR [x] fun ds => lift (revLS ds)
theorem de_revE (g : Good G cs k Z X) {e : Expr} {me : M B} {kk : Nat} {p1 p2 p3 pos : Pos} (he : DE X e me) : DE X (.Subscript e (.Slice none none (some (.UnaryOp .USub (.Constant (.int 1) kk p1) p2)) p3) pos) (revE (peekM Z e me)) := by
  refine PE.of (pe_revA (pe_peek g he)) fun σ H Q ⟨ow, en, s, gg⟩ => ⟨ow, en, s, ?_⟩
  obtain ⟨d, en', h1, h2⟩ := (show Go X.K (rB X.K) σ (bd (peekM Z e me) _ en) H ow Q from gg).bind (rep2 := rPσ X.K σ)
  refine ⟨d, en', h1, fun H1 ow1 x x1 s1 q1 => ?_⟩
  obtain ⟨ow2, en2, d2, x2, s2, q2, g2⟩ := h2 H1 ow1 x x1 s1 q1
  obtain ⟨ow7, ds, b, dm, r, e7, q7⟩ := g2.withR_ s2 (.cons q2 .nil)
  obtain ⟨d7, rfl, hr⟩ := pk1 r
  unfold revLS at e7
  split at e7
  · rename_i ds' z
    cases z
    cases e7
    obtain ⟨a, vs, rfl, h1, h2⟩ := pk_lst hr
    exact ⟨a, vs, rfl, .inl ⟨h1, rPrim.lst dm q7 h2.reverse⟩⟩
  · rename_i ds' z
    cases z
    cases e7
    obtain ⟨a, vs, rfl, h1, h2⟩ := pk_tup hr
    exact ⟨a, vs, rfl, .inr ⟨h1, rPrim.tup dm q7 h2.reverse⟩⟩
  · cases e7
/-! ### x.index(y) of a name's list that is data for ever -/
def idxS : List D → Option B
  | [.list ds, d] => if SeqAt.shaped (.list ds) = true ∧ SeqAt.shaped d = true then (match ds.findIdx? fun z => PyData.eqv z d with
    | some j => some (.val (.int (j : Nat)))
    | none => none) else none
  | _ => none
def idxE (i : Nat) (me : M D) : M B := fun en => match en[i]? with
  | some (some (.val (.list ds))) => bd me (fun d => lift (idxS [.list ds, d])) en
  | _ => none
theorem de_idx (g : Good G cs k Z X) {x : Str} {i : Nat} {p apos cpos : Pos} {e : Expr} {me : M B} (h : slotOf Z x = some i) (he : DE X e me) (hs : notStar e = true) (hline : (apos.endLine == cpos.line) = true) :
    DE X (.Call (.Attribute (.Name x p) "index" apos) [e] [] cpos) (idxE i (mD me)) := by
  have s1 : starEach [e] X.env = (false, eval e X.env) :: starEach [] X.env := star_cons hs
  refine PE.of (pe_bm PySem.F.plainAttrs_list PySem.F.slot_list_index PySem.F.type_list_index (mt_indexD (units_of g)) (peek_var g h) (pa_cons he.d pa_nil s1) rfl (by rw [s1]; rfl) hline s1 rfl) fun σ H Q ⟨ow, en, s, gg⟩ => ?_
  have gg' : Go X.K (rB X.K) σ (idxE i (mD me) en) H ow Q := gg
  clear gg
  unfold idxE at gg'
  split at gg'
  · rename_i ds ed
    obtain ⟨v, v1, v2⟩ := s.rep i _ ed
    have v3 : Rp X.K (Fz H ow) v (.list ds) := v2
    obtain ⟨a, xs, rfl, _, h1, h2⟩ := rp_list_in v3
    obtain ⟨d, en', g1, g2⟩ := gg'.bind (rep2 := rD X.K)
    refine ⟨.ref a, v1, .inl ⟨rfl, xs, SqL.of h1⟩, ow, en, s, d, en', g1, fun H1 ow1 y x1 s1 q1 => ?_⟩
    obtain ⟨ow2, en2, d2, x2, s2, q2, g3⟩ := g2 H1 ow1 y x1 s1 q1
    have v4 : Rp X.K (Fz H1 ow2) (.ref a) (.list ds) := Rp.mono x2.fz v3
    obtain ⟨ow7, ds7, b, dm, r, e7, q7⟩ := g3.liftP (sem := idxS) (ds := [.list ds, d2]) s2 (.cons (Rp.pk v4) (.cons (Rp.pk q2) .nil))
    obtain ⟨d8, d9, rfl, r1, r2⟩ := pk2 r
    unfold idxS at e7
    split at e7
    · rename_i es d10 z
      cases z
      split at e7
      · rename_i hc
        split at e7
        · rename_i j ej
          cases e7
          rw [List.findIdx?_eq_some_iff_getElem] at ej
          obtain ⟨j1, j2, j3⟩ := ej
          refine ⟨a, y, _, es, j, es[j], rfl, rfl, Pk.dp r1, Pk.dp r2, hc.1, hc.2, List.getElem?_eq_getElem j1, j2, fun m z' hm hz => ?_, rPrim.val dm q7 (.int _)⟩
          obtain ⟨hm1, hm2⟩ := List.getElem?_eq_some_iff.mp hz
          subst hm2
          have := j3 m hm
          simpa using this
        · cases e7
      · cases e7
    · cases e7
  · obtain ⟨_, _, z, _⟩ := gg'
    cases z
/-! ### i, j, l = three things -/
def parS3 (i j l : Nat) (ms : M (List D)) : Sm := fun en => match ms en with
  | some ([a, b, c], en1) => if i < en1.length ∧ j < en1.length ∧ l < en1.length then some (.nx (((en1.set i (some (.val a))).set j (some (.val b))).set l (some (.val c)))) else none
  | _ => none
theorem ds_par3 (g : Good G cs k Z X) {x y z : Str} {i j l : Nat} {px py pz pt pos pt2 : Pos} {kt k2 : Nat} {a b c : Expr} {f : Expr → M B} (hx : bindSlot Z x = some i) (hy : bindSlot Z y = some j) (hz : bindSlot Z z = some l) (hij : i ≠ j) (hil : i ≠ l) (hjl : j ≠ l) (hk : isFun Z.sc = true)
    (lx : Z.sc.names.lookup x = some .local) (ly : Z.sc.names.lookup y = some .local) (lz : Z.sc.names.lookup z = some .local)
    (hw : swS Z.sc [.Name x px, .Name y py, .Name z pz] [a, b, c] = some (some [x, y, z])) (hs : [a, b, c].all notStar = true) (he : ∀ e ∈ [a, b, c], DE X e (f e)) :
    DS X Z (.Assign [.Tuple [.Name x px, .Name y py, .Name z pz] kt pt] (.Tuple [a, b, c] k2 pt2) pos) (parS3 i j l (seqM ([a, b, c].map fun e => mD (f e)))) := by
  obtain ⟨x1, x2, x3, x4⟩ := bind_ok g hx
  obtain ⟨y1, y2, y3, y4⟩ := bind_ok g hy
  obtain ⟨z1, z2, z3, z4⟩ := bind_ok g hz
  refine PS.of (ps_par3 g.calm g.nd x1 y1 z1 hij hil hjl (by rw [g.sc]; exact lx) (by rw [g.sc]; exact ly) (by rw [g.sc]; exact lz) (da_list hs he) (swS_ok (by rw [g.sc]; exact hk) (by rw [g.sc]; exact hw)) rfl) fun D σ H ⟨ow, en, s, gg⟩ => ⟨ow, en, s, ?_⟩
  unfold parS3 at gg
  split at gg
  · rename_i d1 d2 d3 en1 e1
    split at gg
    · rename_i hl
      refine ⟨[d1, d2, d3], en1, e1, fun H1 ow1 vs x1 s1 q1 => ?_⟩
      cases q1 with
      | cons q1 r1 =>
        cases r1 with
        | cons q2 r2 =>
          cases r2 with
          | cons q3 r3 =>
            cases r3
            refine ⟨_, _, _, rfl, ?_⟩
            have t1 := sta_set (i := i) (b := .val d1) s1 q1 hl.1
            have xe : Ext H1 ow1 H1 (adopt i ow1) := adopt_ext
            have t2 := sta_set (i := j) (b := .val d2) t1 (show BRep X.K H1 (adopt i ow1) none (.val d2) _ from Rp.mono xe.fz q2) (by rw [List.length_set]; exact hl.2.1)
            have xf : Ext H1 ow1 H1 (adopt j (adopt i ow1)) := xe.trans adopt_ext
            have t3 := sta_set (i := l) (b := .val d3) t2 (show BRep X.K H1 (adopt j (adopt i ow1)) none (.val d3) _ from Rp.mono xf.fz q3) (by rw [List.length_set, List.length_set]; exact hl.2.2)
            refine gg _ _ _ ((x1.trans xf).trans adopt_ext) t3 ⟨by rw [List.length_set, List.length_set, List.length_set], fun n hn => ?_⟩
            exact (List.getElem?_set_ne (fun z => by rw [z, hn] at z4; cases z4)).trans ((List.getElem?_set_ne (fun z => by rw [z, hn] at y4; cases y4)).trans (List.getElem?_set_ne (fun z => by rw [z, hn] at x4; cases x4)))
    · exact gg.elim
  · exact gg.elim
end
end DL

namespace DL
open PySem PySem.W PySem.Spec PyProof.Rows L2
/-! ### several names at once, each a list of its own or data -/
def isF : FB → Bool
  | .val _ => true
  | _ => false
/-- what may be held by a name of several assigned at once -/
def isVL : B → Bool
  | .val _ => true
  | .lst _ => true
  | .ins _ fs => fs.all fun f => isF f.2
  | .dk _ => true
  | .dt _ => true
  | _ => false
def mO (m : M B) : M B := bd m fun b => if isVL b = true then ret b else stuck
def mF (m : M B) : M B := bd (mD m) fun d => ret (.val d)
def kM (o : Bool) (m : M B) : M B := match o with
  | true => mO m
  | false => mF m
theorem kM_vl {o : Bool} {m : M B} {en en' : Env} {b : B} (h : kM o m en = some (b, en')) : isVL b = true := by
  cases o with
  | true =>
    have h' : bd m (fun b => if isVL b = true then ret b else stuck) en = some (b, en') := h
    unfold bd at h'
    cases e : m en with
    | none => rw [e] at h'; cases h'
    | some p =>
      obtain ⟨c, e2⟩ := p
      rw [e] at h'
      dsimp only at h'
      split at h'
      · rename_i hc
        cases h'
        exact hc
      · cases h'
  | false =>
    have h' : bd (mD m) (fun d => ret (.val d)) en = some (b, en') := h
    unfold bd at h'
    cases e : mD m en with
    | none => rw [e] at h'; cases h'
    | some p =>
      obtain ⟨c, e2⟩ := p
      rw [e] at h'
      cases h'
      rfl
/-- what an own thing holds, by frozen data alone -/
def Cont (K : PySem.W.Frag) (F : Hp) : B → HO → Prop
  | .lst ds, o => ∃ us, o = .lst us ∧ RpAll K F us ds
  | .ins c fs, o => ∃ dx us, o = .ins (He.ga K c) dx us ∧ (fs.all fun f => isF f.2) = true ∧ FsRep K F (fun _ => .frz) none 1 fs us
  | .dk kvs, o => ∃ us, o = .dK us ∧ RpKV K F us kvs
  | .dt kvs, o => ∃ us, o = .dT us ∧ RpKV K F us kvs
  | _, _ => False
theorem fz_all (F : Hp) : Fz F (fun _ => .frz) = F := by
  funext b
  exact res_at rfl
theorem FsRep.vals {K : PySem.W.Frag} {H H' : Hp} {ow ow' : Ow} {i j : Option Nat} (e : Same (Fz H ow) (Fz H' ow')) : ∀ {fs : List (Str × FB)} {k : Nat} {vs : List (Str × V)}, (fs.all fun f => isF f.2) = true → FsRep K H ow i k fs vs → FsRep K H' ow' j k fs vs
  | [], _, _, _, h => h
  | (x, .val d) :: fs, k, vs, hv, ⟨v, r, h1, h2, h3⟩ => ⟨v, r, h1, Rp.mono e h2, FsRep.vals e (by rw [List.all_cons, Bool.and_eq_true] at hv; exact hv.2) h3⟩
  | (x, .lst d) :: fs, k, vs, hv, _ => by simp [isF] at hv
theorem Cont.mono {K : PySem.W.Frag} {F F' : Hp} (e : Same F F') : ∀ {b : B} {o : HO}, Cont K F b o → Cont K F' b o
  | .lst ds, _, ⟨us, h1, h2⟩ => ⟨us, h1, RpAll.mono e h2⟩
  | .ins c fs, _, ⟨dx, us, h1, h2, h3⟩ => ⟨dx, us, h1, h2, FsRep.vals (by rw [fz_all, fz_all]; exact e) h2 h3⟩
  | .dk kvs, _, ⟨us, h1, h2⟩ => ⟨us, h1, RpKV.mono e h2⟩
  | .dt kvs, _, ⟨us, h1, h2⟩ => ⟨us, h1, RpKV.mono e h2⟩
  | .val _, _, h => h.elim
  | .scr _, _, h => h.elim
theorem cont_of {K : PySem.W.Frag} {H : Hp} {ow : Ow} {i : Option Nat} {b : B} {v : V} (hb : isVL b = true) (hn : ∀ d, b ≠ .val d) (h : BRep K H ow i b v) : ∃ a o, v = .ref a ∧ ow a = .own i 0 ∧ H a = some o ∧ Cont K (Fz H ow) b o := by
  cases b with
  | val d => exact (hn d rfl).elim
  | scr d => cases hb
  | lst ds =>
    obtain ⟨a, us, h1, h2, h3, h4⟩ := h
    exact ⟨a, _, h1, h2, h3, us, rfl, h4⟩
  | ins c fs =>
    obtain ⟨a, dx, us, h1, h2, h3, h4⟩ := h
    exact ⟨a, _, h1, h2, h3, dx, us, rfl, hb, FsRep.vals (by rw [fz_all]; exact fun _ _ z => z) hb h4⟩
  | dk kvs =>
    obtain ⟨a, us, h1, h2, h3, h4⟩ := h
    exact ⟨a, _, h1, h2, h3, us, rfl, h4⟩
  | dt kvs =>
    obtain ⟨a, us, h1, h2, h3, h4⟩ := h
    exact ⟨a, _, h1, h2, h3, us, rfl, h4⟩
theorem cont_to {K : PySem.W.Frag} {H : Hp} {ow : Ow} {i : Option Nat} {b : B} {a : Addr} {o : HO} (h2 : ow a = .own i 0) (h3 : H a = some o) (h : Cont K (Fz H ow) b o) : BRep K H ow i b (.ref a) := by
  cases b with
  | val d => exact h.elim
  | scr d => exact h.elim
  | lst ds =>
    obtain ⟨us, rfl, h4⟩ := h
    exact ⟨a, us, rfl, h2, h3, h4⟩
  | ins c fs =>
    obtain ⟨dx, us, rfl, hb, h4⟩ := h
    exact ⟨a, dx, us, rfl, h2, h3, FsRep.vals (by rw [fz_all]; exact fun _ _ z => z) hb h4⟩
  | dk kvs =>
    obtain ⟨us, rfl, h4⟩ := h
    exact ⟨a, us, rfl, h2, h3, h4⟩
  | dt kvs =>
    obtain ⟨us, rfl, h4⟩ := h
    exact ⟨a, us, rfl, h2, h3, h4⟩
inductive RepO (K : PySem.W.Frag) (H : Hp) (ow : Ow) : List B → List V → List Addr → Prop
  | nil : RepO K H ow [] [] []
  | val {d : D} {v : V} {bs : List B} {vs : List V} {as : List Addr} : Rp K (Fz H ow) v d → RepO K H ow bs vs as → RepO K H ow (.val d :: bs) (v :: vs) as
  | own {b : B} {a : Addr} {o : HO} {bs : List B} {vs : List V} {as : List Addr} : ow a = .frm → H a = some o → Cont K (Fz H ow) b o → a ∉ as → RepO K H ow bs vs as → RepO K H ow (b :: bs) (.ref a :: vs) (a :: as)
section
variable {K : PySem.W.Frag} {H H' : Hp} {ow ow' : Ow}
theorem RepO.mono (e : Same (Fz H ow) (Fz H' ow')) : ∀ {bs : List B} {vs : List V} {as : List Addr}, RepO K H ow bs vs as → (∀ b ∈ as, ow b = .frm → ow' b = .frm ∧ H' b = H b) → RepO K H' ow' bs vs as
  | _, _, _, .nil, _ => .nil
  | _, _, _, .val r ro, h => .val (Rp.mono e r) (RepO.mono e ro h)
  | _, _, _, .own h1 h2 h3 h4 ro, h => .own (h _ (by simp) h1).1 ((h _ (by simp) h1).2.trans h2) (Cont.mono e h3) h4 (RepO.mono e ro fun b hb => h b (by simp [hb]))
theorem RepO.len : ∀ {bs : List B} {vs : List V} {as : List Addr}, RepO K H ow bs vs as → vs.length = bs.length
  | _, _, _, .nil => rfl
  | _, _, _, .val _ ro => congrArg Nat.succ ro.len
  | _, _, _, .own _ _ _ _ ro => congrArg Nat.succ ro.len
def setsE : List Nat → List B → Env → Env
  | i :: is, b :: bs, en => setsE is bs (en.set i (some b))
  | _, _, en => en
def setsV : List Nat → List V → L2.St → L2.St
  | i :: is, v :: vs, σ => setsV is vs (σ.set i (some v))
  | _, _, σ => σ
theorem sta_own {σ : L2.St} {en : Env} {a : Addr} (s : Sta K H ow σ en) (h : ow a = .own none 0) : Sta K H (setL ow a .frm) σ en := by
  have ne : ∀ b, ow b ≠ .own none 0 → b ≠ a := fun b z e => z (by rw [e]; exact h)
  refine ⟨s.len, fun i b q => ?_, fun b q => ?_⟩
  · obtain ⟨v, v1, v2⟩ := s.rep i b q
    refine ⟨v, v1, BRep.mono (fun b o e => ?_) (fun b k e => ?_) v2⟩
    · obtain ⟨e1, e2⟩ := res_some e
      exact (res_at (by rw [setL_ne (ne b (by rw [e1]; intro z; cases z))]; exact e1)).trans e2
    · rw [setL_ne (ne b (by rw [e]; intro z; cases z))]
      exact ⟨e, rfl⟩
  · by_cases e : b = a
    · rw [e]
      exact s.dom a (by rw [h]; intro z; cases z)
    · rw [setL_ne e] at q
      exact s.dom b q
theorem ext_own {a : Addr} (h : ow a = .own none 0) : Ext H ow H (setL ow a .frm) := by
  have ne : ∀ b, ow b ≠ .own none 0 → b ≠ a := fun b z e => z (by rw [e]; exact h)
  exact ⟨fun b q => by
    rw [setL_ne (ne b (by rw [q]; intro z; cases z))]
    exact ⟨q, rfl⟩, fun b q => by
    rw [setL_ne (ne b (by rw [q]; intro z; cases z))]
    exact ⟨q, rfl⟩⟩
theorem sta_parO : ∀ {bs : List B} {is : List Nat} {vs : List V} {as : List Addr} {ow : Ow} {σ : L2.St} {en : Env}, Sta K H ow σ en → RepO K H ow bs vs as → is.length = bs.length → (∀ i ∈ is, i < en.length) →
    ∃ ow', (∀ b, ow b = .frz → ow' b = .frz) ∧ (∀ b, b ∉ as → ow b = .frm → ow' b = .frm) ∧ Sta K H ow' (setsV is vs σ) (setsE is bs en)
  | [], is, _, _, ow, σ, en, s, .nil, hl, hi => by
    cases is with
    | nil => exact ⟨ow, fun _ h => h, fun _ _ h => h, s⟩
    | cons _ _ => cases hl
  | b :: bs, [], _, _, _, _, _, _, _, hl, _ => by cases hl
  | b :: bs, i :: is, vs, as, ow, σ, en, s, ro, hl, hi => by
    cases ro with
    | val r ro =>
      have t1 := sta_set (i := i) s (show BRep K H ow none (.val _) _ from r) (hi i (by simp))
      obtain ⟨ow', f1, f2, t2⟩ := sta_parO t1 (ro.mono (adopt_ext (i := i)).fz fun b _ e => (adopt_ext (i := i) (H := H)).frm b e) (by simpa using hl) fun j hj => by rw [List.length_set]; exact hi j (by simp [hj])
      exact ⟨ow', fun b e => f1 b ((adopt_ext (i := i) (H := H)).frz b e).1, fun b hb e => f2 b hb ((adopt_ext (i := i) (H := H)).frm b e).1, t2⟩
    | @own _ a o _ vs as h1 h2 h3 h4 ro =>
      have s1 := sta_unlab (l := .own none 0) s h1 (by intro z; cases z)
      have r1 : BRep K H (setL ow a (.own none 0)) none b (.ref a) := cont_to setL_same h2 (Cont.mono (fz_unlab h1) h3)
      have t1 := sta_set (i := i) s1 r1 (hi i (by simp))
      have e1 : ∀ b, b ≠ a → ow b = .frm → adopt i (setL ow a (.own none 0)) b = .frm := fun b n e => by
        unfold adopt
        rw [setL_ne n, e]
      have e2 : ∀ b, ow b = .frz → adopt i (setL ow a (.own none 0)) b = .frz := fun b e => by
        have n : b ≠ a := fun z => by rw [z, h1] at e; cases e
        unfold adopt
        rw [setL_ne n, e]
      obtain ⟨ow', f1, f2, t2⟩ := sta_parO t1 (ro.mono (fun b o e => by
        obtain ⟨q1, q2⟩ := res_some e
        exact (res_at (e2 b q1)).trans q2) fun b hb e => ⟨e1 b (fun z => h4 (by rw [← z]; exact hb)) e, rfl⟩) (by simpa using hl) fun j hj => by rw [List.length_set]; exact hi j (by simp [hj])
      exact ⟨ow', fun b e => f1 b (e2 b e), fun b hb e => f2 b (fun z => hb (by simp [z])) (e1 b (fun z => hb (by simp [z])) e), t2⟩
end
def tO (K : PySem.W.Frag) (m : M (List B)) : TA := fun σ H Q => ∃ ow en, Sta K H ow σ en ∧ ∃ bs en', m en = some (bs, en') ∧ ∀ H' ow' vs as, Ext H ow H' ow' → Sta K H' ow' σ en' → RepO K H' ow' bs vs as → (∀ b ∈ as, ow b ≠ .frm) → Q vs H'
section
variable {G : Glob} {cs : Calls} {k : Nat} {Z : Stat} {X : Cx} {pos : Pos}
theorem de_kM {o : Bool} {e : Expr} {m : M B} (h : DE X e m) : DE X e (kM o m) := by
  cases o with
  | true =>
    refine PE.of h fun σ H Q ⟨ow, en, s, g⟩ => ⟨ow, en, s, ?_⟩
    obtain ⟨a, en', h1, h2⟩ := (show Go X.K (rB X.K) σ (bd m _ en) H ow Q from g).bind (rep2 := rB X.K)
    refine ⟨a, en', h1, fun H1 ow1 x x1 s1 q1 => ?_⟩
    obtain ⟨ow2, en2, c, x2, s2, q2, g2⟩ := h2 H1 ow1 x x1 s1 q1
    by_cases hc : isVL c = true
    · rw [if_pos hc] at g2
      exact g2.ret_ (.refl _ _) s2 q2
    · rw [if_neg hc] at g2
      exact g2.stuck_.elim
  | false =>
    refine PE.of h.d fun σ H Q ⟨ow, en, s, g⟩ => ⟨ow, en, s, ?_⟩
    obtain ⟨a, en', h1, h2⟩ := (show Go X.K (rB X.K) σ (bd (mD m) _ en) H ow Q from g).bind (rep2 := rD X.K)
    refine ⟨a, en', h1, fun H1 ow1 x x1 s1 q1 => ?_⟩
    obtain ⟨ow2, en2, c, x2, s2, q2, g2⟩ := h2 H1 ow1 x x1 s1 q1
    exact g2.ret_ (.refl _ _) s2 q2
theorem pa_O : ∀ {es : List (Expr × M B)}, (es.map (·.1)).all notStar = true → (∀ p ∈ es, DE X p.1 p.2 ∧ ∀ en b en', p.2 en = some (b, en') → isVL b = true) → PA X (es.map (·.1)) (tO X.K (seqM (es.map (·.2))))
  | [], _, _ => PA.of pa_nil fun σ H Q ⟨ow, en, s, bs, en', e, q⟩ => by
    cases e
    exact q H ow [] [] (.refl _ _) s .nil (by simp)
  | (e, m) :: es, hs, h => by
    rw [List.map_cons, List.all_cons, Bool.and_eq_true] at hs
    have ih := pa_O (es := es) hs.2 fun p hp => h p (List.mem_cons_of_mem _ hp)
    obtain ⟨hd, hv⟩ := h (e, m) List.mem_cons_self
    refine PA.of (pa_cons hd ih (star_cons hs.1)) fun σ H Q ⟨ow, en, s, bs, en', e1, q⟩ => ?_
    have e2 : bd m (fun a => bd (seqM (es.map (·.2))) fun as => ret (a :: as)) en = some (bs, en') := e1
    unfold bd at e2
    cases hm : m en with
    | none => rw [hm] at e2; cases e2
    | some p =>
      obtain ⟨b, en1⟩ := p
      rw [hm] at e2
      dsimp only at e2
      cases hm2 : seqM (es.map (·.2)) en1 with
      | none => rw [hm2] at e2; cases e2
      | some p2 =>
        obtain ⟨bs', en2⟩ := p2
        rw [hm2] at e2
        cases e2
        have hvl := hv en b en1 hm
        refine ⟨ow, en, s, b, en1, hm, fun H1 ow1 x x1 s1 r1 => ?_⟩
        by_cases hd : ∃ d, b = .val d
        · obtain ⟨d, rfl⟩ := hd
          exact ⟨ow1, en1, s1, bs', _, hm2, fun H' ow' vs as x2 s2 ro hn => q H' ow' (x :: vs) as (x1.trans x2) s2 (.val (Rp.mono x2.fz r1) ro) fun b hb z => hn b hb (x1.frm b z).1⟩
        · obtain ⟨a, o, rfl, g1, g2, g3⟩ := cont_of hvl (fun d z => hd ⟨d, z⟩) r1
          have x3 := ext_own (H := H1) g1
          refine ⟨setL ow1 a .frm, en1, sta_own s1 g1, bs', _, hm2, fun H' ow' vs as x2 s2 ro hn => q H' ow' (.ref a :: vs) (a :: as) (x1.trans (x3.trans x2)) s2 ?_ fun b hb z => ?_⟩
          · obtain ⟨f1, f2⟩ := x2.frm a setL_same
            exact .own f1 (f2.trans g2) (Cont.mono (x3.trans x2).fz g3) (fun z => hn a z setL_same) ro
          · have z1 := (x1.frm b z).1
            rcases List.mem_cons.mp hb with rfl | hb
            · rw [g1] at z1
              cases z1
            · exact hn b hb (x3.frm b z1).1
def parO2 (i j : Nat) (ms : M (List B)) : Sm := fun en => match ms en with
  | some ([a, b], en1) => if i < en1.length ∧ j < en1.length then some (.nx ((en1.set i (some a)).set j (some b))) else none
  | _ => none
def parO3 (i j l : Nat) (ms : M (List B)) : Sm := fun en => match ms en with
  | some ([a, b, c], en1) => if i < en1.length ∧ j < en1.length ∧ l < en1.length then some (.nx (((en1.set i (some a)).set j (some b)).set l (some c))) else none
  | _ => none
theorem ds_parO2 (g : Good G cs k Z X) {x y : Str} {i j : Nat} {px py pt pos pt2 : Pos} {kt k2 : Nat} {a b : Expr} {oi oj : Bool} {ma mb : M B} (hx : bindSlot Z x = some i) (hy : bindSlot Z y = some j) (hij : i ≠ j) (hk : isFun Z.sc = true)
    (lx : Z.sc.names.lookup x = some .local) (ly : Z.sc.names.lookup y = some .local)
    (hw : swS Z.sc [.Name x px, .Name y py] [a, b] = some (some [x, y])) (hs : [a, b].all notStar = true) (ha : DE X a ma) (hb : DE X b mb) :
    DS X Z (.Assign [.Tuple [.Name x px, .Name y py] kt pt] (.Tuple [a, b] k2 pt2) pos) (parO2 i j (seqM [kM oi ma, kM oj mb])) := by
  obtain ⟨x1, x2, x3, x4⟩ := bind_ok g hx
  obtain ⟨y1, y2, y3, y4⟩ := bind_ok g hy
  have pa : PA X [a, b] (tO X.K (seqM [kM oi ma, kM oj mb])) := pa_O (es := [(a, kM oi ma), (b, kM oj mb)]) hs fun p hp => by
    simp only [List.mem_cons, List.not_mem_nil, or_false] at hp
    rcases hp with rfl | rfl
    · exact ⟨de_kM ha, fun _ _ _ => kM_vl⟩
    · exact ⟨de_kM hb, fun _ _ _ => kM_vl⟩
  refine PS.of (ps_par g.calm g.nd x1 y1 hij (by rw [g.sc]; exact lx) (by rw [g.sc]; exact ly) pa (swS_ok (by rw [g.sc]; exact hk) (by rw [g.sc]; exact hw)) rfl) fun D σ H ⟨ow, en, s, gg⟩ => ?_
  unfold parO2 at gg
  split at gg
  · rename_i d1 d2 en1 e1
    split at gg
    · rename_i hl
      refine ⟨ow, en, s, [d1, d2], en1, e1, fun H1 ow1 vs as x1 s1 ro hn => ?_⟩
      obtain ⟨v, w, rfl⟩ : ∃ v w, vs = [v, w] := by
        have := ro.len
        match vs, this with
        | [v, w], _ => exact ⟨v, w, rfl⟩
      refine ⟨v, w, rfl, ?_⟩
      obtain ⟨ow', f1, f2, s2⟩ := sta_parO (is := [i, j]) s1 ro rfl (fun n hn => by
        simp only [List.mem_cons, List.not_mem_nil, or_false] at hn
        rcases hn with rfl | rfl
        · exact hl.1
        · exact hl.2)
      refine gg H1 ow' _ ⟨fun b e => ⟨f1 b (x1.frz b e).1, (x1.frz b e).2⟩, fun b e => ⟨f2 b (fun z => hn b z e) (x1.frm b e).1, (x1.frm b e).2⟩⟩ s2 ⟨by simp [setsV], fun n hn => ?_⟩
      exact (List.getElem?_set_ne (fun z => by rw [z, hn] at y4; cases y4)).trans (List.getElem?_set_ne (fun z => by rw [z, hn] at x4; cases x4))
    · exact gg.elim
  · exact gg.elim
theorem ds_parO3 (g : Good G cs k Z X) {x y z : Str} {i j l : Nat} {px py pz pt pos pt2 : Pos} {kt k2 : Nat} {a b c : Expr} {oi oj ol : Bool} {ma mb mc : M B} (hx : bindSlot Z x = some i) (hy : bindSlot Z y = some j) (hz : bindSlot Z z = some l) (hij : i ≠ j) (hil : i ≠ l) (hjl : j ≠ l) (hk : isFun Z.sc = true)
    (lx : Z.sc.names.lookup x = some .local) (ly : Z.sc.names.lookup y = some .local) (lz : Z.sc.names.lookup z = some .local)
    (hw : swS Z.sc [.Name x px, .Name y py, .Name z pz] [a, b, c] = some (some [x, y, z])) (hs : [a, b, c].all notStar = true) (ha : DE X a ma) (hb : DE X b mb) (hc : DE X c mc) :
    DS X Z (.Assign [.Tuple [.Name x px, .Name y py, .Name z pz] kt pt] (.Tuple [a, b, c] k2 pt2) pos) (parO3 i j l (seqM [kM oi ma, kM oj mb, kM ol mc])) := by
  obtain ⟨x1, x2, x3, x4⟩ := bind_ok g hx
  obtain ⟨y1, y2, y3, y4⟩ := bind_ok g hy
  obtain ⟨z1, z2, z3, z4⟩ := bind_ok g hz
  have pa : PA X [a, b, c] (tO X.K (seqM [kM oi ma, kM oj mb, kM ol mc])) := pa_O (es := [(a, kM oi ma), (b, kM oj mb), (c, kM ol mc)]) hs fun p hp => by
    simp only [List.mem_cons, List.not_mem_nil, or_false] at hp
    rcases hp with rfl | rfl | rfl
    · exact ⟨de_kM ha, fun _ _ _ => kM_vl⟩
    · exact ⟨de_kM hb, fun _ _ _ => kM_vl⟩
    · exact ⟨de_kM hc, fun _ _ _ => kM_vl⟩
  refine PS.of (ps_par3 g.calm g.nd x1 y1 z1 hij hil hjl (by rw [g.sc]; exact lx) (by rw [g.sc]; exact ly) (by rw [g.sc]; exact lz) pa (swS_ok (by rw [g.sc]; exact hk) (by rw [g.sc]; exact hw)) rfl) fun D σ H ⟨ow, en, s, gg⟩ => ?_
  unfold parO3 at gg
  split at gg
  · rename_i d1 d2 d3 en1 e1
    split at gg
    · rename_i hl
      refine ⟨ow, en, s, [d1, d2, d3], en1, e1, fun H1 ow1 vs as x1 s1 ro hn => ?_⟩
      obtain ⟨u, v, w, rfl⟩ : ∃ u v w, vs = [u, v, w] := by
        have := ro.len
        match vs, this with
        | [u, v, w], _ => exact ⟨u, v, w, rfl⟩
      refine ⟨u, v, w, rfl, ?_⟩
      obtain ⟨ow', f1, f2, s2⟩ := sta_parO (is := [i, j, l]) s1 ro rfl (fun n hn => by
        simp only [List.mem_cons, List.not_mem_nil, or_false] at hn
        rcases hn with rfl | rfl | rfl
        · exact hl.1
        · exact hl.2.1
        · exact hl.2.2)
      refine gg H1 ow' _ ⟨fun b e => ⟨f1 b (x1.frz b e).1, (x1.frz b e).2⟩, fun b e => ⟨f2 b (fun z => hn b z e) (x1.frm b e).1, (x1.frm b e).2⟩⟩ s2 ⟨by simp [setsV], fun n hn => ?_⟩
      exact (List.getElem?_set_ne (fun z => by rw [z, hn] at z4; cases z4)).trans ((List.getElem?_set_ne (fun z => by rw [z, hn] at y4; cases y4)).trans (List.getElem?_set_ne (fun z => by rw [z, hn] at x4; cases x4)))
    · exact gg.elim
  · exact gg.elim
end
end DL

/-! zip of three, strict=False too -/
namespace PySem
open Sem (wp)
section
variable {prog : Program} {w : World} {A : Around} {E : Value → Shared → Prop} {s : Shared}
theorem typeCall_zip3K (a b c d : Value) : checkTypeCall "zip" ⟨[a, b, c], [(Str.ofString "strict", d)]⟩ = pure () := by kernel_rfl
theorem newCall_zip3K (a b c d : Value) : checkBuiltinCall "zip.__new__" ⟨[.type "zip", a, b, c], [(Str.ofString "strict", d)]⟩ = pure () := by kernel_rfl
theorem args_init3K (obj a b c d : Value) : argsOk "object.__init__" ⟨[obj, a, b, c], [(Str.ofString "strict", d)]⟩ := by unfold argsOk; kernel_rfl
theorem meets_zip_new3K {v1 v2 v3 : Value} {o1 o2 o3 : Obj} {H1 H2 H3 : Heap → Prop} (B1 : Begins v1 o1 H1) (B2 : Begins v2 o2 H2) (B3 : Begins v3 o3 H3) :
    Meets (Builtin.«zip.__new__» ⟨[.type "zip", v1, v2, v3], [(Str.ofString "strict", .bool false)]⟩) (fun _ R s => (H1 s.heap ∧ H2 s.heap ∧ H3 s.heap) ∧
      R (.ok (.ret (.ref (gzO3 s.heap o1 o2 o3).objs.size))) { s with heap := gzZ3 s.heap o1 o2 o3 }) :=
  .of_wp fun prog w A R s h => by
    obtain ⟨hp, g, d, tk, os⟩ := s
    obtain ⟨⟨h1, h2, h3⟩, h⟩ := h
    have hsub := sub_zip
    have q1 : ∀ {A' : Around} {E : Value → Shared → Prop} {Q : Value → Shared → Prop}, Q (.ref hp.objs.size) ⟨(hp.push o1), g, d, tk, os⟩ → wpAny (model prog w) A' (pyIter v1) Q E ⟨hp, g, d, tk, os⟩ :=
      fun q => B1.iter prog w _ _ ⟨hp, g, d, tk, os⟩ _ (B1.keeps _ _ h1 fun b o' e => e) q
    have q2 : ∀ {A' : Around} {E : Value → Shared → Prop} {Q : Value → Shared → Prop}, Q (.ref (hp.push o1).objs.size) ⟨((hp.push o1).push o2), g, d, tk, os⟩ → wpAny (model prog w) A' (pyIter v2) Q E ⟨(hp.push o1), g, d, tk, os⟩ :=
      fun q => B2.iter prog w _ _ ⟨(hp.push o1), g, d, tk, os⟩ _ (B2.keeps _ _ h2 fun b o' e => (Heap.get?_push_of_some _ e)) q
    have q3 : ∀ {A' : Around} {E : Value → Shared → Prop} {Q : Value → Shared → Prop}, Q (.ref ((hp.push o1).push o2).objs.size) ⟨(((hp.push o1).push o2).push o3), g, d, tk, os⟩ → wpAny (model prog w) A' (pyIter v3) Q E ⟨((hp.push o1).push o2), g, d, tk, os⟩ :=
      fun q => B3.iter prog w _ _ ⟨((hp.push o1).push o2), g, d, tk, os⟩ _ (B3.keeps _ _ h3 fun b o' e => (Heap.get?_push_of_some _ (Heap.get?_push_of_some _ e))) q
    have q4 : ∀ {A' : Around} {E : Value → Shared → Prop} {Q : Bool → Shared → Prop} {s : Shared}, Q false s → wpAny (model prog w) A' (truthy (.bool false)) Q E s := fun q => wpAny_truthy_bool q
    wp_walk using q1, q2, q3, q4
    exact ⟨_, rfl, h⟩
/-- zip(v1, v2, v3, strict=False) -/
theorem zip_begins3K {v1 v2 v3 : Value} {o1 o2 o3 : Obj} {H1 H2 H3 : Heap → Prop} {Q : Value → Shared → Prop} (B1 : Begins v1 o1 H1) (B2 : Begins v2 o2 H2) (B3 : Begins v3 o3 H3) (h1 : H1 s.heap) (h2 : H2 s.heap) (h3 : H3 s.heap)
    (h : ∀ h', IsZip h' (s.heap.objs.size + 5) (s.heap.objs.size + 3) (s.heap.objs.size + 4) .none → IsTupOf3 h' (s.heap.objs.size + 3) (.ref s.heap.objs.size) (.ref (s.heap.objs.size + 1)) (.ref (s.heap.objs.size + 2)) →
      IsTupOf3 h' (s.heap.objs.size + 4) .none .none .none → h'.get? s.heap.objs.size = some o1 → h'.get? (s.heap.objs.size + 1) = some o2 → h'.get? (s.heap.objs.size + 2) = some o3 → h'.objs.size = s.heap.objs.size + 6 →
      (∀ c o, s.heap.get? c = some o → h'.get? c = some o) → Q (.ref (s.heap.objs.size + 5)) { s with heap := h' }) :
    wpAny (model prog w) A (call (.type "zip") [v1, v2, v3] [(Str.ofString "strict", .bool false)]) Q E s := by
  refine callType_newKw F.called_zip (by decide) (typeCall_zip3K _ _ _ _) (newCall_zip3K _ _ _ _) (fun obj => args_init3K obj _ _ _ _) F.entry_zip_new
    (meets_zip_new3K B1 B2 B3) ⟨⟨h1, h2, h3⟩, ?_⟩
  have z1 : (s.heap.push o1).objs.size = s.heap.objs.size + 1 := by rw [Heap.size_push]
  have z2 : ((s.heap.push o1).push o2).objs.size = s.heap.objs.size + 2 := by rw [Heap.size_push, z1]
  have z3 : (((s.heap.push o1).push o2).push o3).objs.size = s.heap.objs.size + 3 := by rw [Heap.size_push, z2]
  have zT : (gzT3 s.heap o1 o2 o3).objs.size = s.heap.objs.size + 4 := by rw [Heap.size_push, z3]
  have zO : (gzO3 s.heap o1 o2 o3).objs.size = s.heap.objs.size + 5 := by rw [Heap.size_push, zT]
  have zZ : (gzZ3 s.heap o1 o2 o3).objs.size = s.heap.objs.size + 6 := by rw [Heap.size_push, zO]
  have gZ : (gzZ3 s.heap o1 o2 o3).get? (gzO3 s.heap o1 o2 o3).objs.size = some { cls := .type "zip", data := .fields #[.none, .bool false, .bool false, .ref (((s.heap.push o1).push o2).push o3).objs.size, .ref (gzT3 s.heap o1 o2 o3).objs.size] } := Heap.get?_push_size _ rfl
  have gO : (gzZ3 s.heap o1 o2 o3).get? (gzT3 s.heap o1 o2 o3).objs.size = some { cls := .type "tuple", data := .seq #[.none, .none, .none] } := Heap.get?_push_of_some _ (Heap.get?_push_size _ rfl)
  have gT : (gzZ3 s.heap o1 o2 o3).get? (((s.heap.push o1).push o2).push o3).objs.size = some { cls := .type "tuple", data := .seq #[.ref s.heap.objs.size, .ref (s.heap.push o1).objs.size, .ref ((s.heap.push o1).push o2).objs.size] } := Heap.get?_push_of_some _ (Heap.get?_push_of_some _ (Heap.get?_push_size _ rfl))
  have g1 : (gzZ3 s.heap o1 o2 o3).get? s.heap.objs.size = some o1 := Heap.get?_push_of_some _ (Heap.get?_push_of_some _ (Heap.get?_push_of_some _ (Heap.get?_push_of_some _ (Heap.get?_push_of_some _ (Heap.get?_push_size _ B1.free)))))
  have g2 : (gzZ3 s.heap o1 o2 o3).get? (s.heap.push o1).objs.size = some o2 := Heap.get?_push_of_some _ (Heap.get?_push_of_some _ (Heap.get?_push_of_some _ (Heap.get?_push_of_some _ (Heap.get?_push_size _ B2.free))))
  have g3 : (gzZ3 s.heap o1 o2 o3).get? ((s.heap.push o1).push o2).objs.size = some o3 := Heap.get?_push_of_some _ (Heap.get?_push_of_some _ (Heap.get?_push_of_some _ (Heap.get?_push_size _ B3.free)))
  rw [zO, zT, z3] at gZ
  rw [zT] at gO
  rw [z3, z2, z1] at gT
  rw [z1] at g2
  rw [z2] at g3
  show _ ∧ _
  rw [zO]
  exact ⟨⟨_, gZ, rfl⟩, h _ gZ gT gO g1 g2 g3 zZ fun c o e => Heap.get?_push_of_some _ (Heap.get?_push_of_some _ (Heap.get?_push_of_some _ (Heap.get?_push_of_some _ (Heap.get?_push_of_some _ (Heap.get?_push_of_some _ e)))))⟩
end
end PySem

namespace DL
open PySem PySem.W PySem.Spec PyProof.Rows L2
/-! ### zip of three -/
def ItZ3 (K : PySem.W.Frag) (k1 k2 k3 : SK) (a b c : Addr) : It :=
  ⟨fun i H => ∃ xs ys zs, SqK K H a xs k1 ∧ SqK K H b ys k2 ∧ SqK K H c zs k3 ∧ i < xs.length ∧ i < ys.length ∧ i < zs.length,
   fun i H v H' => ∃ T x y u, v = .ref T ∧ H T = none ∧ H' = upd H T (.tup [x, y, u]) ∧ (∀ xs, SqK K H a xs k1 → xs[i]? = some x) ∧ (∀ ys, SqK K H b ys k2 → ys[i]? = some y) ∧ ∀ zs, SqK K H c zs k3 → zs[i]? = some u,
   fun i H => ∃ xs ys zs, SqK K H a xs k1 ∧ SqK K H b ys k2 ∧ SqK K H c zs k3 ∧ i ≤ xs.length ∧ i ≤ ys.length ∧ i ≤ zs.length ∧ (i = xs.length ∨ i = ys.length ∨ i = zs.length)⟩
theorem turn_Z3 {P : Program} {w : World} {K : PySem.W.Frag} {elts : List Expr} {kk : Nat} {tpos : Pos} {k1 k2 k3 : SK} {a b c z TI TO i1 i2 i3 : Addr} (S : ZipSep3 z TI TO i1 i2 i3 [i1, a] [i2, b] [i3, c]) (n1 : a ≠ i1) (n2 : b ≠ i2) (n3 : c ≠ i3) :
    Turn P w K (.Tuple elts kk tpos) (ItZ3 K k1 k2 k3 a b c) [z, TI, TO, i1, i2, i3] z (fun i h => IsZip h z TI TO .none ∧ IsTupOf3 h TI (.ref i1) (.ref i2) (.ref i3) ∧ (∃ x y u, IsTupOf3 h TO x y u) ∧ ItK h i1 a i k1 ∧ ItK h i2 b i k2 ∧ ItK h i3 c i k3) := by
  have sub : ∀ d ∈ [z, TO, i1, i2, i3], d ∈ [z, TI, TO, i1, i2, i3] := fun d hd => by
    simp only [List.mem_cons, List.not_mem_nil, or_false] at hd ⊢
    rcases hd with r | r | r | r | r
    · exact .inl r
    · exact .inr (.inr (.inl r))
    · exact .inr (.inr (.inr (.inl r)))
    · exact .inr (.inr (.inr (.inr (.inl r))))
    · exact .inr (.inr (.inr (.inr (.inr r))))
  refine turn_of (by simp) ?_ ?_ ?_ ?_ ?_
  · rintro i h ⟨hz, hTI, ⟨x, y, u, hTO⟩, h1, h2, h3⟩ d hd
    simp only [List.mem_cons, List.not_mem_nil, or_false] at hd
    rcases hd with rfl | rfl | rfl | rfl | rfl | rfl
    · exact ⟨_, hz, fun v q => nomatch q⟩
    · exact ⟨_, hTI, fun v q => nomatch q⟩
    · exact ⟨_, hTO, fun v q => nomatch q⟩
    · exact h1.obj
    · exact h2.obj
    · exact h3.obj
  · rintro i h h' ⟨hz, hTI, ⟨x, y, u, hTO⟩, h1, h2, h3⟩ k
    exact ⟨k z (by simp) _ hz, k TI (by simp) _ hTI, ⟨x, y, u, k TO (by simp) _ hTO⟩, h1.at fun o q => k i1 (by simp) o q, h2.at fun o q => k i2 (by simp) o q, h3.at fun o q => k i3 (by simp) o q⟩
  · intro A i s Q E st h
    exact wpAny_pyIter_zip st.1 h
  · intro X hP hw hK hh i pins s σ H I st hg
    subst hP hw hK
    obtain ⟨xs, ys, zs, q1, q2, q3, l1, l2, l3⟩ := hg
    obtain ⟨its, rv, p, _⟩ := inv_K I q1
    obtain ⟨its2, rv2, p2, _⟩ := inv_K I q2
    obtain ⟨its3, rv3, p3, _⟩ := inv_K I q3
    obtain ⟨hz, hTI, ho, h1, h2, h3⟩ := st
    have D1 := drawsK (prog := X.prog) (w := X.w) (A := X.A.in1) hh i1 a n1 its.toArray k1
    have D2 := drawsK (prog := X.prog) (w := X.w) (A := X.A.in1) hh i2 b n2 its2.toArray k2
    have D3 := drawsK (prog := X.prog) (w := X.w) (A := X.A.in1) hh i3 c n3 its3.toArray k3
    have e1 : its.toArray.size = xs.length := by rw [List.size_toArray]; exact rv.length.symm
    have e2 : its2.toArray.size = ys.length := by rw [List.size_toArray]; exact rv2.length.symm
    have e3 : its3.toArray.size = zs.length := by rw [List.size_toArray]; exact rv3.length.symm
    have at_ : ∀ {xs : List V} {its : List Value}, Vals xs its → i < xs.length → ∀ {x : Value}, its.toArray[i]? = some x → ∃ v, xs[i]? = some v ∧ RelV v x := fun {xs its} rv l {x} gx => by
      obtain ⟨u, hu, ru⟩ := rv.get (List.getElem?_eq_getElem l)
      have gx' : its[i]? = some x := by simpa using gx
      rw [gx'] at hu
      cases hu
      exact ⟨_, List.getElem?_eq_getElem l, ru⟩
    refine ⟨_, _, _, _, _, _, WalksT.zipD3 (A := X.A) S D1 D2 D3, ⟨hz, hTI, ho, ⟨h1, p⟩, ⟨h2, p2⟩, ⟨h3, p3⟩⟩, by omega, sub, ?_, fun h' st' => ⟨st'.1, st'.2.1, st'.2.2.1, st'.2.2.2.1.1, st'.2.2.2.2.1.1, st'.2.2.2.2.2.1⟩⟩
    rintro vals ⟨x, y, u, gx, gy, gu, rfl⟩
    refine ⟨by show 3 ≤ sizeLine; decide, ?_⟩
    obtain ⟨v1, a1, a2⟩ := at_ rv l1 gx
    obtain ⟨v2, b1, b2⟩ := at_ rv2 l2 gy
    obtain ⟨v3, c1, c2⟩ := at_ rv3 l3 gu
    exact ⟨[v1, v2, v3], .cons a2 (.cons b2 (.cons c2 .nil)), fun T hT => ⟨T, v1, v2, v3, rfl, hT, rfl, fun zs hz => by rw [inv_K_inj I hz q1]; exact a1, fun zs hz => by rw [inv_K_inj I hz q2]; exact b1, fun zs hz => by rw [inv_K_inj I hz q3]; exact c1⟩⟩
  · intro X hP hw hK hh i pins s σ H I st hg
    subst hP hw hK
    obtain ⟨xs, ys, zs, q1, q2, q3, l1, l2, l3, le⟩ := hg
    obtain ⟨its, rv, p, _⟩ := inv_K I q1
    obtain ⟨its2, rv2, p2, _⟩ := inv_K I q2
    obtain ⟨its3, rv3, p3, _⟩ := inv_K I q3
    obtain ⟨hz, hTI, ho, h1, h2, h3⟩ := st
    have D1 := drawsK (prog := X.prog) (w := X.w) (A := X.A.in1) hh i1 a n1 its.toArray k1
    have D2 := drawsK (prog := X.prog) (w := X.w) (A := X.A.in1) hh i2 b n2 its2.toArray k2
    have D3 := drawsK (prog := X.prog) (w := X.w) (A := X.A.in1) hh i3 c n3 its3.toArray k3
    have e1 : its.toArray.size = xs.length := by rw [List.size_toArray]; exact rv.length.symm
    have e2 : its2.toArray.size = ys.length := by rw [List.size_toArray]; exact rv2.length.symm
    have e3 : its3.toArray.size = zs.length := by rw [List.size_toArray]; exact rv3.length.symm
    have W := WalksT.zipD3 (A := X.A) S D1 D2 D3
    have en : min (min its.toArray.size its2.toArray.size) its3.toArray.size = i := by omega
    rw [en] at W
    exact ⟨_, _, _, _, _, W, ⟨hz, hTI, ho, ⟨h1, p⟩, ⟨h2, p2⟩, ⟨h3, p3⟩⟩, sub⟩
def tripD (x y z : D) : D := .tuple [x, y, z]
def zip3D (xs ys zs : List D) : List D := List.zipWith (fun p z => tripD p.1 p.2 z) (xs.zip ys) zs
def zip3M : List D → M (List D)
  | [x, y, z] => match seqD x, seqD y, seqD z with
    | some xs, some ys, some zs => ret (zip3D xs ys zs)
    | _, _, _ => stuck
  | _ => stuck
theorem rI_zip3 {K : PySem.W.Frag} {H : Hp} {ow : Ow} {k1 k2 k3 : SK} {a b c : Addr} {xs ys zs : List V} {ds es fs : List D} (h1 : SqK K (Fz H ow) a xs k1) (h2 : SqK K (Fz H ow) b ys k2) (h3 : SqK K (Fz H ow) c zs k3) (r1 : RpAll K (Fz H ow) xs ds) (r2 : RpAll K (Fz H ow) ys es) (r3 : RpAll K (Fz H ow) zs fs) :
    rI K H ow (zip3D ds es fs) (ItZ3 K k1 k2 k3 a b c) := fun H' ow' e dm => by
  have q1 : SqK K H' a xs k1 := SqK.mono res_sub (SqK.mono e.fz h1)
  have q2 : SqK K H' b ys k2 := SqK.mono res_sub (SqK.mono e.fz h2)
  have q3 : SqK K H' c zs k3 := SqK.mono res_sub (SqK.mono e.fz h3)
  have l1 := r1.length
  have l2 := r2.length
  have l3 := r3.length
  refine ⟨fun i d hd => ?_, xs, ys, zs, q1, q2, q3, ?_⟩
  · unfold zip3D at hd
    rw [List.getElem?_zipWith] at hd
    cases e1 : ds[i]? with
    | none =>
      have : (ds.zip es)[i]? = none := by
        rw [List.getElem?_eq_none_iff] at e1 ⊢
        rw [List.length_zip]
        omega
      rw [this] at hd
      simp at hd
    | some d1 =>
      cases e2 : es[i]? with
      | none =>
        have : (ds.zip es)[i]? = none := by
          rw [List.getElem?_eq_none_iff] at e2 ⊢
          rw [List.length_zip]
          omega
        rw [this] at hd
        simp at hd
      | some d2 =>
        have ez : (ds.zip es)[i]? = some (d1, d2) := by
          rw [List.getElem?_zip_eq_some]
          exact ⟨e1, e2⟩
        rw [ez] at hd
        cases e3 : fs[i]? with
        | none => rw [e3] at hd; simp at hd
        | some d3 =>
          rw [e3] at hd
          simp only [Option.some.injEq] at hd
          subst hd
          obtain ⟨v1, hv1, rv1⟩ := r1.get e1
          obtain ⟨v2, hv2, rv2⟩ := r2.get e2
          obtain ⟨v3, hv3, rv3⟩ := r3.get e3
          have i1 := (List.getElem?_eq_some_iff.mp hv1).1
          have i2 := (List.getElem?_eq_some_iff.mp hv2).1
          have i3 := (List.getElem?_eq_some_iff.mp hv3).1
          refine ⟨⟨xs, ys, zs, q1, q2, q3, i1, i2, i3⟩, ?_⟩
          rintro x H'' ⟨T, y1, y2, y3, rfl, hT, rfl, g1, g2, g3⟩
          have g1 := g1 xs q1
          have g2 := g2 ys q2
          have g3 := g3 zs q3
          rw [hv1] at g1
          rw [hv2] at g2
          rw [hv3] at g3
          cases g1
          cases g2
          cases g3
          have st := Step.new (o := .tup [v1, v2, v3]) (l := .frz) dm hT (fun i k z => by cases z)
          refine ⟨_, st, .tup (.inl (.inl ((res_at setL_same).trans upd_same))) (.cons (Rp.mono st.ext.fz (Rp.mono e.fz rv1)) (.cons (Rp.mono st.ext.fz (Rp.mono e.fz rv2)) (.cons (Rp.mono st.ext.fz (Rp.mono e.fz rv3)) .nil)))⟩
  · unfold zip3D
    rw [List.length_zipWith, List.length_zip]
    refine ⟨by omega, by omega, by omega, by omega⟩
def iZ3 (K : PySem.W.Frag) (ta : TA) : TI := fun σ H R => ta σ H fun vs H1 => ∃ a b c k1 k2 k3 xs ys zs, vs = [.ref a, .ref b, .ref c] ∧ SqK K H1 a xs k1 ∧ SqK K H1 b ys k2 ∧ SqK K H1 c zs k3 ∧ R (ItZ3 K k1 k2 k3 a b c) H1
section
variable {X : Cx} {p pos tpos : Pos} {elts : List Expr} {kk : Nat}
theorem zip3_after {a b c : Addr} {k1 k2 k3 : SK} {pins : List (Addr × Obj)} {σ : L2.St} {H : Hp} {s : Shared} {R : It → Hp → Prop} {h' : Heap} (I : L2.Inv X pins σ H s) (la : a < s.heap.objs.size) (lb : b < s.heap.objs.size) (lc : c < s.heap.objs.size) (q : R (ItZ3 X.K k1 k2 k3 a b c) H)
    (hz : IsZip h' (s.heap.objs.size + 5) (s.heap.objs.size + 3) (s.heap.objs.size + 4) .none) (hTI : IsTupOf3 h' (s.heap.objs.size + 3) (.ref s.heap.objs.size) (.ref (s.heap.objs.size + 1)) (.ref (s.heap.objs.size + 2)))
    (hTO : IsTupOf3 h' (s.heap.objs.size + 4) .none .none .none) (h1 : h'.get? s.heap.objs.size = some (objK a k1)) (h2 : h'.get? (s.heap.objs.size + 1) = some (objK b k2)) (h3 : h'.get? (s.heap.objs.size + 2) = some (objK c k3))
    (hk : ∀ d o, s.heap.get? d = some o → h'.get? d = some o) :
    wpAny (model X.prog X.w) X.A (pyIter (.ref (s.heap.objs.size + 5))) (PIE X pins σ (.Tuple elts kk tpos) R) X.xe { s with heap := h' } := by
  refine wpAny_pyIter_zip hz ?_
  have fresh6 : ∀ d, d ∈ [s.heap.objs.size + 5, s.heap.objs.size + 3, s.heap.objs.size + 4, s.heap.objs.size, s.heap.objs.size + 1, s.heap.objs.size + 2] → FpOk X pins H d := fun d hd => by
    simp only [List.mem_cons, List.not_mem_nil, or_false] at hd
    have hle : s.heap.objs.size ≤ d := by omega
    exact I.fpOk hle (I.hok.fresh hle)
  have I2 : L2.Inv X pins σ H { s with heap := h' } := I.kept (t' := s.toks) hk
  have S : ZipSep3 (s.heap.objs.size + 5) (s.heap.objs.size + 3) (s.heap.objs.size + 4) s.heap.objs.size (s.heap.objs.size + 1) (s.heap.objs.size + 2) [s.heap.objs.size, a] [s.heap.objs.size + 1, b] [s.heap.objs.size + 2, c] :=
    zip_sep3 (by simpa using la) (by simpa using lb) (by simpa using lc)
  exact ⟨s.heap.objs.size + 5, _, _, _, H, rfl, I2, turn_Z3 S (Nat.ne_of_lt la) (Nat.ne_of_lt (Nat.lt_succ_of_lt lb)) (Nat.ne_of_lt (Nat.lt_succ_of_lt (Nat.lt_succ_of_lt lc))), ⟨hz, hTI, ⟨_, _, _, hTO⟩, ItK.start h1, ItK.start h2, ItK.start h3⟩, fresh6, q⟩
theorem pi_zip3 {e e2 e3 : Expr} {ta : TA} (hg : Gl X "zip") (hm : X.mg "zip" = none) (ha : PA X [e, e2, e3] ta)
    (hs : starEach [e, e2, e3] X.env = (false, eval e X.env) :: starEach [e2, e3] X.env) (hpl : (backTo pos (starEach [e2, e3] X.env)).any (·.1) = false) :
    PI X (.Tuple elts kk tpos) (.Call (.Name "zip" p) [e, e2, e3] [] pos) (iZ3 X.K ta) := by
  refine ⟨fun pins s σ H R I h => ?_⟩
  refine Call_ (ld_blt I hg hm PyProof.Rows.boot_zip (PyProof.Rows.callWith_type1 (thn (ha.run pos pins s σ H _ I h) fun us s1 ⟨vs, H1, I1, r1, q1⟩ => ?_) hs hpl))
  obtain ⟨a, b, c, k1, k2, k3, xs, ys, zs, ex, hqx, hqy, hqz, q⟩ := q1
  subst ex
  cases r1 with
  | cons r rr =>
    cases rr with
    | cons r' rr =>
      cases rr with
      | cons r'' rr =>
        cases rr
        cases r
        cases r'
        cases r''
        obtain ⟨its, rv, p1, la⟩ := inv_K I1 hqx
        obtain ⟨its2, rv2, p2, lb⟩ := inv_K I1 hqy
        obtain ⟨its3, rv3, p3, lc⟩ := inv_K I1 hqz
        refine zip_begins3 (beginsK a its.toArray k1) (beginsK b its2.toArray k2) (beginsK c its3.toArray k3) p1 p2 p3 fun h' hz hTI hTO h1 h2 h3 hsz hk => ?_
        exact zip3_after I1 la lb lc q hz hTI hTO h1 h2 h3 hk
theorem pi_zip3K {e e2 e3 : Expr} {ta : TA} {cpos kpos : Pos} {j : Nat} (hg : Gl X "zip") (hm : X.mg "zip" = none) (ha : PA X [e, e2, e3] ta)
    (hs : backTo pos (starEach [e, e2, e3] X.env) = (false, eval e X.env) :: backTo pos (starEach [e2, e3] X.env)) (hpl : (backTo pos (starEach [e, e2, e3] X.env)).any (·.1) = false) :
    PI X (.Tuple elts kk tpos) (.Call (.Name "zip" p) [e, e2, e3] [⟨some "strict", .Constant (.bool false) j cpos, kpos⟩] pos) (iZ3 X.K ta) := by
  refine ⟨fun pins s σ H R I h => ?_⟩
  refine wpAny_Call_Name_kw (ld_blt I hg hm PyProof.Rows.boot_zip (callWith_kwT (thn (ha.run pos pins s σ H _ I h) fun us s1 ⟨vs, H1, I1, r1, q1⟩ => ?_) hs hpl))
  have pk := pk_cons (nm := some "strict") (kpos := kpos) (pe_bl (X := X) (b := false) (j := j) (pos := cpos)) (pk_nil (X := X))
  refine thn (pk.run pos pins s1 σ H1 (fun ws H2 => H2 = H1 ∧ ws = [.bl false]) I1 ?_) fun us2 s2 ⟨vs2, H2, I2, r2, hH, hv⟩ => ?_
  · exact ⟨rfl, rfl⟩
  subst hH hv
  have e3 : us2 = [.bool false] := by
    cases r2 with
    | cons r rr =>
      cases rr
      rw [show _ = Value.bool false from r]
  subst e3
  obtain ⟨a, b, c, k1, k2, k3, xs, ys, zs, ex, hqx, hqy, hqz, q⟩ := q1
  subst ex
  cases r1 with
  | cons r rr =>
    cases rr with
    | cons r' rr =>
      cases rr with
      | cons r'' rr =>
        cases rr
        cases r
        cases r'
        cases r''
        obtain ⟨its, rv, p1, la⟩ := inv_K I2 hqx
        obtain ⟨its2, rv2, p2, lb⟩ := inv_K I2 hqy
        obtain ⟨its3, rv3, p3, lc⟩ := inv_K I2 hqz
        refine zip_begins3K (beginsK a its.toArray k1) (beginsK b its2.toArray k2) (beginsK c its3.toArray k3) p1 p2 p3 fun h' hz hTI hTO h1 h2 h3 hsz hk => ?_
        exact zip3_after I2 la lb lc q hz hTI hTO h1 h2 h3 hk
theorem iz3_of {m : M (List D)} {σ : L2.St} {H : Hp} {R : It → Hp → Prop} (h : tM X.K (rI X.K) (bd m zip3M) σ H R) : iZ3 X.K (tM X.K (rDs X.K) m) σ H R := by
  obtain ⟨ow, en, st, g⟩ := h
  obtain ⟨ds, en', h1, h2⟩ := g.bind (rep2 := rDs X.K)
  refine ⟨ow, en, st, ds, en', h1, fun H' ow' vs x s' q => ?_⟩
  obtain ⟨ow1, en1, c, x1, s1, q1, g1⟩ := h2 H' ow' vs x s' q
  unfold zip3M at g1
  split at g1
  · rename_i x y z
    cases e1 : seqD x with
    | none =>
      rw [e1] at g1
      exact (show Go X.K (rI X.K) σ (stuck en1) H' ow1 R from g1).stuck_.elim
    | some xs =>
      cases e2 : seqD y with
      | none =>
        rw [e1, e2] at g1
        exact (show Go X.K (rI X.K) σ (stuck en1) H' ow1 R from g1).stuck_.elim
      | some ys =>
        cases e3 : seqD z with
        | none =>
          rw [e1, e2, e3] at g1
          exact (show Go X.K (rI X.K) σ (stuck en1) H' ow1 R from g1).stuck_.elim
        | some zs =>
          rw [e1, e2, e3] at g1
          cases q1 with
          | cons r1 rr =>
            cases rr with
            | cons r2 rr =>
              cases rr with
              | cons r3 rr =>
                cases rr
                obtain ⟨a1, vs1, k1, rfl, t1, u1⟩ := seqD_ok e1 r1
                obtain ⟨a2, vs2, k2, rfl, t2, u2⟩ := seqD_ok e2 r2
                obtain ⟨a3, vs3, k3, rfl, t3, u3⟩ := seqD_ok e3 r3
                exact ⟨a1, a2, a3, k1, k2, k3, vs1, vs2, vs3, rfl, SqK.mono res_sub t1, SqK.mono res_sub t2, SqK.mono res_sub t3, (show Go X.K (rI X.K) σ (ret (zip3D xs ys zs) en1) H' ow1 R from g1).ret_ (.refl _ _) s1 (rI_zip3 t1 t2 t3 u1 u2 u3)⟩
  · exact g1.stuck_.elim
theorem di_zip3 {e e2 e3 : Expr} {m : M (List D)} (hg : Gl X "zip") (hm : X.mg "zip" = none) (ha : DA X [e, e2, e3] m)
    (hs : starEach [e, e2, e3] X.env = (false, eval e X.env) :: starEach [e2, e3] X.env) (hpl : (backTo pos (starEach [e2, e3] X.env)).any (·.1) = false) :
    DI X (.Tuple elts kk tpos) (.Call (.Name "zip" p) [e, e2, e3] [] pos) (bd m zip3M) := PI.of (pi_zip3 hg hm ha hs hpl) fun σ H R h => iz3_of h
theorem di_zip3K {e e2 e3 : Expr} {m : M (List D)} {cpos kpos : Pos} {j : Nat} (hg : Gl X "zip") (hm : X.mg "zip" = none) (ha : DA X [e, e2, e3] m)
    (hs : backTo pos (starEach [e, e2, e3] X.env) = (false, eval e X.env) :: backTo pos (starEach [e2, e3] X.env)) (hpl : (backTo pos (starEach [e, e2, e3] X.env)).any (·.1) = false) :
    DI X (.Tuple elts kk tpos) (.Call (.Name "zip" p) [e, e2, e3] [⟨some "strict", .Constant (.bool false) j cpos, kpos⟩] pos) (bd m zip3M) := PI.of (pi_zip3K hg hm ha hs hpl) fun σ H R h => iz3_of h
end
end DL

namespace DL
open PySem PySem.W PySem.Spec PyProof.Rows L2
/-! ### names of a cell among them: a, b = [], e by way of the tuple -/
def bindsOf (Z : Stat) : List Expr → Option (List Nat)
  | [] => some []
  | .Name x _ :: es => (match bindSlot Z x, bindsOf Z es with
    | some i, some is => some (i :: is)
    | _, _ => none)
  | _ => none
def gNames : List Nat → TGs
  | [] => gNil
  | i :: is => gCons (gName i) (gNames is)
theorem gNames_run : ∀ {is : List Nat} {vs : List V} {σ : L2.St} {H : Hp} {Q : L2.St → Hp → Prop}, vs.length = is.length → Q (setsV is vs σ) H → gNames is vs σ H Q
  | [], [], _, _, _, _, q => ⟨rfl, q⟩
  | [], _ :: _, _, _, _, h, _ => by cases h
  | _ :: _, [], _, _, _, h, _ => by cases h
  | i :: is, v :: vs, σ, H, Q, h, q => ⟨v, vs, rfl, gNames_run (by simpa using h) q⟩
def asgO (is : List Nat) (ms : M (List B)) : Sm := fun en => match ms en with
  | some (bs, en1) => if bs.length = is.length ∧ (is.all fun i => decide (i < en1.length)) = true then some (.nx (setsE is bs en1)) else none
  | none => none
section
variable {G : Glob} {cs : Calls} {k : Nat} {Z : Stat} {X : Cx} {pos : Pos}
theorem binds_pgs (g : Good G cs k Z X) : ∀ {es : List Expr} {is : List Nat}, bindsOf Z es = some is → PGs X es (gNames is) ∧ es.all notStar = true ∧ es.length = is.length ∧ ∀ i ∈ is, Z.pr i = false
  | [], is, h => by
    cases h
    exact ⟨pgs_nil, rfl, rfl, by simp⟩
  | .Name x p :: es, is, h => by
    unfold bindsOf at h
    split at h
    · rename_i i is' hi his
      cases h
      obtain ⟨h1, h2, h3, h4⟩ := binds_pgs g his
      obtain ⟨x1, x2, x3, x4⟩ := bind_ok g hi
      refine ⟨pgs_cons (pg_name g.nd x1 x2 x3) h1 rfl, ?_, congrArg Nat.succ h3, fun j hj => ?_⟩
      · rw [List.all_cons, h2]
        rfl
      · rcases List.mem_cons.mp hj with rfl | hj
        · exact x4
        · exact h4 j hj
    · cases h
theorem setsV_len : ∀ {is : List Nat} {vs : List V} {σ : L2.St}, (setsV is vs σ).length = σ.length
  | [], _, _ => rfl
  | _ :: _, [], _ => rfl
  | i :: is, v :: vs, σ => by
    show (setsV is vs (σ.set i (some v))).length = _
    rw [setsV_len, List.length_set]
theorem setsV_ne {n : Nat} : ∀ {is : List Nat} {vs : List V} {σ : L2.St}, (∀ i ∈ is, i ≠ n) → (setsV is vs σ)[n]? = σ[n]?
  | [], _, _, _ => rfl
  | _ :: _, [], _, _ => rfl
  | i :: is, v :: vs, σ, h => by
    show (setsV is vs (σ.set i (some v)))[n]? = _
    rw [setsV_ne fun j hj => h j (by simp [hj])]
    exact List.getElem?_set_ne (h i (by simp))
theorem sole_ok (g : Good G cs k Z X) {tg e : Expr} (hk : isFun Z.sc = true) (hn : noComp e = true) (hs : swB Z.sc e tg = false) : swapsWithSole [tg] e pos.line X.env = pure false := by
  show swapsWith e (some tg) pos.line X.env = pure false
  rw [swB_ok (by rw [g.sc]; exact hk) hn, g.sc, hs]
theorem ds_asgO (g : Good G cs k Z X) {ts : List Expr} {es : List (Expr × M B)} {is : List Nat} {kt k2 : Nat} {pt pt2 : Pos} (hb : bindsOf Z ts = some is) (he : (es.map (·.1)).all notStar = true) (h : ∀ p ∈ es, DE X p.1 p.2 ∧ ∀ en b en', p.2 en = some (b, en') → isVL b = true)
    (hcap : es.length ≤ cap) (hk : isFun Z.sc = true) (hn : noComp (.Tuple (es.map (·.1)) k2 pt2) = true) (hs : swB Z.sc (.Tuple (es.map (·.1)) k2 pt2) (.Tuple ts kt pt) = false) (hw : swappedStores [.Tuple ts kt pt] (.Tuple (es.map (·.1)) k2 pt2) X.env = pure none) :
    DS X Z (.Assign [.Tuple ts kt pt] (.Tuple (es.map (·.1)) k2 pt2) pos) (asgO is (seqM (es.map (·.2)))) := by
  obtain ⟨b1, b2, b3, b4⟩ := binds_pgs g hb
  refine PS.of (ps_asg (pe_tup (pa_O he h)) (pg_tup g.calm b1 (assign_len b2) (assign_nostar b2)) (sole_ok g hk hn hs) hw (assign_one rfl)) fun D σ H ⟨ow, en, s, gg⟩ => ?_
  unfold asgO at gg
  split at gg
  · rename_i bs en1 e1
    split at gg
    · rename_i hl
      have hsz : ∀ {l : List (Expr × M B)} {en en1 : Env} {bs : List B}, seqM (l.map (·.2)) en = some (bs, en1) → bs.length = l.length := by
        intro l
        induction l with
        | nil => intro en en1 bs e; cases e; rfl
        | cons p l ih =>
          intro en en1 bs e
          have e2 : bd p.2 (fun a => bd (seqM (l.map (·.2))) fun as => ret (a :: as)) en = some (bs, en1) := e
          unfold bd at e2
          cases hm : p.2 en with
          | none => rw [hm] at e2; cases e2
          | some q =>
            obtain ⟨b, en2⟩ := q
            rw [hm] at e2
            dsimp only at e2
            cases hm2 : seqM (l.map (·.2)) en2 with
            | none => rw [hm2] at e2; cases e2
            | some q2 =>
              obtain ⟨bs', en3⟩ := q2
              rw [hm2] at e2
              cases e2
              exact congrArg Nat.succ (ih hm2)
      have hbl := hsz e1
      refine ⟨ow, en, s, bs, en1, e1, fun H1 ow1 vs as x1 s1 ro hn => ⟨by rw [ro.len, hbl, cap_eq]; exact hcap, fun p hp => ?_⟩⟩
      have st := Step.new (o := .tup vs) (l := .frz) s1.dom hp (fun i k z => by cases z)
      have s2 := st.sta s1
      have ro2 := ro.mono st.ext.fz fun b _ e => st.ext.frm b e
      obtain ⟨ow', f1, f2, s3⟩ := sta_parO (is := is) s2 ro2 hl.1.symm (fun i hi => of_decide_eq_true (List.all_eq_true.mp hl.2 i hi))
      refine ⟨p, vs, rfl, .inl (.inl upd_same), ?_, gNames_run ?_ ?_⟩
      · rw [ro.len, hl.1, b3]
      · rw [ro.len, hl.1]
      · have x2 := x1.trans st.ext
        refine gg _ ow' _ ⟨fun b e => ⟨f1 b (x2.frz b e).1, (x2.frz b e).2⟩, fun b e => ⟨f2 b (fun z => hn b z e) (x2.frm b e).1, (x2.frm b e).2⟩⟩ s3 ⟨setsV_len, fun n hn => ?_⟩
        exact setsV_ne fun i hi z => by
          have := b4 i hi
          rw [z, hn] at this
          cases this
    · exact gg.elim
  · exact gg.elim
end
end DL

namespace DL
open PySem PySem.W PySem.Spec PyProof.Rows L2
/-! ### x.pop(e) of a name's own list, x.count(e) of a name's text -/
def popE (i : Nat) (me : M D) : M B := fun en => match en[i]? with
  | some (some (.lst _)) => match me en with
    | some (.int j, en1) => match en1[i]? with
      | some (some (.lst ds)) => if -(2 ^ 63) ≤ j ∧ j < 2 ^ 63 then (match ixN ds.length j with
        | some n => (match ds[n]? with
          | some d => some (.val d, en1.set i (some (.lst (ds.eraseIdx n))))
          | none => none)
        | none => none) else none
      | _ => none
    | _ => none
  | _ => none
def cntE (i : Nat) (me : M D) : M B := fun en => match en[i]? with
  | some (some (.val (.str x))) => match me en with
    | some (.str y, en1) => some (.val (.int (Txt.count x y)), en1)
    | _ => none
  | _ => none
theorem RpAll.erase {K : PySem.W.Frag} {H : Hp} : ∀ {ds : List D} {vs : List V} (n : Nat), RpAll K H vs ds → RpAll K H (vs.eraseIdx n) (ds.eraseIdx n)
  | _, _, _, .nil => .nil
  | _, _, 0, .cons _ r => r
  | _, _, n + 1, .cons q r => .cons q (RpAll.erase n r)
section
variable {G : Glob} {cs : Calls} {k : Nat} {Z : Stat} {X : Cx}
theorem de_pop (g : Good G cs k Z X) {x : Str} {i : Nat} {p apos cpos : Pos} {e : Expr} {me : M B} (h : slotOf Z x = some i) (he : DE X e me) (hs : notStar e = true) (hline : (apos.endLine == cpos.line) = true) :
    DE X (.Call (.Attribute (.Name x p) "pop" apos) [e] [] cpos) (popE i (mD me)) := by
  have s1 : starEach [e] X.env = (false, eval e X.env) :: starEach [] X.env := star_cons hs
  refine PE.of (pe_bm PySem.F.plainAttrs_list PySem.F.slot_list_pop PySem.F.type_list_pop mt_popAt (peek_var g h) (pa_cons he.d pa_nil s1) rfl (by rw [s1]; rfl) hline s1 rfl) fun σ H Q ⟨ow, en, s, gg⟩ => ?_
  obtain ⟨b, enf, g1, g2⟩ := (show Go X.K (rB X.K) σ (popE i (mD me) en) H ow Q from gg)
  unfold popE at g1
  split at g1
  · rename_i ds0 ed
    obtain ⟨a, vs0, a1, a2, a3, a4⟩ := own_at s ed
    refine ⟨.ref a, a1, .inl ⟨rfl, vs0, SqL.of a3⟩, ow, en, s, ?_⟩
    split at g1
    · rename_i j en1 em
      refine ⟨.int j, en1, em, fun H1 ow1 y x1 s1 ry => ?_⟩
      split at g1
      · rename_i ds ed2
        split at g1
        · rename_i hc
          split at g1
          · rename_i n hn
            split at g1
            · rename_i d hd
              cases g1
              obtain ⟨a', vs, b1, b2, b3, b4⟩ := own_at s1 ed2
              rw [a1] at b1
              cases b1
              obtain ⟨v, hv, rv⟩ := b4.get hd
              obtain ⟨x2, s2⟩ := sta_put s1 ed2 a1 b2 (b4.erase n)
              obtain ⟨q1, q2, _, _⟩ := ixN_seq hn
              refine ⟨a, vs, j, n, v, rfl, by rw [rp_int ry], b3, hc.1, hc.2, by rw [b4.length]; exact q1, hv, ?_⟩
              exact g2 _ ow1 v (x1.trans x2) s2 (show BRep X.K _ ow1 none (.val d) v from Rp.mono x2.fz rv)
            · cases g1
          · cases g1
        · cases g1
      · cases g1
    · cases g1
  · cases g1
theorem de_cnt (g : Good G cs k Z X) {x : Str} {i : Nat} {p apos cpos : Pos} {e : Expr} {me : M B} (h : slotOf Z x = some i) (he : DE X e me) (hs : notStar e = true) (hline : (apos.endLine == cpos.line) = true) :
    DE X (.Call (.Attribute (.Name x p) "count" apos) [e] [] cpos) (cntE i (mD me)) := by
  have s1 : starEach [e] X.env = (false, eval e X.env) :: starEach [] X.env := star_cons hs
  refine PE.of (pe_bm PySem.F.plainAttrs_str PySem.F.slot_str_count PySem.F.type_str_count mt_count (peek_var g h) (pa_cons he.d pa_nil s1) rfl (by rw [s1]; rfl) hline s1 rfl) fun σ H Q ⟨ow, en, s, gg⟩ => ?_
  obtain ⟨b, enf, g1, g2⟩ := (show Go X.K (rB X.K) σ (cntE i (mD me) en) H ow Q from gg)
  unfold cntE at g1
  split at g1
  · rename_i z ed
    obtain ⟨v, v1, v2⟩ := s.rep i _ ed
    have ev : v = .str z := rp_str v2
    subst ev
    refine ⟨.str z, v1, rfl, ow, en, s, ?_⟩
    split at g1
    · rename_i y en1 em
      cases g1
      refine ⟨.str y, _, em, fun H1 ow1 u x1 s1 ry => ?_⟩
      have eu : u = .str y := rp_str ry
      subst eu
      exact ⟨z, y, rfl, rfl, g2 H1 ow1 _ x1 s1 (show BRep X.K H1 ow1 none (.val (.int _)) _ from .int _)⟩
    · cases g1
  · cases g1
end
end DL

namespace DL
open PySem PySem.W PySem.Spec PyProof.Rows L2
/-! ### instances of the program's classes: a slot's own -/
def putB (f : Str) (b : FB) : List (Str × FB) → List (Str × FB)
  | [] => [(f, b)]
  | (g, x) :: r => if g = f then (g, b) :: r else (g, x) :: putB f b r
section
variable {K : PySem.W.Frag} {H H' : Hp} {ow ow' : Ow} {σ : L2.St} {en : Env}
theorem FsRep.look {i : Option Nat} {f : Str} : ∀ {fs : List (Str × FB)} {k : Nat} {vs : List (Str × V)} {b : FB}, FsRep K H ow i k fs vs → fs.lookup f = some b → ∃ v j, vs.lookup f = some v ∧ FRep K H ow i j b v
  | [], _, _, _, _, e => by cases e
  | (g, x) :: fs, k, vs, b, ⟨v, r, h1, h2, h3⟩, e => by
    subst h1
    have e' : (match f == g with | true => some x | false => fs.lookup f) = some b := e
    cases q : f == g with
    | true =>
      rw [q] at e'
      cases e'
      refine ⟨v, k, ?_, h2⟩
      show (match f == g with | true => some v | false => r.lookup f) = _
      rw [q]
    | false =>
      rw [q] at e'
      obtain ⟨v2, j, l2, r2⟩ := FsRep.look h3 e'
      refine ⟨v2, j, ?_, r2⟩
      show (match f == g with | true => some v | false => r.lookup f) = _
      rw [q]
      exact l2
theorem FsRep.lookN {i : Option Nat} {f : Str} : ∀ {fs : List (Str × FB)} {k : Nat} {vs : List (Str × V)}, FsRep K H ow i k fs vs → fs.lookup f = none → vs.lookup f = none
  | [], _, _, h, _ => by
    have h' : _ = _ := h
    rw [h']
    rfl
  | (g, x) :: fs, k, vs, ⟨v, r, h1, h2, h3⟩, e => by
    subst h1
    have e' : (match f == g with | true => some x | false => fs.lookup f) = none := e
    cases q : f == g with
    | true =>
      rw [q] at e'
      cases e'
    | false =>
      rw [q] at e'
      show (match f == g with | true => some v | false => r.lookup f) = _
      rw [q]
      exact FsRep.lookN h3 e'
theorem FsRep.len {i : Option Nat} : ∀ {fs : List (Str × FB)} {k : Nat} {vs : List (Str × V)}, FsRep K H ow i k fs vs → vs.length = fs.length
  | [], _, _, h => by
    have h' : _ = _ := h
    rw [h']
    rfl
  | (g, x) :: fs, k, vs, ⟨v, r, h1, h2, h3⟩ => by
    subst h1
    exact congrArg Nat.succ (FsRep.len h3)
theorem FsRep.put {i : Option Nat} {f : Str} {d : D} {y : V} (hr : Rp K (Fz H ow) y d) : ∀ {fs : List (Str × FB)} {k : Nat} {vs : List (Str × V)}, FsRep K H ow i k fs vs → FsRep K H ow i k (putB f (.val d) fs) (putF f y vs)
  | [], k, vs, h => by
    have h' : _ = _ := h
    rw [h']
    exact ⟨y, [], rfl, hr, rfl⟩
  | (g, x) :: fs, k, vs, ⟨v, r, h1, h2, h3⟩ => by
    subst h1
    show FsRep K H ow i k (if g = f then (g, FB.val d) :: fs else (g, x) :: putB f (.val d) fs) (if g = f then (g, y) :: r else (g, v) :: putF f y r)
    by_cases q : g = f
    · rw [if_pos q, if_pos q]
      exact ⟨y, r, rfl, hr, h3⟩
    · rw [if_neg q, if_neg q]
      exact ⟨v, _, rfl, h2, FsRep.put hr h3⟩
theorem FsRep.mono1 {i j : Option Nat} (e : Same (Fz H ow) (Fz H' ow')) (o : ∀ b k, 1 ≤ k → ow b = .own i k → ow' b = .own j k ∧ H' b = H b) : ∀ {fs : List (Str × FB)} {k : Nat} {vs : List (Str × V)}, 1 ≤ k → FsRep K H ow i k fs vs → FsRep K H' ow' j k fs vs
  | [], _, _, _, h => h
  | f :: fs, k, vs, hk, ⟨v, r, h1, h2, h3⟩ => by
    refine ⟨v, r, h1, ?_, FsRep.mono1 e o (by omega) h3⟩
    cases q : f.2 with
    | val d =>
      rw [q] at h2
      exact Rp.mono e h2
    | lst ds =>
      rw [q] at h2
      obtain ⟨a, us, g1, g2, g3, g4⟩ := h2
      exact ⟨a, us, g1, (o a k hk g2).1, (o a k hk g2).2.trans g3, RpAll.mono e g4⟩
/-- what a slot owns is written at its place -/
theorem fz_upd {a : Addr} {o : HO} (h : ow a ≠ .frz) : Same (Fz H ow) (Fz (upd H a o) ow) := fun b q e => by
  obtain ⟨e1, e2⟩ := res_some e
  exact (res_at e1).trans ((upd_ne (by intro z; rw [z] at e1; exact h e1)).trans e2)
theorem sta_upd {i : Nat} {a : Addr} {o : HO} {b' : B} (s : Sta K H ow σ en) (hlt : i < en.length) (hv : σ[i]? = some (some (.ref a))) (hl : ow a = .own (some i) 0) (r : BRep K (upd H a o) ow (some i) b' (.ref a)) :
    Ext H ow (upd H a o) ow ∧ Sta K (upd H a o) ow σ (en.set i (some b')) := by
  have fz : Same (Fz H ow) (Fz (upd H a o) ow) := fz_upd (by rw [hl]; intro z; cases z)
  refine ⟨⟨fun b h => ⟨h, upd_ne (by intro z; rw [z, hl] at h; cases h)⟩, fun b h => ⟨h, upd_ne (by intro z; rw [z, hl] at h; cases h)⟩⟩, by rw [List.length_set]; exact s.len, fun j c q => ?_, fun b q => ?_⟩
  · by_cases hj : i = j
    · subst hj
      rw [List.getElem?_set_self hlt] at q
      cases q
      exact ⟨_, hv, r⟩
    · rw [List.getElem?_set_ne hj] at q
      obtain ⟨w, w1, w2⟩ := s.rep j c q
      refine ⟨w, w1, BRep.mono fz (fun b k q2 => ⟨q2, upd_ne ?_⟩) w2⟩
      intro z
      rw [z, hl] at q2
      cases q2
      exact hj rfl
  · by_cases n : b = a
    · rw [n, upd_same]
      intro z
      cases z
    · rw [upd_ne n]
      exact s.dom b q
end
def fldC (c : Str) (i : Nat) (f : Str) : M B := fun en => match en[i]? with
  | some (some (.ins c' fs)) => if c' = c then (match fs.lookup f with
    | some (.val d) => some (.val d, en)
    | _ => none) else none
  | _ => none
def fstC (c : Str) (i : Nat) (f : Str) (m : M D) : Sm := fun en => match m en with
  | some (d, en1) => match en1[i]? with
    | some (some (.ins c' fs)) => if c' = c ∧ fs.length < 1000 then some (.nx (en1.set i (some (.ins c (putB f (.val d) fs))))) else none
    | _ => none
  | none => none
/-- o.m(..): the instance goes and comes back -/
def methC (cs : Calls) (c m key : Str) (i : Nat) (as : List (M Arg)) : M B := fun en => match en[i]? with
  | some (some (.ins c' fs)) => if c' = c ∧ (fs.lookup m).isNone = true then (bd (seqM as) fun as => callE (cs key) (.io i :: as)) en else none
  | _ => none
section
variable {G : Glob} {cs : Calls} {k : Nat} {Z : Stat} {X : Cx} {pos : Pos}
theorem clsOf_x {x : Str} {c : ClsG} (h : G.clsOf x = some c) : c.x = x := by
  unfold Glob.clsOf at h
  have := List.find?_some h
  exact eq_of_beq this
theorem de_fldC (g : Good G cs k Z X) {x f c : Str} {i : Nat} {p : Pos} {cd : ClsG} (h : slotOf Z x = some i) (hc : G.clsOf c = some cd) (hf : cd.flds.contains f = true) : DE X (.Attribute (.Name x p) f pos) (fldC c i f) := by
  obtain ⟨h1, h2, h3⟩ := g.cls c cd hc
  refine PE.of (pe_fld (peek_var g h) rfl) fun σ H Q ⟨ow, en, s, b, en', e, q⟩ => ?_
  unfold fldC at e
  split at e
  · rename_i c' fs ed
    split at e
    · rename_i ec
      subst ec
      split at e
      · rename_i d hl
        cases e
        obtain ⟨v, v1, a, dx, vs, rfl, g1, g2, g3⟩ := s.rep i _ ed
        obtain ⟨w, j, w1, w2⟩ := g3.look hl
        refine ⟨_, v1, a, _, dx, vs, w, rfl, g2, h1, h2 f (by simpa using hf), w1, q H ow w (.refl _ _) s w2⟩
      · cases e
    · cases e
  · cases e
theorem ds_fstC (g : Good G cs k Z X) {x f c : Str} {i : Nat} {p p2 : Pos} {cd : ClsG} {v : Expr} {mv : M B} (h : slotOf Z x = some i) (hc : G.clsOf c = some cd) (hf : cd.flds.contains f = true) (he : DE X v mv) (hk : isFun Z.sc = true) (hn : noComp v = true) :
    DS X Z (.Assign [.Attribute (.Name x p) f p2] v pos) (fstC c i f (mD mv)) := by
  obtain ⟨h1, h2, h3⟩ := g.cls c cd hc
  refine PS.of (ps_fld (peek_var g h) he.d ?_) fun D σ H ⟨ow, en, s, gg⟩ => ?_
  · rw [swB_ok (by rw [g.sc]; exact hk) hn]
    unfold swB
    cases v <;> rfl
  · unfold fstC at gg
    split at gg
    · rename_i d en1 e1
      refine ⟨ow, en, s, d, en1, e1, fun H1 ow1 y x1 s1 r1 => ?_⟩
      split at gg
      · rename_i c' fs ed
        split at gg
        · rename_i hcl
          obtain ⟨rfl, hl⟩ := hcl
          obtain ⟨w, w1, a, dx, vs, rfl, g1, g2, g3⟩ := s1.rep i _ ed
          refine ⟨_, w1, a, _, dx, vs, rfl, g2, h1, h2 f (by simpa using hf), by rw [g3.len]; exact hl, ?_⟩
          have hlt : i < en1.length := (List.getElem?_eq_some_iff.mp ed).1
          have fz : Same (Fz H1 ow1) (Fz (upd H1 a (.ins (He.ga X.K c') dx (putF f y vs))) ow1) := fz_upd (by rw [g1]; intro z; cases z)
          obtain ⟨x2, s2⟩ := sta_upd (o := .ins (He.ga X.K c') dx (putF f y vs)) (b' := .ins c' (putB f (.val d) fs)) s1 hlt w1 g1 ⟨a, dx, _, rfl, g1, upd_same, FsRep.mono1 fz (fun b k hk e => ⟨e, upd_ne (by intro z; rw [z, g1] at e; cases e; omega)⟩) (Nat.le_refl 1) (FsRep.put r1 g3)⟩
          exact gg _ ow1 σ (x1.trans x2) s2 .refl
        · exact gg.elim
      · exact gg.elim
    · exact gg.elim
theorem star_all {pos : Pos} {env : PySem.Env} : ∀ {es : List Expr}, es.all notStar = true → (backTo pos (starEach es env)).all (fun x => !x.1) = true
  | [], _ => rfl
  | e :: es, h => by
    rw [List.all_cons, Bool.and_eq_true] at h
    rw [star_cons h.1]
    show (true && (backTo pos (starEach es env)).all (fun x => !x.1)) = true
    rw [star_all h.2]
    rfl
theorem meth_eval {o : Expr} {m : Str} {apos pos : Pos} {es : List Expr} {env : PySem.Env} (hs : es.all notStar = true) (hl : es.length < 30) (hline : (apos.endLine == pos.line) = true) (hb : attributeBase o m env (eval o env) = eval o env) :
    eval (.Call (.Attribute o m apos) es [] pos) env = (do
      let ov ← eval o env
      standAt apos.atName
      let (f, first) ← holding [ov] (getMethod ov m (do return (← importBound o env).getD true))
      callWith pos f first (backTo pos (starEach es env)) (backToKw pos (keywordEach [] env))) := by
  have hform : methodCallForm (es.length + ([] : List Keyword).length) (backTo pos (starEach es env)) (backToKw pos (keywordEach [] env)) = true := by
    unfold methodCallForm
    rw [star_all hs]
    have : es.length + ([] : List Keyword).length + (if (backToKw pos (keywordEach [] env)).isEmpty then 0 else 1) < 30 := hl
    rw [decide_eq_true this]
    rfl
  have hpos : methodCallPos true o env apos pos = pure pos := by unfold methodCallPos; simp [hline]
  rw [arm_eval_Call, hb]
  unfold methodCall
  rw [hform, hpos]
  rfl
theorem de_methC (g : Good G cs k Z X) {x m c key : Str} {i : Nat} {p apos : Pos} {cd : ClsG} {ios : List Bool} {f : Expr → M B} {es : List Expr} (h : slotOf Z x = some i) (hc : G.clsOf c = some cd) (hm : cd.ms.lookup m = some (key, true :: ios)) (hn : ios.length = es.length) (hs : es.all notStar = true) (hl30 : es.length < 30) (hline : (apos.endLine == pos.line) = true) (he : ∀ e ∈ es, DE X e (f e)) :
    DE X (.Call (.Attribute (.Name x p) m apos) es [] pos) (methC cs c m key i (argsL Z f ios es)) := by
  obtain ⟨h1, h2, h3⟩ := g.cls c cd hc
  obtain ⟨fa, fd, ps, F, hM, hB⟩ := h3 m key _ hm
  have pa := pa_args g (f := f) hn hs he
  have go : ∀ σ H Q, tM X.K (rB X.K) (methC cs c m key i (argsL Z f ios es)) σ H Q → tMeth (He.ga X.K c) m (spF X.K (cs key) (true :: ios).length) [] E0 (fun σ H Q => ∃ v, σ[i]? = some (some v) ∧ Q v H) (tMl X.K (rAσ X.K) (seqM (argsL Z f ios es))) σ H Q := fun σ H Q ⟨ow, en, s, gg⟩ => by
    obtain ⟨b, en', e, q⟩ := gg
    unfold methC at e
    split at e
    · rename_i c' fs ed
      split at e
      · rename_i hcl
        obtain ⟨rfl, hl⟩ := hcl
        obtain ⟨w, w1, a, dx, vs, rfl, g1, g2, g3⟩ := s.rep i _ ed
        refine ⟨_, w1, a, dx, vs, rfl, g2, FsRep.lookN g3 (by simpa using hl), ow, en, s, ?_⟩
        obtain ⟨as, en1, h4, h5⟩ := (show Go X.K (rB X.K) σ (bd (seqM (argsL Z f ios es)) (fun as => callE (cs key) (.io i :: as)) en) H ow Q from ⟨b, en', e, q⟩).bind (rep2 := fun H ow as vs => RepL (rAσ X.K σ H ow) as vs)
        have hlen : as.length = ios.length := by rw [seqM_len h4, argsL_len hn, hn]
        refine ⟨as, en1, h4, fun H1 ow1 vs x1 s1 q1 => ?_⟩
        obtain ⟨ow2, en2, as2, x2, s2, q2, g2⟩ := h5 H1 ow1 vs x1 s1 q1
        rw [List.append_nil]
        have hl2 : as2.length = ios.length := by rw [q2.len, ← q1.len, hlen]
        have hl3 : (true :: ios).length = (Arg.io i :: as2).length := by rw [List.length_cons, List.length_cons, hl2]
        rw [hl3]
        exact g2.call_ s2 (.cons (show rAσ X.K σ H1 ow2 (.io i) (.ref a) from w1) q2) E0
      · cases e
    · cases e
  cases es with
  | nil =>
    have e0 : argsL Z f ios [] = [] := by cases ios <;> rfl
    rw [e0] at go ⊢
    refine PE.of (pe_meth0 (peek_var g h) h1 hM F g.room hB .nil pass0 (meth_eval hs hl30 hline rfl)) fun σ H Q hq => ?_
    obtain ⟨v, v1, a, dx, fs, r1, r2, r3, r4⟩ := go σ H Q hq
    refine ⟨v, v1, a, dx, fs, r1, r2, r3, ?_⟩
    obtain ⟨ow, en, s, as, en', h1, h2⟩ := r4
    cases h1
    exact h2 H ow [] (.refl _ _) s .nil
  | cons e es =>
    have hs2 := hs
    rw [List.all_cons, Bool.and_eq_true] at hs2
    exact PE.of (pe_meth (peek_var g h) h1 hM F g.room hB .nil pass0 pa (star_cons hs2.1) (star_any hs2.2) (meth_eval hs hl30 hline rfl)) go
end
/-! ### C(..): a new instance -/
section
variable {K : PySem.W.Frag} {H H' : Hp} {ow : Ow} {σ : L2.St} {en : Env}
theorem sta_push {x dx C : Addr} {c : Str} (s : Sta K H ow σ en) (hx : H x = none) (hdx : H dx = none) (hne : dx ≠ x) (hC : C = He.ga K c) :
    Ext H ow (upd (upd H dx (.own x)) x (.ins C dx [])) (setL ow x (.own (some en.length) 0)) ∧ Sta K (upd (upd H dx (.own x)) x (.ins C dx [])) (setL ow x (.own (some en.length) 0)) (σ ++ [some (.ref x)]) (en ++ [some (.ins c [])]) := by
  have ox : ow x = .out := by
    by_cases z : ow x = .out
    · exact z
    · exact absurd hx (s.dom x z)
  have od : ow dx = .out := by
    by_cases z : ow dx = .out
    · exact z
    · exact absurd hdx (s.dom dx z)
  have keep : ∀ b, ow b ≠ .out → setL ow x (.own (some en.length) 0) b = ow b ∧ upd (upd H dx (.own x)) x (.ins C dx []) b = H b := fun b h => by
    have n1 : b ≠ x := fun z => h (by rw [z]; exact ox)
    have n2 : b ≠ dx := fun z => h (by rw [z]; exact od)
    exact ⟨setL_ne n1, by rw [upd_ne n1, upd_ne n2]⟩
  have ex : Ext H ow (upd (upd H dx (.own x)) x (.ins C dx [])) (setL ow x (.own (some en.length) 0)) :=
    ⟨fun b h => by
      obtain ⟨k1, k2⟩ := keep b (by rw [h]; intro z; cases z)
      exact ⟨k1.trans h, k2⟩, fun b h => by
      obtain ⟨k1, k2⟩ := keep b (by rw [h]; intro z; cases z)
      exact ⟨k1.trans h, k2⟩⟩
  refine ⟨ex, ⟨by simp [s.len], fun j b h => ?_, fun b h => ?_⟩⟩
  · by_cases hj : j < en.length
    · rw [List.getElem?_append_left hj] at h
      obtain ⟨w, w1, w2⟩ := s.rep j b h
      refine ⟨w, by rw [List.getElem?_append_left (by rw [← s.len]; exact hj)]; exact w1, BRep.mono ex.fz (fun b k e => ?_) w2⟩
      obtain ⟨k1, k2⟩ := keep b (by rw [e]; intro z; cases z)
      exact ⟨k1.trans e, k2⟩
    · have hj2 : j = en.length := by
        have := (List.getElem?_eq_some_iff.mp h).1
        simp at this
        omega
      subst hj2
      rw [List.getElem?_append_right (Nat.le_refl _)] at h
      simp only [Nat.sub_self, List.getElem?_cons_zero, Option.some.injEq] at h
      subst h
      refine ⟨.ref x, by rw [s.len, List.getElem?_append_right (Nat.le_refl _)]; simp, x, dx, [], rfl, setL_same, ?_, rfl⟩
      rw [upd_same, hC]
  · by_cases n : b = x
    · rw [n, upd_same]
      intro z
      cases z
    · rw [setL_ne n] at h
      rw [(keep b h).2]
      exact s.dom b h
/-- the last slot goes over to the one who asked -/
def popL (n : Nat) (ow : Ow) : Ow := fun b => match ow b with
  | .own (some j) k => if j = n then .own none k else .own (some j) k
  | .own none k => .out
  | l => l
theorem sta_pop {b : B} {v : V} {en1 : Env} (s : Sta K H ow (σ ++ [some v]) (en1 ++ [some b])) : Ext H ow H (popL en1.length ow) ∧ Sta K H (popL en1.length ow) σ en1 ∧ BRep K H (popL en1.length ow) none b v := by
  have hl : en1.length = σ.length := by
    have := s.len
    simpa using this
  have ex : Ext H ow H (popL en1.length ow) := ⟨fun b h => ⟨by unfold popL; rw [h], rfl⟩, fun b h => ⟨by unfold popL; rw [h], rfl⟩⟩
  refine ⟨ex, ⟨hl, fun j c h => ?_, fun c h => ?_⟩, ?_⟩
  · have hj : j < en1.length := (List.getElem?_eq_some_iff.mp h).1
    obtain ⟨w, w1, w2⟩ := s.rep j c (by rw [List.getElem?_append_left hj]; exact h)
    rw [List.getElem?_append_left (by rw [← hl]; exact hj)] at w1
    refine ⟨w, w1, BRep.mono ex.fz (fun b k e => ⟨?_, rfl⟩) w2⟩
    unfold popL
    rw [e]
    simp only [if_neg (show ¬ j = en1.length by omega)]
  · refine s.dom c fun z => h ?_
    unfold popL
    rw [z]
  · obtain ⟨w, w1, w2⟩ := s.rep en1.length b (by rw [List.getElem?_append_right (Nat.le_refl _)]; simp)
    rw [hl, List.getElem?_append_right (Nat.le_refl _)] at w1
    simp only [Nat.sub_self, List.getElem?_cons_zero, Option.some.injEq] at w1
    subst w1
    refine BRep.move ex.fz (fun b k e => ⟨?_, rfl⟩) w2
    unfold popL
    rw [e]
    simp
def isArgB : Arg → Bool
  | .b _ => true
  | _ => false
theorem argB_list : ∀ {as : List Arg}, as.all isArgB = true → ∃ bs : List B, as = bs.map Arg.b
  | [], _ => ⟨[], rfl⟩
  | .b b :: as, h => by
    rw [List.all_cons, Bool.and_eq_true] at h
    obtain ⟨bs, rfl⟩ := argB_list h.2
    exact ⟨b :: bs, rfl⟩
  | .io i :: as, h => by
    rw [List.all_cons, Bool.and_eq_true] at h
    cases h.1
theorem resAs_b : ∀ bs : List B, resAs en (bs.map Arg.b) = some bs
  | [] => rfl
  | b :: bs => by
    show (match resAs en (bs.map Arg.b) with | some ds => some (b :: ds) | none => none) = _
    rw [resAs_b bs]
theorem posOf_io1 {i : Nat} (bs : List B) (j : Nat) : posOf (.io i :: bs.map Arg.b) j = if i = j then some 0 else none := by
  unfold posOf
  rw [List.findIdx?_cons]
  by_cases e : i = j
  · subst e
    simp [isIo]
  · have e2 : isIo j (.io i) = false := by simp [isIo, e]
    rw [e2, if_neg e]
    have : (bs.map Arg.b).findIdx? (isIo j) = none := by
      rw [List.findIdx?_eq_none_iff]
      intro a ha
      obtain ⟨b, _, rfl⟩ := List.mem_map.mp ha
      rfl
    rw [this]
    rfl
theorem ioOk_io1 {i : Nat} (bs : List B) : ioOk (.io i :: bs.map Arg.b) = true := by
  unfold ioOk
  rw [List.all_eq_true]
  intro j _
  cases j with
  | zero =>
    show (posOf _ i == some 0) = true
    rw [posOf_io1, if_pos rfl]
    rfl
  | succ j =>
    have : ioOf (.io i :: bs.map Arg.b) (j + 1) = none := by
      unfold ioOf
      rw [List.getElem?_cons_succ, List.getElem?_map]
      cases bs[j]? <;> rfl
    rw [this]
theorem ioOk_b (bs : List B) : ioOk (bs.map Arg.b) = true := by
  unfold ioOk
  rw [List.all_eq_true]
  intro j _
  have : ioOf (bs.map Arg.b) j = none := by
    unfold ioOf
    rw [List.getElem?_map]
    cases bs[j]? <;> rfl
  rw [this]
theorem putBack_io1 (bs : List B) (b0 : Option B) (bs' : List (Option B)) : putBack (en ++ [b0]) (.io en.length :: bs.map Arg.b) bs' = en ++ [(bs'[0]?).getD none] := by
  unfold putBack
  apply List.ext_getElem?
  intro j
  rw [List.getElem?_mapIdx, posOf_io1]
  by_cases e : en.length = j
  · subst e
    rw [if_pos rfl, List.getElem?_append_right (Nat.le_refl _), List.getElem?_append_right (Nat.le_refl _)]
    simp
  · rw [if_neg e]
    by_cases h : j < en.length
    · rw [List.getElem?_append_left h, List.getElem?_append_left h]
      cases en[j]? <;> rfl
    · rw [List.getElem?_eq_none (by simp; omega), List.getElem?_eq_none (by simp; omega)]
      rfl
theorem putBack_bs (bs : List B) (bs' : List (Option B)) : putBack en (bs.map Arg.b) bs' = en := by
  unfold putBack
  apply List.ext_getElem?
  intro i
  rw [List.getElem?_mapIdx]
  have e : posOf (bs.map Arg.b) i = none := by
    unfold posOf
    rw [List.findIdx?_eq_none_iff]
    intro a ha
    obtain ⟨b, _, rfl⟩ := List.mem_map.mp ha
    rfl
  rw [e]
  cases en[i]? <;> rfl
theorem repL_push {as : List Arg} {vs : List V} {H2 : Hp} {ow2 : Ow} {w : Option V} (x : Ext H ow H2 ow2) (hb : as.all isArgB = true) (r : RepL (rAσ K σ H ow) as vs) : RepL (rAσ K (σ ++ [w]) H2 ow2) as vs := by
  induction r with
  | nil => exact .nil
  | @cons a as v vs h r ih =>
    rw [List.all_cons, Bool.and_eq_true] at hb
    refine .cons ?_ (ih hb.2)
    cases a with
    | b b => exact bRep0_mono x.fz h
    | io i => cases hb.1
end
section
variable {G : Glob} {cs : Calls} {k : Nat} {Z : Stat} {X : Cx} {pos : Pos}
def noIo (ios : List Bool) : Bool := ios.all fun b => !b
theorem argM_b {Z : Stat} {e : Expr} {m : M B} {en en' : Env} {a : Arg} (h : argM Z false e m en = some (a, en')) : isArgB a = true := by
  have h' : bd m toArg en = some (a, en') := h
  unfold bd at h'
  cases e1 : m en with
  | none => rw [e1] at h'; cases h'
  | some p =>
    obtain ⟨b, en1⟩ := p
    rw [e1] at h'
    cases b <;> cases h' <;> rfl
theorem args_b {Z : Stat} {f : Expr → M B} : ∀ {ios : List Bool} {es : List Expr} {en en' : Env} {as : List Arg}, noIo ios = true → seqM (argsL Z f ios es) en = some (as, en') → as.all isArgB = true
  | [], es, en, en', as, _, h => by
    have h' : seqM ([] : List (M Arg)) en = some (as, en') := h
    cases h'
    rfl
  | io :: ios, [], en, en', as, _, h => by
    have h' : seqM ([] : List (M Arg)) en = some (as, en') := h
    cases h'
    rfl
  | io :: ios, e :: es, en, en', as, hn, h => by
    have h' : bd (argM Z io e (f e)) (fun a => bd (seqM (argsL Z f ios es)) fun as => ret (a :: as)) en = some (as, en') := h
    unfold noIo at hn
    rw [List.all_cons, Bool.and_eq_true] at hn
    cases io with
    | true => cases hn.1
    | false =>
      unfold bd at h'
      cases e1 : argM Z false e (f e) en with
      | none => rw [e1] at h'; cases h'
      | some p =>
        obtain ⟨a, en1⟩ := p
        rw [e1] at h'
        dsimp only at h'
        cases e2 : seqM (argsL Z f ios es) en1 with
        | none => rw [e2] at h'; cases h'
        | some p2 =>
          obtain ⟨as2, en2⟩ := p2
          rw [e2] at h'
          cases h'
          rw [List.all_cons, argM_b e1, args_b (ios := ios) hn.2 e2]
          rfl
theorem de_mkC (g : Good G cs k Z X) {c key : Str} {p : Pos} {cd : ClsG} {ios : List Bool} {f : Expr → M B} {es : List Expr} (hg : isGlob Z c = true) (hc : G.clsOf c = some cd) (hm : cd.ms.lookup ("__init__" : Str) = some (key, true :: ios)) (hi : noIo ios = true) (hn : ios.length = es.length) (hs : es.all notStar = true) (he : ∀ e ∈ es, DE X e (f e)) :
    DE X (.Call (.Name c p) es [] pos) (bd (seqM (argsL Z f ios es)) fun as => callE (cs c) as) := by
  rcases g.mks c cd hc with hnone | ⟨j, fa, fd, ps, sem, key', io', rfl, hm', F, hM, hmg, hB, hsem⟩
  · have st : ∀ as en, callE (cs c) as en = none := fun as en => by
      unfold callE
      cases ioOk as with
      | false => rfl
      | true =>
        dsimp only
        cases resAs en as with
        | none => rfl
        | some bs =>
          dsimp only
          rw [hnone]
    exact PE.of de_stuck fun σ H Q ⟨ow, en, s, b, en', e, q⟩ => by
      unfold bd at e
      cases e1 : seqM (argsL Z f ios es) en with
      | none => rw [e1] at e; cases e
      | some p =>
        obtain ⟨as, en1⟩ := p
        rw [e1] at e
        have e' : callE (cs c) as en1 = some (b, en') := e
        rw [st] at e'
        cases e'
  · rw [hm] at hm'
    cases hm'
    obtain ⟨gl, db⟩ := glob_gl g hg
    have pa := pa_args g (f := f) hn hs he
    have go : ∀ σ H Q, tM X.K (rB X.K) (bd (seqM (argsL Z f ios es)) fun as => callE (cs c) as) σ H Q → tMake (He.ga X.K c) (spF X.K sem (true :: ios).length) [] E0 (tMl X.K (rAσ X.K) (seqM (argsL Z f ios es))) σ H Q := fun σ H Q ⟨ow, en, s, gg⟩ => ⟨ow, en, s, by
      obtain ⟨b, en3, e0, q0⟩ := gg
      unfold bd at e0
      cases h1 : seqM (argsL Z f ios es) en with
      | none => rw [h1] at e0; cases e0
      | some pp =>
      obtain ⟨as2, en2⟩ := pp
      rw [h1] at e0
      have e3 : callE (cs c) as2 en2 = some (b, en3) := e0
      have hab : as2.all isArgB = true := args_b hi h1
      have hl2 : as2.length = ios.length := by rw [seqM_len h1, argsL_len hn, hn]
      refine ⟨as2, en2, rfl, fun H1 ow2 vs x1 s2 q2 x dx hx hdx hne => ?_⟩
      rw [List.append_nil]
      have q3 : ∀ H' ow' v, Ext H1 ow2 H' ow' → Sta X.K H' ow' σ en3 → BRep X.K H' ow' none b v → Q v H' := fun H' ow' v e s r => q0 H' ow' v (x1.trans e) s r
      -- the arguments are data
      unfold callE at e3
      cases ok : ioOk as2 with
      | false => rw [ok] at e3; cases e3
      | true =>
        rw [ok] at e3
        dsimp only at e3
        cases e4 : resAs en2 as2 with
        | none => rw [e4] at e3; cases e3
        | some bs =>
          rw [e4] at e3
          dsimp only at e3
          rw [hsem] at e3
          unfold makeOf at e3
          cases e5 : sem (.ins c [] :: bs) with
          | none => rw [e5] at e3; cases e3
          | some p =>
            obtain ⟨r, bs'⟩ := p
            rw [e5] at e3
            obtain ⟨bs2, rfl⟩ := argB_list hab
            rw [resAs_b] at e4
            cases e4
            cases r <;> first | (cases e3; done) | skip
            rename_i d
            cases d <;> first | (cases e3; done) | skip
            cases bs' with
            | nil => cases e3
            | cons o bs' =>
              cases o with
              | none => cases e3
              | some b0 =>
                cases b0 <;> first | (cases e3; done) | skip
                rename_i c' fs
                by_cases hcc : c' = c
                · subst hcc
                  dsimp only at e3
                  rw [if_pos rfl] at e3
                  cases e3
                  rw [putBack_bs] at q3
                  obtain ⟨x3, s3⟩ := sta_push (c := c') s2 hx hdx hne rfl
                  have r3 := repL_push (w := some (.ref x)) x3 hab q2
                  have rr : RepL (rAσ X.K (σ ++ [some (.ref x)]) (upd (upd H1 dx (.own x)) x (.ins (He.ga X.K c') dx [])) (setL ow2 x (.own (some en2.length) 0))) (.io en2.length :: bs.map Arg.b) (.ref x :: vs) := .cons (show (σ ++ [some (V.ref x)])[en2.length]? = some (some (.ref x)) by rw [s2.len, List.getElem?_append_right (Nat.le_refl _)]; simp) r3
                  have hres : resAs (en2 ++ [some (.ins c' [])]) (.io en2.length :: bs.map Arg.b) = some (.ins c' [] :: bs) := by
                    show (match resA (en2 ++ [some (B.ins c' [])]) (.io en2.length) with | some d => (match resAs (en2 ++ [some (B.ins c' [])]) (bs.map Arg.b) with | some ds => some (d :: ds) | none => none) | none => none) = _
                    have : resA (en2 ++ [some (.ins c' [])]) (.io en2.length) = some (.ins c' []) := by
                      show (match (en2 ++ [some (B.ins c' [])])[en2.length]? with | some (some b) => some b | _ => none) = _
                      rw [List.getElem?_append_right (Nat.le_refl _)]
                      simp
                    rw [this, resAs_b]
                  refine ⟨by rw [List.length_cons, List.length_cons, ← q2.len, hl2], _, .ins c' [] :: bs, _, _, sta_ent s3 rr hres (ioOk_io1 bs), e5, fun H' ow' v xe se rv => ?_⟩
                  obtain ⟨x4, s4, r4⟩ := sta_aft s3 rr (ioOk_io1 bs) xe se rv
                  rw [putBack_io1] at s4
                  obtain ⟨x5, s5, r5⟩ := sta_pop s4
                  exact ⟨rp_non (show Rp X.K _ v .none from r4), q3 H' _ (.ref x) (x3.trans (x4.trans x5)) s5 r5⟩
                · dsimp only at e3
                  rw [if_neg hcc] at e3
                  cases e3⟩
    cases es with
    | nil =>
      have e0 : argsL Z f ios [] = [] := by cases ios <;> rfl
      rw [e0] at go ⊢
      refine PE.of (pe_make0 hM F g.room gl hmg hB .nil pass0 db) fun σ H Q hq => ?_
      obtain ⟨ow, en, s, as, en', h1, h2⟩ := go σ H Q hq
      cases h1
      exact h2 H ow [] (.refl _ _) s .nil
    | cons e es =>
      have hs2 := hs
      rw [List.all_cons, Bool.and_eq_true] at hs2
      exact PE.of (pe_make hM F g.room gl hmg hB .nil pass0 pa db (star_cons hs2.1) (star_any hs2.2)) go
end
/-! ### f(e): a new list or instance of its own goes in and is let go -/
section
variable {K : PySem.W.Frag} {H H' : Hp} {ow : Ow} {σ : L2.St} {en : Env}
theorem sta_app {b : B} {v : V} (s : Sta K H ow σ en) (r : BRep K H ow none b v) : Sta K H (adopt en.length ow) (σ ++ [some v]) (en ++ [some b]) := by
  have ex : Ext H ow H (adopt en.length ow) := adopt_ext
  refine ⟨by simp [s.len], fun j c h => ?_, fun c h => ?_⟩
  · by_cases hj : j < en.length
    · rw [List.getElem?_append_left hj] at h
      obtain ⟨w, w1, w2⟩ := s.rep j c h
      exact ⟨w, by rw [List.getElem?_append_left (by rw [← s.len]; exact hj)]; exact w1, BRep.mono ex.fz (fun b k e => ⟨by unfold adopt; rw [e], rfl⟩) w2⟩
    · have hj2 : j = en.length := by
        have := (List.getElem?_eq_some_iff.mp h).1
        simp at this
        omega
      subst hj2
      rw [List.getElem?_append_right (Nat.le_refl _)] at h
      simp only [Nat.sub_self, List.getElem?_cons_zero, Option.some.injEq] at h
      subst h
      refine ⟨v, by rw [s.len, List.getElem?_append_right (Nat.le_refl _)]; simp, BRep.move ex.fz (fun b k e => ⟨by unfold adopt; rw [e], rfl⟩) r⟩
  · refine s.dom c fun z => h ?_
    unfold adopt
    rw [z]
/-- the last slot is let go, whatever it holds -/
theorem sta_drop {o : Option B} {v : V} {en1 : Env} (s : Sta K H ow (σ ++ [some v]) (en1 ++ [o])) : Sta K H ow σ en1 := by
  have hl : en1.length = σ.length := by
    have := s.len
    simpa using this
  refine ⟨hl, fun j c h => ?_, s.dom⟩
  have hj : j < en1.length := (List.getElem?_eq_some_iff.mp h).1
  obtain ⟨w, w1, w2⟩ := s.rep j c (by rw [List.getElem?_append_left hj]; exact h)
  rw [List.getElem?_append_left (by rw [← hl]; exact hj)] at w1
  exact ⟨w, w1, w2⟩
end
def callN (cs : Calls) (x : Str) (m : M B) : M B := fun en => match m en with
  | some (.lst ds, en1) => match cs x [.lst ds] with
    | some (r, _) => some (r, en1)
    | none => none
  | some (.ins c fs, en1) => match cs x [.ins c fs] with
    | some (r, _) => some (r, en1)
    | none => none
  | _ => none
section
variable {G : Glob} {cs : Calls} {k : Nat} {Z : Stat} {X : Cx} {pos : Pos}
theorem de_callN (g : Good G cs k Z X) {x : Str} {p : Pos} {e : Expr} {m : M B} (hg : isGlob Z x = true) (hl : G.fns.lookup x = some [true]) (hs : notStar e = true) (he : DE X e m) : DE X (.Call (.Name x p) [e] [] pos) (callN cs x m) := by
  obtain ⟨a, fd, ps, F, hm, hk, hb⟩ := g.fns x _ hl
  obtain ⟨gl, db⟩ := glob_gl g hg
  refine PE.of (pe_call F g.room gl hm hk hb .nil pass0 (pa_cons he pa_nil (star_cons hs)) db (star_cons hs) rfl) fun σ H Q ⟨ow, en, s, b, en', e1, q⟩ => ?_
  have main : ∀ b0 en1, m en = some (b0, en1) → (∃ r bs', cs x [b0] = some (r, bs') ∧ some (b, en') = some (r, en1)) → tCall (spF X.K (cs x) [true].length) [] E0 (fun σ H Q => tM X.K (rB X.K) m σ H fun v H1 => tNil σ H1 fun vs H2 => Q (v :: vs) H2) σ H Q := fun b0 en1 em ⟨r, bs', hsem, heq⟩ => by
    cases heq
    refine ⟨ow, en, s, b0, _, em, fun H1 ow1 v x1 s1 r1 => ?_⟩
    have s2 := sta_app s1 r1
    have rr : RepL (rAσ X.K (σ ++ [some v]) H1 (adopt en'.length ow1)) (.io en'.length :: ([] : List B).map Arg.b) [v] := .cons (show (σ ++ [some v])[en'.length]? = some (some v) by rw [s1.len, List.getElem?_append_right (Nat.le_refl _)]; simp) .nil
    have hres : resAs (en' ++ [some b0]) (.io en'.length :: ([] : List B).map Arg.b) = some [b0] := by
      show (match (match (en' ++ [some b0])[en'.length]? with | some (some b) => some b | _ => none) with | some d => some [d] | none => none) = _
      rw [List.getElem?_append_right (Nat.le_refl _)]
      simp
    refine ⟨rfl, _, [b0], _, _, sta_ent s2 rr hres (ioOk_io1 []), hsem, fun H' ow' v' xe se rv => ?_⟩
    obtain ⟨x4, s4, r4⟩ := sta_aft s2 rr (ioOk_io1 []) xe se rv
    rw [putBack_io1] at s4
    exact q H' _ v' (x1.trans (adopt_ext.trans x4)) (sta_drop s4) r4
  unfold callN at e1
  cases em : m en with
  | none => rw [em] at e1; cases e1
  | some pr =>
    obtain ⟨b0, en1⟩ := pr
    rw [em] at e1
    refine main b0 en1 em ?_
    cases b0 <;> first | (cases e1; done) | skip
    · rename_i ds
      dsimp only at e1
      cases hc : cs x [.lst ds] with
      | none => rw [hc] at e1; cases e1
      | some pr => obtain ⟨r, bs'⟩ := pr; rw [hc] at e1; exact ⟨r, bs', rfl, e1.symm⟩
    · rename_i c fs
      dsimp only at e1
      cases hc : cs x [.ins c fs] with
      | none => rw [hc] at e1; cases e1
      | some pr => obtain ⟨r, bs'⟩ := pr; rw [hc] at e1; exact ⟨r, bs', rfl, e1.symm⟩
end
end DL

namespace DL
open PySem PySem.W PySem.Spec PyProof.Rows L2
/-! ### one of two own lists, by another name -/
section
variable {K : PySem.W.Frag} {H : Hp} {ow : Ow} {σ : L2.St} {en : Env}
theorem sta_none {i : Nat} {o : Option V} (s : Sta K H ow σ en) : Sta K H ow (σ.set i o) (en.set i none) := by
  refine ⟨by rw [List.length_set, List.length_set]; exact s.len, fun j b h => ?_, s.dom⟩
  by_cases e : i = j
  · subst e
    by_cases hl : i < en.length
    · rw [List.getElem?_set_self hl] at h
      cases h
    · rw [List.getElem?_eq_none (by simpa using hl)] at h
      cases h
  · rw [List.getElem?_set_ne e] at h
    obtain ⟨v, v1, v2⟩ := s.rep j b h
    exact ⟨v, by rw [List.getElem?_set_ne e]; exact v1, v2⟩
theorem slot_some (s : Sta K H ow σ en) {i : Nat} {b : B} (e : en[i]? = some (some b)) : ∃ v, σ[i]? = some (some v) := let ⟨v, h, _⟩ := s.rep i b e; ⟨v, h⟩
end
theorem atI_0v {x y : V} : atI [x, y] 0 = some x := rfl
theorem atI_1v {x y : V} : atI [x, y] 1 = some y := rfl
/-- y = [a, b][e]; y.append(e2): to the one of the two -/
def pickA (iy ia ib : Nat) (me me2 : M D) (en : Env) : Option Env := match en[ia]?, en[ib]? with
  | some (some (.lst _)), some (some (.lst _)) => match me en with
    | some (.int k, en1) => match (if k = 0 then some ia else if k = 1 then some ib else none) with
      | some j => if iy < en1.length ∧ j ≠ iy then (match en1[j]? with
        | some (some (.lst _)) => (match me2 (en1.set iy none) with
          | some (d, en2) => (match en2[j]? with
            | some (some (.lst ds)) => if ds.length < cap then some (en2.set j (some (.lst (ds ++ [d])))) else none
            | _ => none)
          | none => none)
        | _ => none) else none
      | none => none
    | _ => none
  | _, _ => none
def pickApp (iy ia ib : Nat) (me me2 : M D) : Sm := fun en => match pickA iy ia ib me me2 en with
  | some en' => some (.nx en')
  | none => none
section
variable {G : Glob} {cs : Calls} {k : Nat} {Z : Stat} {X : Cx} {pos : Pos}
theorem dss_pick (g : Good G cs k Z X) {y a b : Str} {iy ia ib : Nat} {py pa pb p1 p2 pos2 py2 apos cpos : Pos} {e e2 : Expr} {me me2 : M B} {rest : List Stmt} {mr : Sm}
    (hy : bindSlot Z y = some iy) (hy2 : slotOf Z y = some iy) (ha : slotOf Z a = some ia) (hb : slotOf Z b = some ib) (he : DE X e me) (he2 : DE X e2 me2) (hpl : plainIx e = true) (hs2 : notStar e2 = true) (hline : (apos.endLine == cpos.line) = true) (hk : isFun Z.sc = true)
    (hr : DSs X Z rest mr) :
    DSs X Z (.Assign [.Name y py] (.Subscript (.List [.Name a pa, .Name b pb] p1) e p2) pos :: .Expr (.Call (.Attribute (.Name y py2) "append" apos) [e2] [] cpos) pos2 :: rest) (seqS (pickApp iy ia ib (mD me) (mD me2)) mr) := by
  obtain ⟨y1, y2, y3, y4⟩ := bind_ok g hy
  have s1 : starEach [e2] X.env = (false, eval e2 X.env) :: starEach [] X.env := star_cons hs2
  have h1 : PS X (.Assign [.Name y py] (.Subscript (.List [.Name a pa, .Name b pb] p1) e p2) pos) _ := ps_asg (pe_ix ix_list (pe_lst (pa_cons (peek_var g ha) (pa_cons (peek_var g hb) pa_nil rfl) rfl)) he.d (plainIx_ok hpl)) (pg_name (i := iy) g.nd y1 y2 y3)
    (sole_ok g hk rfl rfl) (swN_ok rfl) (assign_one rfl)
  have h2 : PS X (.Expr (.Call (.Attribute (.Name y py2) "append" apos) [e2] [] cpos) pos2) _ := ps_expr (pe_bm PySem.F.plainAttrs_list PySem.F.slot_list_append PySem.F.type_list_append mt_append (peek_var g hy2) (pa_cons he2.d pa_nil s1) rfl (by rw [s1]; rfl) hline s1 rfl) rfl
  refine PSs.of (pss_cons h1 (pss_cons h2 hr)) fun D σ H ⟨ow, en, s, gg⟩ => ?_
  cases hp : pickA iy ia ib (mD me) (mD me2) en with
  | none =>
    unfold seqS pickApp at gg
    rw [hp] at gg
    exact gg.elim
  | some en' =>
  have gg' : GoS X.K Z.pr σ (mr en') H ow D := by
    unfold seqS pickApp at gg
    rw [hp] at gg
    exact gg
  clear gg
  unfold pickA at hp
  split at hp
  · rename_i da db ea eb
    split at hp
    · rename_i kk en1 hme
      split at hp
      · rename_i j hj
        split at hp
        · rename_i hc
          split at hp
          · rename_i dj hdj
            split at hp
            · rename_i d en2 hm2
              split at hp
              · rename_i ds hds
                split at hp
                · rename_i hcap
                  cases hp
                  obtain ⟨aa, va, a1, a2, a3, a4⟩ := own_at s ea
                  obtain ⟨ab, vb, b1, b2, b3, b4⟩ := own_at s eb
                  refine ⟨.ref aa, a1, .ref ab, b1, (by show (2 : Nat) ≤ sizeLine; rw [sizeLine_eq]; decide), fun p hp => ?_⟩
                  have st := Step.new (o := .lst [.ref aa, .ref ab]) (l := .frm) s.dom hp (fun i k z => by cases z)
                  refine ⟨_, en, st.sta s, _, en1, hme, fun H1 ow1 v x1 s1 r1 => ?_⟩
                  obtain ⟨f1, f2⟩ := x1.frm p setL_same
                  have f3 : H1 p = some (.lst [.ref aa, .ref ab]) := f2.trans upd_same
                  have hv := rp_int r1
                  have pick : ∃ w, atI [V.ref aa, V.ref ab] kk = some w ∧ σ[j]? = some (some w) := by
                    split at hj
                    · cases hj
                      rename_i h0
                      subst h0
                      exact ⟨_, atI_0v, a1⟩
                    · split at hj
                      · cases hj
                        rename_i h0
                        subst h0
                        exact ⟨_, atI_1v, b1⟩
                      · cases hj
                  obtain ⟨w, w1, w2⟩ := pick
                  refine ⟨p, _, kk, w, rfl, hv, SqL.of f3, w1, ?_⟩
                  have s2 := sta_none (i := iy) (o := some w) s1
                  have hlt : iy < σ.length := by rw [← s1.len]; exact hc.1
                  have y5 : (σ.set iy (some w))[iy]? = some (some w) := List.getElem?_set_self hlt
                  have y6 : (σ.set iy (some w))[j]? = some (some w) := by rw [List.getElem?_set_ne (fun z => hc.2 z.symm)]; exact w2
                  obtain ⟨aj, vj, c1, c2, c3, c4⟩ := own_at s1 hdj
                  rw [w2] at c1
                  cases c1
                  refine ⟨.ref aj, y5, .inl ⟨rfl, vj, SqL.of c3⟩, ow1, en1.set iy none, s2, d, en2, hm2, fun H2 ow2 y x2 s3 ry => ?_⟩
                  obtain ⟨a', vs, d1, d2, d3, d4⟩ := own_at s3 hds
                  rw [y6] at d1
                  cases d1
                  have rd : RpAll X.K (Fz H2 ow2) (vs ++ [y]) (ds ++ [d]) := d4.append (.cons ry .nil)
                  obtain ⟨x3, s4⟩ := sta_put s3 hds y6 d2 rd
                  refine ⟨aj, vs, y, rfl, rfl, d3, by rw [d4.length, cap_eq]; exact hcap, ow2, _, s4, ?_⟩
                  exact gg'.mono (((st.ext.trans x1).trans x2).trans x3) ⟨List.length_set .., fun n hn => List.getElem?_set_ne fun z => by rw [z, hn] at y4; cases y4⟩
                · cases hp
              · cases hp
            · cases hp
          · cases hp
        · cases hp
      · cases hp
    · cases hp
  · cases hp
end
/-! ### for y in (a, b): for t in ..: y.append(e) -/
def setN (i : Nat) : Sm := fun en => some (.nx (en.set i none))
/-- first to the one, then to the other -/
def forAB (iy ia ib : Nat) (mi : M (List D)) (t : Tg) (me : M D) : Sm := fun en => match en[ia]?, en[ib]? with
  | some (some (.lst _)), some (some (.lst _)) => if iy ≠ ia ∧ iy ≠ ib ∧ iy < en.length then seqS (forS mi t (appS ia me)) (seqS (setN iy) (forS mi t (appS ib me))) (en.set iy none) else none
  | _, _ => none
def prX (Z : Stat) (is : List Nat) : Stat := { Z with pr := fun n => Z.pr n || is.contains n }
def tSI (K : PySem.W.Frag) (pr : Nat → Bool) (I : L2.St → Prop) (m : Sm) : TS := fun D σ H => ∃ ow en, Sta K H ow σ en ∧ I σ ∧ GoS K pr σ (m en) H ow D
section
variable {G : Glob} {cs : Calls} {k : Nat} {Z : Stat} {X : Cx} {pos : Pos}
theorem good_pr (g : Good G cs k Z X) (is : List Nat) : Good G cs k (prX Z is) X := ⟨g.hN, g.sc, g.fn, g.calm, g.xe, g.nd, g.room, g.free, g.con, g.fns, g.cls, g.mks⟩
theorem ds_forI (g : Good G cs k Z X) {I : L2.St → Prop} {tg iter : Expr} {body : List Stmt} {m : Sm} {mi : M (List D)} {t : Tg} (hI : ∀ σ σ', Kp Z.pr σ σ' → I σ → I σ') (hi : DI X tg iter mi) (ht : DG X Z tg t) (hb : PSs X body (tSI X.K Z.pr I m)) (hs : isSetD iter = false) : PS X (.For tg iter body [] pos) (tSI X.K Z.pr I (forS mi t m)) := by
  refine PS.of (ps_for (hpass g) g.calm hi ht hb (folded_ok hs)) fun D σ H ⟨ow, en, s, iσ, gg⟩ => ?_
  unfold forS at gg
  cases e : mi en with
  | none => rw [e] at gg; exact gg.elim
  | some p =>
    obtain ⟨ds, en1⟩ := p
    rw [e] at gg
    dsimp only at gg
    refine ⟨ow, en, s, ds, en1, e, fun H1 ow1 J x1 s1 hJ => ?_⟩
    refine ⟨fun i m' σ' H' => m' = ds.length - i ∧ i ≤ ds.length ∧ ∃ ow' en', Ext H1 ow1 H' ow' ∧ Kp Z.pr σ σ' ∧ Sta X.K H' ow' σ' en' ∧ GoS X.K Z.pr σ' (loopS t m (ds.drop i) en') H' ow' D, ⟨_, rfl, Nat.zero_le _, ow1, en1, .refl _ _, .refl, s1, gg.mono x1 .refl⟩, ?_⟩
    rintro i m' σ2 H2 ⟨rfl, hi, ow2, en2, x2, k2, s2, g2⟩
    obtain ⟨jy, js⟩ := hJ H2 ow2 x2 s2.dom
    by_cases hlt : i < ds.length
    · have hd : ds[i]? = some ds[i] := List.getElem?_eq_getElem hlt
      obtain ⟨go, yl⟩ := jy i _ hd
      rw [List.drop_eq_getElem_cons hlt] at g2
      refine .inr ⟨go, fun σ' H' => ∃ ow' en', Ext H1 ow1 H' ow' ∧ Kp Z.pr σ σ' ∧ Sta X.K H' ow' σ' en' ∧ GoS X.K Z.pr σ' (loopS t m (ds.drop (i + 1)) en') H' ow' D, fun σ' H' hN => ⟨_, by omega, rfl, by omega, hN⟩, fun x H3 y3 => ?_⟩
      obtain ⟨ow3, st3, rx⟩ := yl x H3 y3
      have s3 := st3.sta s2
      unfold loopS at g2
      cases a1 : t (.val ds[i]) en2 with
      | none => rw [a1] at g2; exact g2.elim
      | some en4 =>
        rw [a1] at g2
        dsimp only at g2
        refine ⟨ow3, en2, .val ds[i], en4, s3, rx, a1, fun H4 ow4 σ4 x4 s4 k4 => ⟨ow4, en4, s4, hI _ _ (k2.trans k4) iσ, ?_⟩⟩
        have x24 : Ext H2 ow2 H4 ow4 := st3.ext.trans x4
        have x14 := x2.trans x24
        have k14 := k2.trans k4
        have g4 := g2.mono x24 k4
        cases b1 : m en4 with
        | none => rw [b1] at g4; exact g4.elim
        | some o =>
          rw [b1] at g4
          cases o with
          | nx en5 => exact fun H5 ow5 σ5 x5 s5 k5 => ⟨ow5, en5, x14.trans x5, k14.trans k5, s5, g4.mono x5 k5⟩
          | ct en5 => exact fun H5 ow5 σ5 x5 s5 k5 => ⟨ow5, en5, x14.trans x5, k14.trans k5, s5, g4.mono x5 k5⟩
          | bk en5 => exact g4
          | rt b en5 => exact g4
    · have ei : i = ds.length := by omega
      subst ei
      rw [List.drop_length] at g2
      exact .inl ⟨js, g2 H2 ow2 σ2 (.refl _ _) s2 .refl⟩
/-- y.append(e), y another name of the slot j -/
theorem ps_appI (g : Good G cs k Z X) {y : Str} {iy j : Nat} {p apos cpos : Pos} {e : Expr} {me : M B} (h : slotOf Z y = some iy) (he : DE X e me) (hs : notStar e = true) (hline : (apos.endLine == cpos.line) = true) :
    PS X (.Expr (.Call (.Attribute (.Name y p) "append" apos) [e] [] cpos) pos) (tSI X.K Z.pr (fun σ => σ[iy]? = σ[j]?) (appS j (mD me))) := by
  have s1 : starEach [e] X.env = (false, eval e X.env) :: starEach [] X.env := star_cons hs
  refine PS.of (ps_expr (pe_bm PySem.F.plainAttrs_list PySem.F.slot_list_append PySem.F.type_list_append mt_append (peek_var g h) (pa_cons he.d pa_nil s1) rfl (by rw [s1]; rfl) hline s1 rfl) rfl) fun D σ H ⟨ow, en, s, iσ, gg⟩ => ?_
  unfold appS at gg
  split at gg
  · rename_i ds0 ed
    obtain ⟨a, vs0, a1, a2, a3, a4⟩ := own_at s ed
    refine ⟨.ref a, iσ.trans a1, .inl ⟨rfl, vs0, SqL.of a3⟩, ow, en, s, ?_⟩
    split at gg
    · rename_i d en1 em
      refine ⟨d, en1, em, fun H1 ow1 y x1 s1 ry => ?_⟩
      split at gg
      · rename_i ds ed2
        split at gg
        · rename_i hc
          obtain ⟨a', vs, b1, b2, b3, b4⟩ := own_at s1 ed2
          rw [a1] at b1
          cases b1
          have rd : RpAll X.K (Fz H1 ow1) (vs ++ [y]) (ds ++ [d]) := b4.append (.cons ry .nil)
          obtain ⟨x2, s2⟩ := sta_put s1 ed2 a1 b2 rd
          exact ⟨a, vs, y, rfl, rfl, b3, by rw [b4.length, cap_eq]; exact hc, gg _ ow1 σ (x1.trans x2) s2 .refl⟩
        · exact gg.elim
      · exact gg.elim
    · exact gg.elim
  · exact gg.elim
theorem GoS.pr {K : PySem.W.Frag} {pr pr' : Nat → Bool} {σ : L2.St} {r : Option Out} {H : Hp} {ow : Ow} {D : Ends} (hp : ∀ n, pr n = true → pr' n = true) (h : GoS K pr σ r H ow D) : GoS K pr' σ r H ow D := by
  have kk : ∀ {σ σ' : L2.St}, Kp pr' σ σ' → Kp pr σ σ' := fun k => ⟨k.len, fun i h => k.eqs i (hp i h)⟩
  cases r with
  | none => exact h
  | some o =>
    cases o with
    | nx en => exact fun H2 ow2 σ2 x2 s2 k2 => h H2 ow2 σ2 x2 s2 (kk k2)
    | bk en => exact fun H2 ow2 σ2 x2 s2 k2 => h H2 ow2 σ2 x2 s2 (kk k2)
    | ct en => exact fun H2 ow2 σ2 x2 s2 k2 => h H2 ow2 σ2 x2 s2 (kk k2)
    | rt b en => exact fun H2 ow2 σ2 v x2 s2 k2 => h H2 ow2 σ2 v x2 s2 (kk k2)
theorem loopS_out {t : Tg} {m : Sm} : ∀ {ds : List D} {en : Env} {o : Out}, loopS t m ds en = some o → (∃ e, o = .nx e) ∨ ∃ b e, o = .rt b e
  | [], en, o, h => by
    cases h
    exact .inl ⟨_, rfl⟩
  | d :: ds, en, o, h => by
    unfold loopS at h
    split at h
    · cases h
    · split at h
      · exact loopS_out h
      · exact loopS_out h
      · cases h
        exact .inl ⟨_, rfl⟩
      · cases h
        exact .inr ⟨_, _, rfl⟩
      · cases h
theorem forS_out {mi : M (List D)} {t : Tg} {m : Sm} {en : Env} {o : Out} (h : forS mi t m en = some o) : (∃ e, o = .nx e) ∨ ∃ b e, o = .rt b e := by
  unfold forS at h
  split at h
  · exact loopS_out h
  · cases h
theorem ds_forAB (g : Good G cs k Z X) {y a b : Str} {iy ia ib : Nat} {py pa pb pt py2 apos cpos pos2 pos3 : Pos} {kt : Nat} {tg iter e : Expr} {mi : M (List D)} {me : M B}
    (hy : bindSlot Z y = some iy) (hy2 : slotOf Z y = some iy) (ha : slotOf Z a = some ia) (hb : slotOf Z b = some ib) (hi : DI X tg iter mi) (he : DE X e me) (hs : notStar e = true) (hline : (apos.endLine == cpos.line) = true) (hset : isSetD iter = false) :
    DS X Z (.For (.Name y py) (.Tuple [.Name a pa, .Name b pb] kt pt) [.For tg iter [.Expr (.Call (.Attribute (.Name y py2) "append" apos) [e] [] cpos) pos3] [] pos2] [] pos) (forAB iy ia ib mi (tgE (prX Z [iy, ia, ib]) 4 tg) (mD me)) := by
  have g' := good_pr g [iy, ia, ib]
  obtain ⟨y1, y2, y3, y4⟩ := bind_ok g hy
  have inner : ∀ j, j = ia ∨ j = ib → PS X (.For tg iter [.Expr (.Call (.Attribute (.Name y py2) "append" apos) [e] [] cpos) pos3] [] pos2) (tSI X.K (prX Z [iy, ia, ib]).pr (fun σ => σ[iy]? = σ[j]?) (forS mi (tgE (prX Z [iy, ia, ib]) 4 tg) (appS j (mD me)))) := fun j hj => by
    refine ds_forI g' (fun σ σ' kp h => ?_) hi (dg_ok g' _ _) (pss_one ?_) hset
    · have p1 : (prX Z [iy, ia, ib]).pr iy = true := by simp [prX]
      have p2 : (prX Z [iy, ia, ib]).pr j = true := by rcases hj with rfl | rfl <;> simp [prX]
      rw [kp.eqs iy p1, kp.eqs j p2]
      exact h
    · exact ps_appI g' (show slotOf (prX Z [iy, ia, ib]) y = some iy from hy2) he hs hline
  have body : PSs X [.For tg iter [.Expr (.Call (.Attribute (.Name y py2) "append" apos) [e] [] cpos) pos3] [] pos2] (fun D σ H => tSI X.K (prX Z [iy, ia, ib]).pr (fun σ => σ[iy]? = σ[ia]?) (forS mi (tgE (prX Z [iy, ia, ib]) 4 tg) (appS ia (mD me))) D σ H ∨ tSI X.K (prX Z [iy, ia, ib]).pr (fun σ => σ[iy]? = σ[ib]?) (forS mi (tgE (prX Z [iy, ia, ib]) 4 tg) (appS ib (mD me))) D σ H) :=
    ⟨fun pins s σ H D I h => h.elim (fun h => (pss_one (inner ia (.inl rfl))).run pins s σ H D I h) fun h => (pss_one (inner ib (.inr rfl))).run pins s σ H D I h⟩
  have wk : ∀ n, Z.pr n = true → (prX Z [iy, ia, ib]).pr n = true := fun n h => by simp [prX, h]
  have kw : ∀ {σ σ' : L2.St}, Kp (prX Z [iy, ia, ib]).pr σ σ' → Kp Z.pr σ σ' := fun k => ⟨k.len, fun i h => k.eqs i (wk i h)⟩
  generalize hLa : forS mi (tgE (prX Z [iy, ia, ib]) 4 tg) (appS ia (mD me)) = La at body
  generalize hLb : forS mi (tgE (prX Z [iy, ia, ib]) 4 tg) (appS ib (mD me)) = Lb at body
  refine PS.of (ps_for (hpass g) g.calm (pi_sq (pe_tup (pa_cons (peek_var g ha) (pa_cons (peek_var g hb) pa_nil rfl) rfl))) (pg_name (i := iy) g.nd y1 y2 y3) body (folded_ok rfl)) fun D σ H ⟨ow, en, s, gg⟩ => ?_
  unfold forAB at gg
  rw [hLa, hLb] at gg
  split at gg
  · rename_i da db ea eb
    split at gg
    · rename_i hc
      obtain ⟨hya, hyb, hlt⟩ := hc
      obtain ⟨aa, va, a1, a2, a3, a4⟩ := own_at s ea
      obtain ⟨ab, vb, b1, b2, b3, b4⟩ := own_at s eb
      refine ⟨.ref aa, a1, .ref ab, b1, (by show (2 : Nat) ≤ sizeLine; rw [sizeLine_eq]; decide), fun p hp => ?_⟩
      have st := Step.new (o := .tup [.ref aa, .ref ab]) (l := .frm) s.dom hp (fun i k z => by cases z)
      have s0 := st.sta s
      have tp : ∀ {H' : Hp} {ow' : Ow}, Ext (upd H p (.tup [.ref aa, .ref ab])) (setL ow p .frm) H' ow' → SqT X.K H' p [.ref aa, .ref ab] := fun {H' ow'} x => .inl (.inl ((x.frm p setL_same).2.trans upd_same))
      refine ⟨p, rfl, .inr ⟨⟨_, tp (.refl _ _)⟩, ?_⟩⟩
      refine ⟨fun i m σ' H' => m = 2 - i ∧ i ≤ 2 ∧ ∃ ow' en', Ext (upd H p (.tup [.ref aa, .ref ab])) (setL ow p .frm) H' ow' ∧ Kp Z.pr σ σ' ∧ σ'[ia]? = σ[ia]? ∧ σ'[ib]? = σ[ib]? ∧ Sta X.K H' ow' σ' en' ∧ iy < en'.length ∧ ((i = 0 ∧ GoS X.K Z.pr σ' (seqS La (seqS (setN iy) Lb) (en'.set iy none)) H' ow' D) ∨ (i = 1 ∧ GoS X.K Z.pr σ' (Lb (en'.set iy none)) H' ow' D) ∨ (i = 2 ∧ GoS X.K Z.pr σ' (some (.nx en')) H' ow' D)),
        ⟨_, rfl, by omega, _, en, .refl _ _, .refl, rfl, rfl, s0, hlt, .inl ⟨rfl, gg.mono st.ext .refl⟩⟩, ?_⟩
      rintro i m σ1 H1 ⟨rfl, hi2, ow1, en1, x1, k1, ka, kb, s1, hl1, hg⟩
      have set1 : ∀ w, Kp Z.pr σ1 (σ1.set iy (some w)) := fun w => ⟨List.length_set .., fun n hn => List.getElem?_set_ne fun z => by rw [z, hn] at y4; cases y4⟩
      have hls : iy < σ1.length := by rw [← s1.len]; exact hl1
      rcases hg with ⟨rfl, g1⟩ | ⟨rfl, g1⟩ | ⟨rfl, g1⟩
      · refine .inr ⟨⟨_, _, tp x1, rfl⟩, fun σ' H' => ∃ ow' en', Ext (upd H p (.tup [.ref aa, .ref ab])) (setL ow p .frm) H' ow' ∧ Kp Z.pr σ σ' ∧ σ'[ia]? = σ[ia]? ∧ σ'[ib]? = σ[ib]? ∧ Sta X.K H' ow' σ' en' ∧ iy < en'.length ∧ GoS X.K Z.pr σ' (Lb (en'.set iy none)) H' ow' D, fun σ' H' ⟨ow', en', h1, h2, h3, h4, h5, h6, h7⟩ => ⟨1, by omega, by omega, by omega, ow', en', h1, h2, h3, h4, h5, h6, .inr (.inl ⟨rfl, h7⟩)⟩, fun x H2 y2 => ?_⟩
        obtain ⟨e2, y2⟩ := y2
        subst e2
        have hx := y2 _ (tp x1)
        have hx : x = .ref aa := by
          have h0 : ([V.ref aa, V.ref ab])[0]? = some x := hx
          simpa using h0.symm
        subst hx
        have s2 := sta_none (i := iy) (o := some (.ref aa)) s1
        refine .inl ⟨ow1, _, s2, ?_, ?_⟩
        · show (σ1.set iy (some (V.ref aa)))[iy]? = (σ1.set iy (some (V.ref aa)))[ia]?
          rw [List.getElem?_set_self hls, List.getElem?_set_ne hya, ka, a1]
        · unfold seqS at g1
          cases hr : La (en1.set iy none) with
          | none => rw [hr] at g1; exact g1.elim
          | some o =>
            rw [hr] at g1
            rcases forS_out (hLa ▸ hr) with ⟨e3, rfl⟩ | ⟨b3, e3, rfl⟩
            · refine fun H3 ow3 σ3 x3 s3 k3 => ?_
              have k13 := k1.trans ((set1 _).trans (kw k3))
              have q1 : σ3[ia]? = σ[ia]? := by
                rw [k3.eqs ia (by simp [prX]), List.getElem?_set_ne hya, ka]
              have q2 : σ3[ib]? = σ[ib]? := by
                rw [k3.eqs ib (by simp [prX]), List.getElem?_set_ne hyb, kb]
              have hl3 : iy < e3.length := by rw [s3.len, k3.len, List.length_set]; exact hls
              refine ⟨ow3, e3, x1.trans x3, k13, q1, q2, s3, hl3, ?_⟩
              have g2 : GoS X.K Z.pr σ1 (Lb (e3.set iy none)) H2 ow1 D := g1
              exact g2.mono x3 ((set1 _).trans (kw k3))
            · exact fun H3 ow3 σ3 v x3 s3 k3 r3 => g1 H3 ow3 σ3 v x3 s3 ((set1 _).trans (kw k3)) r3
      · refine .inr ⟨⟨_, _, tp x1, rfl⟩, fun σ' H' => ∃ ow' en', Ext (upd H p (.tup [.ref aa, .ref ab])) (setL ow p .frm) H' ow' ∧ Kp Z.pr σ σ' ∧ σ'[ia]? = σ[ia]? ∧ σ'[ib]? = σ[ib]? ∧ Sta X.K H' ow' σ' en' ∧ iy < en'.length ∧ GoS X.K Z.pr σ' (some (.nx en')) H' ow' D, fun σ' H' ⟨ow', en', h1, h2, h3, h4, h5, h6, h7⟩ => ⟨0, by omega, by omega, by omega, ow', en', h1, h2, h3, h4, h5, h6, .inr (.inr ⟨rfl, h7⟩)⟩, fun x H2 y2 => ?_⟩
        obtain ⟨e2, y2⟩ := y2
        subst e2
        have hx := y2 _ (tp x1)
        have hx : x = .ref ab := by
          have h0 : ([V.ref aa, V.ref ab])[1]? = some x := hx
          simpa using h0.symm
        subst hx
        have s2 := sta_none (i := iy) (o := some (.ref ab)) s1
        refine .inr ⟨ow1, _, s2, ?_, ?_⟩
        · show (σ1.set iy (some (V.ref ab)))[iy]? = (σ1.set iy (some (V.ref ab)))[ib]?
          rw [List.getElem?_set_self hls, List.getElem?_set_ne hyb, kb, b1]
        · cases hr : Lb (en1.set iy none) with
          | none => rw [hr] at g1; exact g1.elim
          | some o =>
            rw [hr] at g1
            rcases forS_out (hLb ▸ hr) with ⟨e3, rfl⟩ | ⟨b3, e3, rfl⟩
            · refine fun H3 ow3 σ3 x3 s3 k3 => ?_
              have k13 := k1.trans ((set1 _).trans (kw k3))
              have q1 : σ3[ia]? = σ[ia]? := by
                rw [k3.eqs ia (by simp [prX]), List.getElem?_set_ne hya, ka]
              have q2 : σ3[ib]? = σ[ib]? := by
                rw [k3.eqs ib (by simp [prX]), List.getElem?_set_ne hyb, kb]
              have hl3 : iy < e3.length := by rw [s3.len, k3.len, List.length_set]; exact hls
              refine ⟨ow3, e3, x1.trans x3, k13, q1, q2, s3, hl3, ?_⟩
              exact GoS.mono (show GoS X.K Z.pr σ1 (some (.nx e3)) H2 ow1 D from g1) x3 ((set1 _).trans (kw k3))
            · exact fun H3 ow3 σ3 v x3 s3 k3 r3 => g1 H3 ow3 σ3 v x3 s3 ((set1 _).trans (kw k3)) r3
      · exact .inl ⟨⟨_, tp x1, by simp⟩, g1 H1 ow1 σ1 (.refl _ _) s1 .refl⟩
    · exact gg.elim
  · exact gg.elim
end
end DL

namespace DL
open PySem PySem.W PySem.Spec PyProof.Rows L2
/-! ### C(..).m() -/
def recvC (cs : Calls) (c m key : Str) (mk : M B) : M B := fun en => match mk en with
  | some (.ins c' fs, en1) => if c' = c ∧ (fs.lookup m).isNone = true then (match cs key [.ins c' fs] with
    | some (r, _) => some (r, en1)
    | none => none) else none
  | _ => none
section
variable {G : Glob} {cs : Calls} {k : Nat} {Z : Stat} {X : Cx} {pos : Pos}
theorem de_recvC (g : Good G cs k Z X) {o : Expr} {m c key : Str} {apos : Pos} {cd : ClsG} {mk : M B} (hc : G.clsOf c = some cd) (hm : cd.ms.lookup m = some (key, [true])) (hb : ∀ env, attributeBase o m env (eval o env) = eval o env) (hline : (apos.endLine == pos.line) = true) (he : DE X o mk) :
    DE X (.Call (.Attribute o m apos) [] [] pos) (recvC cs c m key mk) := by
  obtain ⟨h1, h2, h3⟩ := g.cls c cd hc
  obtain ⟨fa, fd, ps, F, hM, hB⟩ := h3 m key _ hm
  refine PE.of (pe_meth0 he h1 hM F g.room hB .nil pass0 (meth_eval rfl (by decide) hline (hb _))) fun σ H Q ⟨ow, en, s, b, en', e, q⟩ => ?_
  unfold recvC at e
  cases em : mk en with
  | none => rw [em] at e; cases e
  | some pr =>
    obtain ⟨b0, en1⟩ := pr
    rw [em] at e
    cases b0 <;> first | (cases e; done) | skip
    rename_i c' fs
    dsimp only at e
    split at e
    · rename_i hcl
      obtain ⟨rfl, hl⟩ := hcl
      cases e2 : cs key [.ins c' fs] with
      | none => rw [e2] at e; cases e
      | some pr =>
        obtain ⟨r, bs'⟩ := pr
        rw [e2] at e
        cases e
        refine ⟨ow, en, s, _, _, em, fun H1 ow1 v x1 s1 r1 => ?_⟩
        obtain ⟨a, dx, vs, rfl, g1, g2, g3⟩ := r1
        refine ⟨a, dx, vs, rfl, g2, FsRep.lookN g3 (by simpa using hl), ?_⟩
        have s2 := sta_app s1 (show BRep X.K H1 ow1 none (.ins c' fs) (.ref a) from ⟨a, dx, vs, rfl, g1, g2, g3⟩)
        have rr : RepL (rAσ X.K (σ ++ [some (.ref a)]) H1 (adopt en'.length ow1)) (.io en'.length :: ([] : List B).map Arg.b) [.ref a] := .cons (show (σ ++ [some (V.ref a)])[en'.length]? = some (some (.ref a)) by rw [s1.len, List.getElem?_append_right (Nat.le_refl _)]; simp) .nil
        have hres : resAs (en' ++ [some (B.ins c' fs)]) (.io en'.length :: ([] : List B).map Arg.b) = some [B.ins c' fs] := by
          show (match (match (en' ++ [some (B.ins c' fs)])[en'.length]? with | some (some b) => some b | _ => none) with | some d => some [d] | none => none) = _
          rw [List.getElem?_append_right (Nat.le_refl _)]
          simp
        refine ⟨rfl, _, [.ins c' fs], _, _, sta_ent s2 rr hres (ioOk_io1 []), e2, fun H' ow' v' xe se rv => ?_⟩
        obtain ⟨x4, s4, r4⟩ := sta_aft s2 rr (ioOk_io1 []) xe se rv
        rw [putBack_io1] at s4
        exact q H' _ v' (x1.trans (adopt_ext.trans x4)) (sta_drop s4) r4
    · cases e
end
/-! ### {x1: y1, x2: y2}[e], written texts -/
def dctE (x1 y1 x2 y2 : Str) (me : M D) : M B := bd me fun d => lift (match d with
  | .str z => if z = x1 then some (.val (.str y1)) else if z = x2 then some (.val (.str y2)) else none
  | _ => none)
section
variable {G : Glob} {cs : Calls} {k : Nat} {Z : Stat} {X : Cx} {pos : Pos}
theorem de_dct (g : Good G cs k Z X) {x1 y1 x2 y2 : Str} {j1 j2 j3 j4 : Nat} {p1 p2 p3 p4 dpos : Pos} {e : Expr} {me : M B} (hne : x1 ≠ x2) (hpl : plainIx e = true) (he : DE X e me) :
    DE X (.Subscript (.Dict [some (.Constant (.str x1) j1 p1), some (.Constant (.str x2) j2 p2)] [.Constant (.str y1) j3 p3, .Constant (.str y2) j4 p4] dpos) e pos) (dctE x1 y1 x2 y2 (mD me)) := by
  have hu : X.A.units + 1 < cLine := by have := units_of g; omega
  have disp := pe_disp (X := X) (pos := dpos) (keys := [some (.Constant (.str x1) j1 p1), some (.Constant (.str x2) j2 p2)]) (values := [.Constant (.str y1) j3 p3, .Constant (.str y2) j4 p4]) (pps_cons pe_str pe_str (pps_cons pe_str pe_str pps_nil)) rfl rfl (by simp) (by simp)
  refine PE.of (pe_dget hu disp he.d (plainIx_ok hpl)) fun σ H Q ⟨ow, en, s, gg⟩ => ?_
  intro p hp
  refine ⟨upd_same, [(Sum.inr x1, V.str y1), (Sum.inr x2, V.str y2)], rfl, by simp, ?_⟩
  have emk : mergeK [] [(Sum.inr x1, V.str y1), (Sum.inr x2, V.str y2)] = [((Sum.inr x1 : Key), V.str y1), (Sum.inr x2, V.str y2)] := by
    have h1 : ¬ (Sum.inr x1 : Key) = Sum.inr x2 := fun z => hne (by injection z)
    simp [mergeK, putK, h1]
  have eup : ∀ {o1 o2 : HO}, upd (upd H p o1) p o2 = upd H p o2 := fun {o1 o2} => by
    funext b
    by_cases e : b = p
    · rw [e, upd_same, upd_same]
    · rw [upd_ne e, upd_ne e, upd_ne e]
  rw [emk, eup]
  have st := Step.new (o := .dK [((Sum.inr x1 : Key), V.str y1), (Sum.inr x2, V.str y2)]) (l := .frm) s.dom hp (fun i k z => by cases z)
  refine ⟨_, en, st.sta s, ?_⟩
  obtain ⟨d, en', h1, h2⟩ := (gg.mono st.ext).bind (rep2 := rD X.K)
  refine ⟨d, en', h1, fun H1 ow1 y x1' s1 q1 => ?_⟩
  obtain ⟨ow2, en2, d2, x2', s2, q2, g2⟩ := h2 H1 ow1 y x1' s1 q1
  have f3 : H1 p = some (.dK [((Sum.inr x1 : Key), V.str y1), (Sum.inr x2, V.str y2)]) := (x1'.frm p setL_same).2.trans upd_same
  have lf : ∀ z : Str, lift (some (B.val (.str z))) = (ret (B.val (.str z)) : M B) := fun z => rfl
  split at g2
  · rename_i z
    have hy := rp_str q2
    subst hy
    by_cases e1 : z = x1
    · subst e1
      rw [if_pos rfl, lf] at g2
      refine ⟨p, V.str y1, rfl, ?_, g2.ret_ (.refl _ _) s2 (show Rp X.K _ _ _ from .str _)⟩
      have := DGet.k (k := Sum.inr z) f3
      simpa [valV, kV] using this
    · rw [if_neg e1] at g2
      by_cases e2 : z = x2
      · subst e2
        rw [if_pos rfl, lf] at g2
        refine ⟨p, V.str y2, rfl, ?_, g2.ret_ (.refl _ _) s2 (show Rp X.K _ _ _ from .str _)⟩
        have := DGet.k (k := Sum.inr z) f3
        have h3 : ¬ (Sum.inr x1 : Key) = Sum.inr z := fun q => e1 (by injection q with q; exact q.symm)
        simpa [valV, kV, h3] using this
      · rw [if_neg e2] at g2
        obtain ⟨_, _, q, _⟩ := g2
        cases q
  · obtain ⟨_, _, q, _⟩ := g2
    cases q
end
end DL

namespace DL
open PySem PySem.W PySem.Spec PyProof.Rows L2
/-! ### a text's signs -/
def strD (x : Str) : List D := x.cps.toList.map fun c => .str ⟨#[c]⟩
def seqT : B → M (List D)
  | .val (.str x) => ret (strD x)
  | b => seqB b
theorem rI_str {K : PySem.W.Frag} {H : Hp} {ow : Ow} {x : Str} : rI K H ow (strD x) (Its x) := fun H' ow' e dm => by
  refine ⟨fun i d hd => ?_, by show x.cps.size ≤ (strD x).length; unfold strD; simp⟩
  unfold strD at hd
  rw [List.getElem?_map] at hd
  cases q : x.cps.toList[i]? with
  | none => rw [q] at hd; cases hd
  | some c =>
    rw [q] at hd
    cases hd
    have hc : x.cps[i]? = some c := by simpa using q
    refine ⟨(Array.getElem?_eq_some_iff.mp hc).1, fun v H'' y => ?_⟩
    obtain ⟨rfl, c', h1, rfl⟩ := y
    rw [hc] at h1
    cases h1
    exact ⟨ow', .refl dm, .str _⟩
theorem di_seqT {X : Cx} {tg e : Expr} {m : M B} (h : DE X e m) : DI X tg e (bd m seqT) := by
  refine ⟨fun pins s σ H R I hq => ?_⟩
  obtain ⟨ow, en, st, ds, en', e1, q⟩ := id hq
  unfold bd at e1
  cases em : m en with
  | none => rw [em] at e1; cases e1
  | some p =>
    obtain ⟨b, en1⟩ := p
    rw [em] at e1
    have other : seqT b = seqB b → wpAny (model X.prog X.w) X.A (eval e X.env) _ X.xe s := fun hb => (di_seq (tg := tg) h).run pins s σ H R I ⟨ow, en, st, ds, en', by
      unfold bd
      rw [em]
      dsimp only at e1 ⊢
      rw [← hb]
      exact e1, q⟩
    cases b with
    | val d =>
      cases d with
      | str x =>
        have e2 : (ret (strD x) : M (List D)) en1 = some (ds, en') := e1
        cases e2
        exact (pi_str h).run pins s σ H R I ⟨ow, en, st, _, _, em, fun H1 ow1 v x1 s1 r1 => ⟨x, rp_str r1, q H1 ow1 _ x1 s1 rI_str⟩⟩
      | _ => exact other rfl
    | _ => exact other rfl
/-! enumerate(text) -/
def ItES (x : Str) : It :=
  ⟨fun i _ => i < x.cps.size,
   fun i H v H' => ∃ T c, v = .ref T ∧ H T = none ∧ H' = upd H T (.tup [.int (i : Nat), .str ⟨#[c]⟩]) ∧ x.cps[i]? = some c,
   fun i _ => i = x.cps.size⟩
theorem turn_ES {P : Program} {w : World} {K : PySem.W.Frag} {elts : List Expr} {kk : Nat} {tpos : Pos} {x : Str} {t : Tok} {e it : Addr} (n2 : e ≠ it) :
    Turn P w K (.Tuple elts kk tpos) (ItES x) [e, it] e (fun i h => (∃ old, IsEnum h e it (0 + (i : Int)) old) ∧ h.IsStrIter it (strIterType x) x t i) := by
  have hef : e ∉ [it] := by
    simp only [List.mem_cons, List.not_mem_nil, or_false]
    exact n2
  refine turn_of (by simp) ?_ ?_ ?_ ?_ ?_
  · rintro i h ⟨⟨old, he⟩, h1⟩ d hd
    simp only [List.mem_cons, List.not_mem_nil, or_false] at hd
    rcases hd with rfl | rfl
    · exact ⟨_, he, fun v q => nomatch q⟩
    · obtain ⟨o, e, c, d⟩ := h1
      exact ⟨o, e, fun v z => by rw [d] at z; cases z⟩
  · rintro i h h' ⟨⟨old, he⟩, h1⟩ q
    exact ⟨⟨old, q e (by simp) _ he⟩, let ⟨o, ho, r⟩ := h1; ⟨o, q it (by simp) o ho, r⟩⟩
  · rintro A i s Q E ⟨⟨old, he⟩, h1⟩ h
    exact wpAny_pyIter_enum he h
  · intro X hP hw hK hh i pins s σ H I st hg
    subst hP hw hK
    have D1 := Draws.text (prog := X.prog) (w := X.w) (A := X.A.in1) hh it x t
    have hg' : i < x.cps.size := hg
    refine ⟨_, _, _, _, _, _, WalksT.enumFrom (A := X.A) 0 D1 e n2 hef (by simp), ⟨st.1, st.2⟩, hg', fun d hd => by simpa using hd, ?_, fun h' st' => ⟨st'.1, st'.2⟩⟩
    rintro vals ⟨t, v, ⟨c, u, hc, rfl⟩, rfl⟩
    exact ⟨by show 2 ≤ sizeLine; decide, [.int (i : Nat), .str ⟨#[c]⟩], .cons ⟨t, by rw [Int.zero_add]⟩ (.cons ⟨_, rfl⟩ .nil), fun T hT => ⟨T, _, rfl, hT, rfl, hc⟩⟩
  · intro X hP hw hK hh i pins s σ H I st hg
    subst hP hw hK
    have D1 := Draws.text (prog := X.prog) (w := X.w) (A := X.A.in1) hh it x t
    have hg' : i = x.cps.size := hg
    subst hg'
    exact ⟨_, _, _, _, _, WalksT.enumFrom (A := X.A) 0 D1 e n2 hef (by simp), ⟨st.1, st.2⟩, fun d hd => by simpa using hd⟩
def enumT : List D → M (List D)
  | [.str x] => ret (enumD (strD x))
  | ds => enumM ds
theorem rI_enumS {K : PySem.W.Frag} {H : Hp} {ow : Ow} {x : Str} : rI K H ow (enumD (strD x)) (ItES x) := fun H' ow' e dm => by
  refine ⟨fun i d hd => ?_, by show (enumD (strD x)).length = x.cps.size; unfold enumD strD; simp⟩
  unfold enumD at hd
  rw [List.getElem?_mapIdx] at hd
  unfold strD at hd
  rw [List.getElem?_map] at hd
  cases q : x.cps.toList[i]? with
  | none => rw [q] at hd; cases hd
  | some c =>
    rw [q] at hd
    cases hd
    have hc : x.cps[i]? = some c := by simpa using q
    refine ⟨(Array.getElem?_eq_some_iff.mp hc).1, fun v H'' y => ?_⟩
    obtain ⟨T, c', rfl, hT, rfl, h1⟩ := y
    rw [hc] at h1
    cases h1
    have st := Step.new (o := .tup [.int (i : Nat), .str ⟨#[c]⟩]) (l := .frz) dm hT (fun i k z => by cases z)
    exact ⟨_, st, .tup (.inl (.inl ((res_at setL_same).trans upd_same))) (.cons (.int _) (.cons (.str _) .nil))⟩
def iES (K : PySem.W.Frag) (ta : TA) : TI := fun σ H R => ta σ H fun vs H1 => ∃ x, vs = [.str x] ∧ R (ItES x) H1
theorem pi_enumS {X : Cx} {elts : List Expr} {kk : Nat} {tpos p pos : Pos} {e : Expr} {ta : TA} (hg : Gl X "enumerate") (hm : X.mg "enumerate" = none) (ha : PA X [e] ta) (hs : starEach [e] X.env = [(false, eval e X.env)]) :
    PI X (.Tuple elts kk tpos) (.Call (.Name "enumerate" p) [e] [] pos) (iES X.K ta) := by
  refine ⟨fun pins s σ H R I h => ?_⟩
  refine Call_ (ld_blt I hg hm boot_enumerate (PyProof.Rows.callWith_type1 (thn (ha.run pos pins s σ H _ I h) fun us s1 ⟨vs, H1, I1, r1, q1⟩ => ?_) hs rfl))
  obtain ⟨x, ex, q⟩ := q1
  subst ex
  cases r1 with
  | cons r rr =>
    cases rr
    obtain ⟨t, rfl⟩ := r
    refine enum_begins1 (begins_text x t) trivial fun h' he h1 hsz hk => wpAny_pyIter_enum he ?_
    have I2 : L2.Inv X pins σ H1 { s1 with heap := h' } := I1.kept (t' := s1.toks) hk
    refine ⟨s1.heap.objs.size + 1, [s1.heap.objs.size + 1, s1.heap.objs.size], _, _, H1, rfl, I2, turn_ES (t := t) (Nat.succ_ne_self _), ⟨⟨.none, he⟩, ⟨_, h1, rfl, rfl⟩⟩, fun b hb => ?_, q⟩
    have e' : b = s1.heap.objs.size + 1 ∨ b = s1.heap.objs.size := by simpa using hb
    have hle : s1.heap.objs.size ≤ b := by
      rcases e' with z | z
      · rw [z]; exact Nat.le_add_right _ _
      · rw [z]; exact Nat.le_refl _
    exact I1.fpOk hle (I1.hok.fresh hle)
theorem di_enumT {X : Cx} {elts : List Expr} {kk : Nat} {tpos p pos : Pos} {e : Expr} {m : M (List D)} (hg : Gl X "enumerate") (hm : X.mg "enumerate" = none) (ha : DA X [e] m) (hs : starEach [e] X.env = [(false, eval e X.env)]) :
    DI X (.Tuple elts kk tpos) (.Call (.Name "enumerate" p) [e] [] pos) (bd m enumT) := by
  refine ⟨fun pins s σ H R I hq => ?_⟩
  obtain ⟨ow, en, st, ds, en', e1, q⟩ := id hq
  unfold bd at e1
  cases em : m en with
  | none => rw [em] at e1; cases e1
  | some p =>
    obtain ⟨b, en1⟩ := p
    rw [em] at e1
    have other : enumT b = enumM b → wpAny (model X.prog X.w) X.A (eval (.Call (.Name "enumerate" p) [e] [] pos) X.env) _ X.xe s := fun hb => (di_enum1 (elts := elts) (kk := kk) (tpos := tpos) (p := p) (pos := pos) hg hm ha hs).run pins s σ H R I ⟨ow, en, st, ds, en', by
      unfold bd
      rw [em]
      dsimp only at e1 ⊢
      rw [← hb]
      exact e1, q⟩
    match b, em, e1, other with
    | [], _, _, other => exact other rfl
    | x :: y :: z, _, _, other => exact other (by unfold enumT; cases x <;> rfl)
    | [d], em, e1, other =>
      cases d with
      | str x =>
        have e2 : (ret (enumD (strD x)) : M (List D)) en1 = some (ds, en') := e1
        cases e2
        refine (pi_enumS hg hm ha hs).run pins s σ H R I ⟨ow, en, st, _, _, em, fun H1 ow1 v x1 s1 r1 => ?_⟩
        cases r1 with
        | cons r rr =>
          cases rr
          exact ⟨x, by rw [rp_str r], q H1 ow1 _ x1 s1 rI_enumS⟩
      | _ => exact other rfl
end DL

namespace DL
open PySem PySem.W PySem.Spec PyProof.Rows L2
section
variable {G : Glob} {cs : Calls} {k : Nat} {Z : Stat} {X : Cx}
/-- two plain names stored from the right -/
theorem ds_par (g : Good G cs k Z X) {x y : Str} {i j : Nat} {px py pt pos pt2 : Pos} {kt k2 : Nat} {a b : Expr} {ma mb : M B} (hx : bindSlot Z x = some i) (hy : bindSlot Z y = some j) (hij : (i == j) = false) (hk : isFun Z.sc = true)
    (lx : Z.sc.names.lookup x = some .local) (ly : Z.sc.names.lookup y = some .local)
    (hw : swS Z.sc [.Name x px, .Name y py] [a, b] = some (some [x, y])) (h1 : notStar a = true) (h2 : notStar b = true) (ha : DE X a ma) (hb : DE X b mb) :
    DS X Z (.Assign [.Tuple [.Name x px, .Name y py] kt pt] (.Tuple [a, b] k2 pt2) pos) (parS i j (seqM [mD ma, mD mb])) := by
  obtain ⟨x1, x2, x3, x4⟩ := bind_ok g hx
  obtain ⟨y1, y2, y3, y4⟩ := bind_ok g hy
  have hij : i ≠ j := by simpa using hij
  have pa : PA X [a, b] (tMl X.K (rDσ X.K) (seqM ([(a, mD ma), (b, mD mb)].map (·.2)))) := by
    have := pa_seq (X := X) (rep := rDσ X.K) stable_D (f := fun e => mD ma) (es := []) rfl (by simp)
    have hb1 : PA X [b] (tMl X.K (rDσ X.K) (seqM [mD mb])) := pa_seq (X := X) (rep := rDσ X.K) stable_D (f := fun e => mD mb) (es := [b]) (by simp [h2]) (fun e he => by simp at he; subst he; exact hb.d)
    refine PA.of (pa_cons ha.d hb1 (star_cons h1)) fun σ H Q ⟨ow, en, s, g⟩ => ⟨ow, en, s, ?_⟩
    obtain ⟨a, en', h1, h2⟩ := (show Go X.K _ σ (bd (mD ma) (fun a => bd (seqM [mD mb]) fun as => ret (a :: as)) en) H ow Q from g).bind (rep2 := rD X.K)
    refine ⟨a, en', h1, fun H1 ow1 x x1 s1 q1 => ?_⟩
    obtain ⟨ow1', en1, a1, x2, s2, q2, g2⟩ := h2 H1 ow1 x x1 s1 q1
    refine ⟨ow1', en1, s2, ?_⟩
    obtain ⟨as, en2, h3, h4⟩ := g2.bind (rep2 := fun H ow as vs => RepL (rDσ X.K σ H ow) as vs)
    refine ⟨as, en2, h3, fun H3 ow3 xs x3 s3 q3 => ?_⟩
    obtain ⟨ow3', en3, as3, x4, s4, q4, g4⟩ := h4 H3 ow3 xs x3 s3 q3
    exact g4.ret_ (.refl _ _) s4 (.cons (Rp.mono x4.fz q2) q4)
  refine PS.of (ps_par g.calm g.nd x1 y1 hij (by rw [g.sc]; exact lx) (by rw [g.sc]; exact ly) pa (swS_ok (by rw [g.sc]; exact hk) (by rw [g.sc]; exact hw)) rfl) fun D σ H ⟨ow, en, s, gg⟩ => ⟨ow, en, s, ?_⟩
  unfold parS at gg
  split at gg
  · rename_i d1 d2 en1 e1
    split at gg
    · rename_i hl
      refine ⟨[d1, d2], en1, e1, fun H1 ow1 vs x1 s1 q1 => ?_⟩
      cases q1 with
      | cons q1 r1 =>
        cases r1 with
        | cons q2 r2 =>
          cases r2
          refine ⟨_, _, rfl, ?_⟩
          have t1 := sta_set (i := i) (b := .val d1) s1 q1 hl.1
          have xe : Ext H1 ow1 H1 (adopt i ow1) := adopt_ext
          have t2 := sta_set (i := j) (b := .val d2) t1 (show BRep X.K H1 (adopt i ow1) none (.val d2) _ from Rp.mono xe.fz q2) (by rw [List.length_set]; exact hl.2)
          refine gg _ _ _ ((x1.trans xe).trans adopt_ext) t2 ⟨by rw [List.length_set, List.length_set], fun n hn => ?_⟩
          exact (List.getElem?_set_ne (fun z => by rw [z, hn] at y4; cases y4)).trans (List.getElem?_set_ne (fun z => by rw [z, hn] at x4; cases x4))
    · exact gg.elim
  · exact gg.elim
end
/-! ### the reckoning of a text -/
structure Den where
  E : Stat → Expr → M B
  T : Stat → Expr → M Bool
  I : Stat → Expr → Expr → M (List D)
  S : Stat → Stmt → Sm
def Den.none : Den := ⟨fun _ _ => stuck, fun _ _ => stuck, fun _ _ _ => stuck, fun _ _ => stuckS⟩
section
variable (G : Glob) (cs : Calls) (d : Den)
def okB (Z : Stat) (x : Str) : Bool := isGlob Z x && G.free.contains x
/-- x(reversed(e)) -/
def revArg (Z : Stat) : Expr → Option Expr
  | .Call (.Name y _) [e] [] _ => if (y == "reversed" && okB G Z y && notStar e) = true then some e else none
  | _ => none
def isaD (Z : Stat) (x : Str) (es : List Expr) : Option (M B) := if x = "isinstance" then (match es with
    | [e, .Name y _] => (match okB G Z x && okB G Z y && notStar e, isTyN y with
      | true, some T => some (isaE [T] (peekM Z e (d.E Z e)))
      | _, _ => some stuck)
    | [e, .Tuple [.Name y _, .Name z _] _ _] => (match okB G Z x && okB G Z y && okB G Z z && notStar e, isTyN y, isTyN z with
      | true, some T, some U => some (isaE [T, U] (peekM Z e (d.E Z e)))
      | _, _, _ => some stuck)
    | _ => some stuck) else none
/-- C(..) -/
def mkD (Z : Stat) (x : Str) (es : List Expr) : Option (M B) := match G.clsOf x with
  | some cd => (match cd.ms.lookup ("__init__" : Str) with
    | some (_, true :: ios) => if (isGlob Z x && noIo ios && ios.length == es.length && es.all notStar) = true then some (bd (seqM (argsL Z (d.E Z) ios es)) fun as => callE (cs x) as) else none
    | _ => none)
  | none => none
def isNameE : Expr → Bool
  | .Name .. => true
  | _ => false
/-- f(e), f writes what it is given -/
def fn1D (Z : Stat) (x : Str) (es : List Expr) : Option (M B) := match es, G.fns.lookup x with
  | [e], some [true] => if (isGlob Z x && notStar e && !isNameE e) = true then some (callN cs x (d.E Z e)) else none
  | _, _ => none
def callB (Z : Stat) (x : Str) (es : List Expr) : M B := match BI.of x with
  | some b => match okB G Z x && es.all notStar && !es.isEmpty with
    | true => match (match b with
      | .tuple => (match es with
        | [e] => (revArg G Z e).map fun e => revC true (d.E Z e)
        | _ => none)
      | .list => (match es with
        | [e] => (revArg G Z e).map fun e => revC false (d.E Z e)
        | _ => none)
      | _ => none) with
      | some m => m
      | none => biE Z (d.E Z) b.sem es
    | false => stuck
  | none => (match mkD G cs d Z x es with
    | some m => m
    | none => (match fn1D G cs d Z x es with
      | some m => m
      | none => fnE G cs Z (d.E Z) x es))
def callD (Z : Stat) (x : Str) (es : List Expr) : M B := match isaD G d Z x es with
  | some m => m
  | none => callB G cs d Z x es
def lcD (Z : Stat) (elt : Expr) (gs : List Comprehension) (scope : Scope) : M B := match gs with
  | [⟨tg, iter, ifs, 0⟩] => match blkC Z.N Z.sc scope (ownOf Z.N scope) && !isSetD iter with
    | true => lcE (vsOf Z.N scope) (d.I Z tg iter) (tgE (blkZ Z scope) 4 tg) (ifsM (d.T (blkZ Z scope)) ifs) (mD (d.E (blkZ Z scope) elt))
    | false => stuck
  | _ => stuck
def cmpD (Z : Stat) (a : Expr) (ops : List CmpOp) (bs : List Expr) : M B := match ops, bs with
  | [op], [b] => (match notSet b with
    | true => cmpE op (peekM Z a (d.E Z a)) (peekM Z b (d.E Z b))
    | false => stuck)
  | [op, op'], [b, c] => (match plainOp op' with
    | true => chainE op op' (mD (d.E Z a)) (mD (d.E Z b)) (mD (d.E Z c))
    | false => stuck)
  | _, _ => stuck
/-- max(e, default=e2), min(..) -/
def dflD (Z : Stat) (x : Str) (es : List Expr) (kw : Str) (e2 : Expr) : M B := match es with
  | [e] => if okB G Z x = true ∧ notStar e = true ∧ kw = "default" then (if x = "max" then dflE maxDS (peekM Z e (d.E Z e)) (peekM Z e2 (d.E Z e2)) else if x = "min" then dflE minDS (peekM Z e (d.E Z e)) (peekM Z e2 (d.E Z e2)) else stuck) else stuck
  | _ => stuck
/-- o.m(..) of an own instance -/
def omD (Z : Stat) (o : Expr) (m : Str) (es : List Expr) (l : Bool) : Option (M B) := match o with
  | .Name x _ => (match slotOf Z x with
    | some i => (match Z.cls i with
      | some c => (match G.clsOf c with
        | some cd => (match cd.ms.lookup m with
          | some (key, true :: ios) => if (ios.length == es.length && es.all notStar && decide (es.length < 30) && l) = true then some (methC cs c m key i (argsL Z (d.E Z) ios es)) else none
          | _ => none)
        | none => none)
      | none => none)
    | none => none)
  | _ => none
/-- C(..).m() -/
def recvD (Z : Stat) (o : Expr) (m : Str) (es : List Expr) (l : Bool) : Option (M B) := match o, es with
  | .Call (.Name c _) (_ :: _) [] _, [] => (match G.clsOf c with
    | some cd => (match cd.ms.lookup m with
      | some (key, [true]) => if l = true then some (recvC cs c m key (d.E Z o)) else none
      | _ => none)
    | none => none)
  | _, _ => none
/-- {x1: y1, x2: y2}[e] -/
def dctD (Z : Stat) (a b : Expr) : Option (M B) := match a with
  | .Dict [some (.Constant (.str x1) _ _), some (.Constant (.str x2) _ _)] [.Constant (.str y1) _ _, .Constant (.str y2) _ _] _ => if x1 ≠ x2 ∧ plainIx b = true then some (dctE x1 y1 x2 y2 (mD (d.E Z b))) else none
  | _ => none
/-- o.f of an own instance -/
def fldD (Z : Stat) (o : Expr) (f : Str) : M B := match o with
  | .Name x _ => (match slotOf Z x with
    | some i => (match Z.cls i with
      | some c => (match G.clsOf c with
        | some cd => (match cd.flds.contains f with
          | true => fldC c i f
          | false => stuck)
        | none => stuck)
      | none => stuck)
    | none => stuck)
  | _ => stuck
/-- o.f = e -/
def fasD (Z : Stat) (o : Expr) (f : Str) (m : M B) : Sm := match o with
  | .Name x _ => (match slotOf Z x with
    | some i => (match Z.cls i with
      | some c => (match G.clsOf c with
        | some cd => (match cd.flds.contains f with
          | true => fstC c i f (mD m)
          | false => stuckS)
        | none => stuckS)
      | none => stuckS)
    | none => stuckS)
  | _ => stuckS
/-- x.index(e) -/
def methD (Z : Stat) (o : Expr) (m : Str) (es : List Expr) (l : Bool) : M B := match o, es with
  | .Name x _, [e] => (match slotOf Z x with
    | some i => if m = "index" ∧ notStar e = true ∧ l = true then idxE i (mD (d.E Z e)) else if m = "pop" ∧ notStar e = true ∧ l = true then popE i (mD (d.E Z e)) else if m = "count" ∧ notStar e = true ∧ l = true then cntE i (mD (d.E Z e)) else stuck
    | none => stuck)
  | _, _ => stuck
def stepE (Z : Stat) (e : Expr) : M B := match e with
  | .Name x _ => nameE G Z x
  | .Constant c _ _ => constE c
  | .Tuple es _ _ => (match es.all notStar with
    | true => bd (seqM (es.map fun e => mD (d.E Z e))) fun ds => lift (tupD ds)
    | false => stuck)
  | .List es _ => (match es.all notStar with
    | true => bd (seqM (es.map fun e => mD (d.E Z e))) fun ds => lift (lstD ds)
    | false => stuck)
  | .BinOp a op b _ => bin2 (mD (d.E Z a)) (mD (d.E Z b)) fun x y => lift (opS op [x, y])
  | .UnaryOp op a _ => (match op with
    | .USub => negE (mD (d.E Z a))
    | .Not => notE (tb (d.E Z a))
    | _ => stuck)
  | .Compare a ops bs _ => cmpD d Z a ops bs
  | .BoolOp op es _ => (match es with
    | [] => stuck
    | _ :: _ => (match op with
      | .And => andE (es.map (d.E Z))
      | .Or => orE (es.map (d.E Z))))
  | .IfExp c a b _ => iteE (d.T Z c) (d.E Z a) (d.E Z b)
  | .Subscript a b _ => (match dctD d Z a b with
    | some m => m
    | none => (match b with
      | .Slice none none (some (.UnaryOp .USub (.Constant (.int 1) _ _) _)) _ => revE (peekM Z a (d.E Z a))
      | .Slice lo hi none _ => slE (peekM Z a (d.E Z a)) (partM (lo.map (d.E Z))) (partM (hi.map (d.E Z)))
      | _ => (match plainIx b with
        | true => ixE (peekM Z a (d.E Z a)) (peekM Z b (d.E Z b))
        | false => stuck)))
  | .ListComp elt gs scope _ => lcD d Z elt gs scope
  | .Call f es ks cpos => (match f, ks with
    | .Name x _, [] => callD G cs d Z x es
    | .Name x _, [⟨some kw, e2, _⟩] => dflD G d Z x es kw e2
    | .Attribute o m apos, [] => (match omD G cs d Z o m es (apos.endLine == cpos.line) with
      | some r => r
      | none => (match recvD G cs d Z o m es (apos.endLine == cpos.line) with
        | some r => r
        | none => methD d Z o m es (apos.endLine == cpos.line)))
    | _, _ => stuck)
  | .Attribute o f _ => fldD G Z o f
  | _ => stuck
def stepT (Z : Stat) (e : Expr) : M Bool := match e with
  | .Compare a ops bs _ => tb (cmpD d Z a ops bs)
  | .BoolOp op es _ => (match es with
    | [] => stuck
    | _ :: _ => (match op with
      | .And => andT (es.map (d.T Z))
      | .Or => orT (es.map (d.T Z))))
  | .UnaryOp op a _ => (match op with
    | .Not => notT (d.T Z a)
    | _ => stuck)
  | _ => (match truKind e with
    | true => truE (d.E Z e)
    | false => stuck)
def isTupE : Expr → Bool
  | .Tuple .. => true
  | _ => false
def isStrictK : List Keyword → Option Bool
  | [] => some false
  | [⟨some x, .Constant (.bool true) _ _, _⟩] => if x = "strict" then some true else none
  | _ => none
def isLaxK : List Keyword → Bool
  | [] => true
  | [⟨some x, .Constant (.bool false) _ _, _⟩] => decide (x = "strict")
  | _ => false
def iterD (Z : Stat) (tg : Expr) (x : Str) (es : List Expr) (ks : List Keyword) : Option (M (List D)) := match okB G Z x && es.all notStar with
  | false => none
  | true =>
    if x = "range" then (match es, ks with
      | [a], [] => some (bd (seqM [mD (d.E Z a)]) rangeM1)
      | [a, b], [] => some (bd (seqM [mD (d.E Z a), mD (d.E Z b)]) rangeM2)
      | _, _ => some stuck)
    else if x = "zip" then (match isTupE tg, es with
      | true, [a, b] => (match isStrictK ks with
        | some s => some (bd (seqM [mD (d.E Z a), mD (d.E Z b)]) (zipM s))
        | none => some stuck)
      | true, [a, b, c] => (match isLaxK ks with
        | true => some (bd (seqM [mD (d.E Z a), mD (d.E Z b), mD (d.E Z c)]) zip3M)
        | false => some stuck)
      | _, _ => some stuck)
    else if x = "enumerate" then (match isTupE tg, es, ks with
      | true, [a], [] => some (bd (seqM [mD (d.E Z a)]) enumT)
      | _, _, _ => some stuck)
    else if x = "reversed" then (match es, ks with
      | [a], [] => some (bd (d.E Z a) fun b => bd (seqB b) fun ds => ret ds.reverse)
      | _, _ => some stuck)
    else none
def stepI (Z : Stat) (tg e : Expr) : M (List D) := match (match e with
  | .Call (.Name x _) es ks _ => iterD G d Z tg x es ks
  | _ => none) with
  | some m => m
  | none => bd (d.E Z e) seqT
def appD (Z : Stat) (o : Expr) (m : Str) (es : List Expr) (ks : List Keyword) (l : Bool) : Option Sm := match o, es, ks with
  | .Name x _, [e], [] => if (m == "append" && notStar e && l) = true then (match slotOf Z x with
    | some i => some (appS i (mD (d.E Z e)))
    | none => none) else if (m == "extend" && notStar e && l) = true then (match slotOf Z x with
    | some i => some (extS i (mD (d.E Z e)))
    | none => none) else none
  | .Name x _, [e1, e2], [] => if (m == "insert" && notStar e1 && notStar e2 && l) = true then (match slotOf Z x with
    | some i => some (insS i (mD (d.E Z e1)) (mD (d.E Z e2)))
    | none => none) else none
  | _, _, _ => none
def exprD (Z : Stat) (e : Expr) : Sm := match e with
  | .Constant c _ _ => (match c with
    | .str _ => nextS
    | _ => stuckS)
  | .Call f es ks cpos => (match f with
    | .Attribute o m apos => (match appD d Z o m es ks (apos.endLine == cpos.line) with
      | some s => s
      | none => dropS (d.E Z e))
    | .Name .. => dropS (d.E Z e)
    | _ => stuckS)
  | _ => stuckS
def cellEs (Z : Stat) (is : List Nat) (vs : List Expr) : List (Expr × M B) := List.zipWith (fun v i => (v, kM (Z.own i) (d.E Z v))) vs is
def asgD (Z : Stat) (tg v : Expr) : Sm := match isFun Z.sc && notStar tg && noComp v with
  | false => stuckS
  | true => match swB Z.sc v tg with
    | true => (match tg, v with
      | .Name y _, .ListComp elt gs scope _ => (match bindSlot Z y with
        | some i => asgS (setE i) (lcD d Z elt gs scope)
        | none => stuckS)
      | _, _ => stuckS)
    | false => (match swN tg v with
      | true => (match tg with
        | .Subscript (.Name x _) i _ => (match slotOf Z x, plainIx i with
          | some n, true => asgS (subT n (mD (d.E Z i))) (d.E Z v)
          | _, _ => stuckS)
        | .Attribute o f _ => fasD G Z o f (d.E Z v)
        | _ => asgS (tgE Z 4 tg) (d.E Z v))
      | false => (match tg, v with
        | .Tuple ts _ _, .Tuple vs _ _ => (match swS Z.sc ts vs with
          | some (some [x, y]) => (match ts, vs with
            | [.Name x' _, .Name y' _], [a, b] => if (x' == x && y' == y && notStar a && notStar b) = true then (match bindSlot Z x, bindSlot Z y with
              | some i, some j => if i = j then stuckS else
                if Z.sc.names.lookup x = some .local ∧ Z.sc.names.lookup y = some .local then (match Z.own i || Z.own j with
                  | true => parO2 i j (seqM [kM (Z.own i) (d.E Z a), kM (Z.own j) (d.E Z b)])
                  | false => parS i j (seqM [mD (d.E Z a), mD (d.E Z b)])) else stuckS
              | _, _ => stuckS) else stuckS
            | _, _ => stuckS)
          | some none => (match bindsOf Z ts with
            | some is => (match is.any Z.own && (vs.length == is.length) && vs.all notStar && decide (vs.length ≤ cap) with
              | true => asgO is (seqM ((cellEs d Z is vs).map (·.2)))
              | false => asgS (tgE Z 4 tg) (d.E Z v))
            | none => asgS (tgE Z 4 tg) (d.E Z v))
          | some (some [x, y, z]) => (match ts, vs with
            | [.Name x' _, .Name y' _, .Name z' _], [a, b, c] => if (x' == x && y' == y && z' == z && [a, b, c].all notStar) = true then (match bindSlot Z x, bindSlot Z y, bindSlot Z z with
              | some i, some j, some l => if i = j ∨ i = l ∨ j = l then stuckS else
                if Z.sc.names.lookup x = some .local ∧ Z.sc.names.lookup y = some .local ∧ Z.sc.names.lookup z = some .local then (match Z.own i || Z.own j || Z.own l with
                  | true => parO3 i j l (seqM [kM (Z.own i) (d.E Z a), kM (Z.own j) (d.E Z b), kM (Z.own l) (d.E Z c)])
                  | false => parS3 i j l (seqM ([a, b, c].map fun e => mD (d.E Z e)))) else stuckS
              | _, _, _ => stuckS) else stuckS
            | _, _ => stuckS)
          | _ => stuckS)
        | _, _ => stuckS))
/-- a name's list that is not its own to be written -/
def asgFz (Z : Stat) (tg : Expr) (m : Sm) : Sm := match tg with
  | .Name x _ => (match bindSlot Z x with
    | some i => (match Z.own i with
      | true => m
      | false => frzS i m)
    | none => m)
  | _ => m
/-- for y in (a, b): for t in ..: y.append(e) -/
def aliasB (Z : Stat) (tg iter : Expr) (body : List Stmt) : Option Sm := match tg, iter, body with
  | .Name y _, .Tuple [.Name a _, .Name b _] _ _, [.For tg2 iter2 [.Expr (.Call (.Attribute (.Name y2 _) m apos) [e] [] cpos) _] [] _] =>
    if (y2 == y && m == "append" && notStar e && (apos.endLine == cpos.line) && !isSetD iter2) = true then (match bindSlot Z y, slotOf Z y, slotOf Z a, slotOf Z b with
      | some iy, some iy2, some ia, some ib => if iy = iy2 ∧ (Z.own ia && Z.own ib) = true then some (forAB iy ia ib (d.I Z tg2 iter2) (tgE (prX Z [iy, ia, ib]) 4 tg2) (mD (d.E Z e))) else none
      | _, _, _, _ => none) else none
  | _, _, _ => none
/-- y = [a, b][e]; y.append(e2); .. -/
def aliasA (Z : Stat) (body : List Stmt) : Option (Sm × List Stmt) := match body with
  | .Assign [.Name y _] (.Subscript (.List [.Name a _, .Name b _] _) e _) _ :: .Expr (.Call (.Attribute (.Name y2 _) m apos) [e2] [] cpos) _ :: rest =>
    if (y2 == y && m == "append" && notStar e2 && (apos.endLine == cpos.line) && plainIx e && isFun Z.sc) = true then (match bindSlot Z y, slotOf Z y, slotOf Z a, slotOf Z b with
      | some iy, some iy2, some ia, some ib => if iy = iy2 ∧ (Z.own ia && Z.own ib) = true then some (pickApp iy ia ib (mD (d.E Z e)) (mD (d.E Z e2)), rest) else none
      | _, _, _, _ => none) else none
  | _ => none
def bodyD (Z : Stat) (body : List Stmt) : Sm := match aliasA d Z body with
  | some (m, rest) => seqS m (seqsS (rest.map (d.S Z)))
  | none => seqsS (body.map (d.S Z))
noncomputable def stepS (Z : Stat) (st : Stmt) : Sm := match st with
  | .Expr e _ => exprD d Z e
  | .Pass _ => nextS
  | .Break _ => fun en => some (.bk en)
  | .Continue _ => fun en => some (.ct en)
  | .Return v _ => (match v with
    | some e => (match e with
      | .Name x _ => (match slotOf Z x with
        | some i => (match Z.pr i with
          | true => retS (d.E Z e)
          | false => retV i)
        | none => retS (d.E Z e))
      | _ => retS (d.E Z e))
    | none => retS (ret (.val .none)))
  | .Assign ts v _ => (match ts with
    | [tg] => asgFz Z tg (asgD G d Z tg v)
    | _ => stuckS)
  | .AugAssign t op e _ => (match t with
    | .Name x _ => (match bindSlot Z x, augOp op with
      | some i, some _ => augS i op (mD (d.E Z e))
      | _, _ => stuckS)
    | _ => stuckS)
  | .If c a b _ => ifS (d.T Z c) (seqsS (a.map (d.S Z))) (seqsS (b.map (d.S Z)))
  | .For tg iter body orelse _ => (match orelse, isSetD iter with
    | [], false => (match aliasB d Z tg iter body with
      | some m => m
      | none => forS (d.I Z tg iter) (tgE Z 4 tg) (bodyD d Z body))
    | _, _ => stuckS)
  | .While c body orelse _ => (match orelse with
    | [] => whileS (d.T Z c) (seqsS (body.map (d.S Z)))
    | _ => stuckS)
  | _ => stuckS
noncomputable def step : Den := ⟨stepE G cs d, stepT d, stepI G d, stepS G d⟩
noncomputable def den : Nat → Den
  | 0 => .none
  | n + 1 => step G cs (den n)
end
structure DenOk (G : Glob) (cs : Calls) (k : Nat) (d : Den) : Prop where
  E : ∀ Z X, Good G cs k Z X → ∀ e, DE X e (d.E Z e)
  T : ∀ Z X, Good G cs k Z X → ∀ e, DT X e (d.T Z e)
  I : ∀ Z X, Good G cs k Z X → ∀ tg e, DI X tg e (d.I Z tg e)
  S : ∀ Z X, Good G cs k Z X → ∀ st, DS X Z st (d.S Z st)
theorem ok_none {G : Glob} {cs : Calls} {k : Nat} : DenOk G cs k .none := ⟨fun _ _ _ _ => de_stuck, fun _ _ _ _ => dt_stuck, fun _ _ _ _ _ => di_stuck, fun _ _ _ _ => ds_stuck⟩
section
variable {G : Glob} {cs : Calls} {k : Nat} {d : Den} {Z : Stat} {X : Cx}
theorem okB_ok (g : Good G cs k Z X) {x : Str} (h : okB G Z x = true) : isGlob Z x = true ∧ Gl X x ∧ X.mg x = none := by
  unfold okB at h
  rw [Bool.and_eq_true] at h
  exact ⟨h.1, (glob_gl g h.1).1, g.free x (by simpa using h.2)⟩
theorem cmp_ok (ok : DenOk G cs k d) (g : Good G cs k Z X) {a : Expr} {ops : List CmpOp} {bs : List Expr} {pos : Pos} : DE X (.Compare a ops bs pos) (cmpD d Z a ops bs) ∧ DT X (.Compare a ops bs pos) (tb (cmpD d Z a ops bs)) := by
  have st : DE X (.Compare a ops bs pos) stuck ∧ DT X (.Compare a ops bs pos) (tb stuck) := ⟨de_stuck, dt_stuck⟩
  unfold cmpD
  split
  · split
    · exact ⟨de_cmp g (ok.E Z X g _) (ok.E Z X g _) (by assumption), dt_cmp g (ok.E Z X g _) (ok.E Z X g _) (by assumption)⟩
    · exact st
  · split
    · exact ⟨de_chain g (ok.E Z X g _) (ok.E Z X g _) (ok.E Z X g _) (by assumption), dt_chain g (ok.E Z X g _) (ok.E Z X g _) (ok.E Z X g _) (by assumption)⟩
    · exact st
  · exact st
theorem lc_ok (ok : DenOk G cs k d) (g : Good G cs k Z X) {elt : Expr} {gs : List Comprehension} {scope : Scope} {pos : Pos} : DE X (.ListComp elt gs scope pos) (lcD d Z elt gs scope) := by
  unfold lcD
  split
  · split
    · rename_i h
      rw [Bool.and_eq_true, Bool.not_eq_true'] at h
      exact de_lc g (ok.I Z X g _ _) h.1 (fun X' g' => dg_ok g' _ _) (fun X' g' => dts_ok fun c _ => ok.T _ X' g' c) (fun X' g' => ok.E _ X' g' _) h.2
    · exact de_stuck
  · exact de_stuck
theorem revArg_ok (g : Good G cs k Z X) {e e' : Expr} (h : revArg G Z e = some e') : ∃ p pos, e = .Call (.Name "reversed" p) [e'] [] pos ∧ Gl X "reversed" ∧ X.mg "reversed" = none ∧ notStar e' = true := by
  unfold revArg at h
  split at h
  · split at h
    · rename_i hc
      cases h
      rw [Bool.and_eq_true, Bool.and_eq_true] at hc
      have ey := eq_of_beq hc.1.1
      subst ey
      obtain ⟨_, h2, h3⟩ := okB_ok g hc.1.2
      exact ⟨_, _, rfl, h2, h3, hc.2⟩
    · cases h
  · cases h
theorem isaD_ok (ok : DenOk G cs k d) (g : Good G cs k Z X) {x : Str} {es : List Expr} {p pos : Pos} {m : M B} (h : isaD G d Z x es = some m) : DE X (.Call (.Name x p) es [] pos) m := by
  have E := ok.E Z X g
  unfold isaD at h
  split at h
  · rename_i hx
    subst hx
    split at h
    · split at h
      · rename_i hc ht
        cases h
        rw [Bool.and_eq_true, Bool.and_eq_true] at hc
        obtain ⟨_, i2, i3⟩ := okB_ok g hc.1.1
        obtain ⟨j1, _, j3⟩ := okB_ok g hc.1.2
        exact de_isa1 g i2 i3 j1 j3 ht hc.2 (E _)
      · cases h
        exact de_stuck
    · split at h
      · rename_i hc ht hu
        cases h
        rw [Bool.and_eq_true, Bool.and_eq_true, Bool.and_eq_true] at hc
        obtain ⟨_, i2, i3⟩ := okB_ok g hc.1.1.1
        obtain ⟨j1, _, j3⟩ := okB_ok g hc.1.1.2
        obtain ⟨k1, _, k3⟩ := okB_ok g hc.1.2
        exact de_isa2 g i2 i3 j1 j3 k1 k3 ht hu hc.2 (E _)
      · cases h
        exact de_stuck
    · cases h
      exact de_stuck
  · cases h
theorem callB_ok (ok : DenOk G cs k d) (g : Good G cs k Z X) {x : Str} {es : List Expr} {p pos : Pos} : DE X (.Call (.Name x p) es [] pos) (callB G cs d Z x es) := by
  unfold callB
  split
  · rename_i b hb
    have hx := BI.of_name hb
    subst hx
    split
    · rename_i hc
      rw [Bool.and_eq_true, Bool.and_eq_true] at hc
      obtain ⟨⟨h1, h2⟩, h3⟩ := hc
      obtain ⟨i1, i2, i3⟩ := okB_ok g h1
      have main : DE X (.Call (.Name b.name p) es [] pos) (biE Z (d.E Z) b.sem es) := by
        cases es with
        | nil => cases h3
        | cons e es => exact de_bi g i1 i3 h2 fun e' _ => ok.E Z X g e'
      split
      · rename_i m hm
        split at hm
        · split at hm
          · rename_i e
            cases hr : revArg G Z e with
            | none => rw [hr] at hm; cases hm
            | some e' =>
              rw [hr] at hm
              cases hm
              obtain ⟨p2, pos2, rfl, r2, r3, r4⟩ := revArg_ok g hr
              exact de_revC (t := true) g i2 i3 r2 r3 (ok.E Z X g e') r4
          · cases hm
        · split at hm
          · rename_i e
            cases hr : revArg G Z e with
            | none => rw [hr] at hm; cases hm
            | some e' =>
              rw [hr] at hm
              cases hm
              obtain ⟨p2, pos2, rfl, r2, r3, r4⟩ := revArg_ok g hr
              exact de_revC (t := false) g i2 i3 r2 r3 (ok.E Z X g e') r4
          · cases hm
        · cases hm
      · exact main
    · exact de_stuck
  · split
    · rename_i m hm
      unfold mkD at hm
      split at hm
      · rename_i cd hcd
        split at hm
        · rename_i key ios hi
          split at hm
          · rename_i hc
            cases hm
            rw [Bool.and_eq_true, Bool.and_eq_true, Bool.and_eq_true] at hc
            exact de_mkC g hc.1.1.1 hcd hi hc.1.1.2 (eq_of_beq hc.1.2) hc.2 fun e _ => ok.E Z X g e
          · cases hm
        · cases hm
      · cases hm
    · split
      · rename_i m hm
        unfold fn1D at hm
        split at hm
        · rename_i e hl hx
          split at hm
          · rename_i hc
            cases hm
            rw [Bool.and_eq_true, Bool.and_eq_true] at hc
            exact de_callN g hc.1.1 hl hc.1.2 (ok.E Z X g e)
          · cases hm
        · cases hm
      · exact de_fn g fun e _ => ok.E Z X g e
theorem call_ok (ok : DenOk G cs k d) (g : Good G cs k Z X) {x : Str} {es : List Expr} {p pos : Pos} : DE X (.Call (.Name x p) es [] pos) (callD G cs d Z x es) := by
  unfold callD
  split
  · exact isaD_ok ok g (by assumption)
  · exact callB_ok ok g
theorem om_ok (ok : DenOk G cs k d) (g : Good G cs k Z X) {o : Expr} {m : Str} {es : List Expr} {apos cpos : Pos} {r : M B} (h : omD G cs d Z o m es (apos.endLine == cpos.line) = some r) : DE X (.Call (.Attribute o m apos) es [] cpos) r := by
  unfold omD at h
  split at h
  · split at h
    · rename_i i hi
      split at h
      · rename_i c hc
        split at h
        · rename_i cd hcd
          split at h
          · rename_i key ios hm
            split at h
            · rename_i hh
              cases h
              rw [Bool.and_eq_true, Bool.and_eq_true, Bool.and_eq_true] at hh
              exact de_methC g hi hcd hm (eq_of_beq hh.1.1.1) hh.1.1.2 (of_decide_eq_true hh.1.2) hh.2 fun e _ => ok.E Z X g e
            · cases h
          · cases h
        · cases h
      · cases h
    · cases h
  · cases h
theorem recv_ok (ok : DenOk G cs k d) (g : Good G cs k Z X) {o : Expr} {m : Str} {es : List Expr} {apos cpos : Pos} {r : M B} (h : recvD G cs d Z o m es (apos.endLine == cpos.line) = some r) : DE X (.Call (.Attribute o m apos) es [] cpos) r := by
  unfold recvD at h
  split at h
  · split at h
    · rename_i cd hcd
      split at h
      · rename_i key hm
        split at h
        · rename_i hl
          cases h
          exact de_recvC g hcd hm (fun _ => rfl) hl (ok.E Z X g _)
        · cases h
      · cases h
    · cases h
  · cases h
theorem fld_ok (g : Good G cs k Z X) {o : Expr} {f : Str} {pos : Pos} : DE X (.Attribute o f pos) (fldD G Z o f) := by
  unfold fldD
  split
  · split
    · rename_i i hi
      split
      · split
        · rename_i cd hcd
          split
          · rename_i hf
            exact de_fldC g hi hcd hf
          · exact de_stuck
        · exact de_stuck
      · exact de_stuck
    · exact de_stuck
  · exact de_stuck
theorem fas_ok (g : Good G cs k Z X) {o v : Expr} {f : Str} {p2 pos : Pos} {m : M B} (he : DE X v m) (hk : isFun Z.sc = true) (hn : noComp v = true) : DS X Z (.Assign [.Attribute o f p2] v pos) (fasD G Z o f m) := by
  unfold fasD
  split
  · split
    · rename_i i hi
      split
      · split
        · rename_i cd hcd
          split
          · rename_i hf
            exact ds_fstC g hi hcd hf he hk hn
          · exact ds_stuck
        · exact ds_stuck
      · exact ds_stuck
    · exact ds_stuck
  · exact ds_stuck
theorem stepE_ok (ok : DenOk G cs k d) (g : Good G cs k Z X) (e : Expr) : DE X e (stepE G cs d Z e) := by
  have E := ok.E Z X g
  unfold stepE
  split
  · exact de_name g
  · exact de_const
  · split
    · exact de_tup (da_list (by assumption) fun e _ => E e)
    · exact de_stuck
  · split
    · exact de_lst (da_list (by assumption) fun e _ => E e)
    · exact de_stuck
  · exact de_bin (E _) (E _)
  · split
    · exact de_neg (E _)
    · exact de_not (E _)
    · exact de_stuck
  · exact (cmp_ok ok g).1
  · split
    · exact de_stuck
    · split
      · exact de_andL (by simp) fun e _ => E e
      · exact de_orL (by simp) fun e _ => E e
  · exact de_ite (ok.T Z X g _) (E _) (E _)
  · split
    · rename_i m hm
      unfold dctD at hm
      split at hm
      · split at hm
        · rename_i hc
          cases hm
          exact de_dct g hc.1 hc.2 (E _)
        · cases hm
      · cases hm
    split
    · exact de_revE g (E _)
    · exact de_sl g (E _) (fun x _ => E x) fun x _ => E x
    · split
      · exact de_ix g (E _) (E _) (by assumption)
      · exact de_stuck
  · exact lc_ok ok g
  · split
    · exact call_ok ok g
    · unfold dflD
      split
      · split
        · rename_i hc
          obtain ⟨h1, h2, h3⟩ := hc
          subst h3
          obtain ⟨i1, _, i3⟩ := okB_ok g h1
          split
          · rename_i hx
            subst hx
            exact de_maxK g i1 i3 h2 (E _) (E _)
          · split
            · rename_i hx
              subst hx
              exact de_minK g i1 i3 h2 (E _) (E _)
            · exact de_stuck
        · exact de_stuck
      · exact de_stuck
    · split
      · rename_i r hr
        exact om_ok ok g hr
      split
      · rename_i r hr
        exact recv_ok ok g hr
      unfold methD
      split
      · split
        · rename_i i hi
          split
          · rename_i hc
            obtain ⟨h1, h2, h3⟩ := hc
            subst h1
            exact de_idx g hi (E _) h2 h3
          · split
            · rename_i hc
              obtain ⟨h1, h2, h3⟩ := hc
              subst h1
              exact de_pop g hi (E _) h2 h3
            · split
              · rename_i hc
                obtain ⟨h1, h2, h3⟩ := hc
                subst h1
                exact de_cnt g hi (E _) h2 h3
              · exact de_stuck
        · exact de_stuck
      · exact de_stuck
    · exact de_stuck
  · exact fld_ok g
  · exact de_stuck
theorem stepT_ok (ok : DenOk G cs k d) (g : Good G cs k Z X) (e : Expr) : DT X e (stepT d Z e) := by
  unfold stepT
  split
  · exact (cmp_ok ok g).2
  · split
    · exact dt_stuck
    · split
      · exact (pw_andL (by simp) fun e _ => ok.T Z X g e).pt
      · exact (pw_orL (by simp) fun e _ => ok.T Z X g e).pt
  · split
    · exact dt_not (ok.T Z X g _)
    · exact dt_stuck
  · split
    · exact dt_tru (ok.E Z X g _) (by assumption)
    · exact dt_stuck
theorem seq1 (f : Expr → M B) (a : Expr) : seqM [mD (f a)] = seqM ([a].map fun e => mD (f e)) := rfl
theorem isTup_ok {tg : Expr} (h : isTupE tg = true) : ∃ elts kk tpos, tg = .Tuple elts kk tpos := by
  cases tg <;> first | exact ⟨_, _, _, rfl⟩ | cases h
theorem strict_ok {ks : List Keyword} {b : Bool} (h : isStrictK ks = some b) : (b = false ∧ ks = []) ∨ (b = true ∧ ∃ j cpos kpos, ks = [⟨some "strict", .Constant (.bool true) j cpos, kpos⟩]) := by
  unfold isStrictK at h
  split at h
  · cases h
    exact .inl ⟨rfl, rfl⟩
  · split at h
    · cases h
      rename_i hx
      subst hx
      exact .inr ⟨rfl, _, _, _, rfl⟩
    · cases h
  · cases h
theorem lax_ok {ks : List Keyword} (h : isLaxK ks = true) : ks = [] ∨ ∃ j cpos kpos, ks = [⟨some "strict", .Constant (.bool false) j cpos, kpos⟩] := by
  unfold isLaxK at h
  split at h
  · exact .inl rfl
  · have := of_decide_eq_true h
    subst this
    exact .inr ⟨_, _, _, rfl⟩
  · cases h
theorem ns3 {a b c : Expr} (h : [a, b, c].all notStar = true) : notStar a = true ∧ notStar b = true ∧ notStar c = true := by simpa using h
theorem ns2 {a b : Expr} (h : [a, b].all notStar = true) : notStar a = true ∧ notStar b = true := by simpa using h
theorem iter_ok (ok : DenOk G cs k d) (g : Good G cs k Z X) {tg : Expr} {x : Str} {es : List Expr} {ks : List Keyword} {p pos : Pos} {m : M (List D)} (h : iterD G d Z tg x es ks = some m) : DI X tg (.Call (.Name x p) es ks pos) m := by
  have E := ok.E Z X g
  have dl : ∀ {es : List Expr}, es.all notStar = true → DA X es (seqM (es.map fun e => mD (d.E Z e))) := fun {es} hs => da_list hs fun e _ => E e
  unfold iterD at h
  split at h
  · cases h
  · rename_i hc
    rw [Bool.and_eq_true] at hc
    obtain ⟨i1, i2, i3⟩ := okB_ok g hc.1
    have hs := hc.2
    split at h
    · rename_i hx
      subst hx
      split at h
      · cases h
        exact di_range1 i2 i3 (dl hs) (by rw [star_cons (by simpa using hs)]; rfl)
      · cases h
        have hs2 := ns2 hs
        exact di_range2 i2 i3 (dl hs) (by rw [star_cons hs2.1, star_cons hs2.2]; rfl) (by rw [star_cons hs2.2]; rfl)
      · cases h
        exact di_stuck
    · split at h
      · rename_i hx
        subst hx
        split at h
        · rename_i ht
          split at h
          · rename_i st hk
            cases h
            obtain ⟨elts, kk, tpos, rfl⟩ := isTup_ok ht
            have hs2 := ns2 hs
            rcases strict_ok hk with ⟨rfl, rfl⟩ | ⟨rfl, j, cpos, kpos, rfl⟩
            · exact di_zip2 i2 i3 (dl hs) (star_cons hs2.1) (by rw [star_cons hs2.2]; rfl)
            · exact di_zipS i2 i3 (dl hs) (by rw [star_cons hs2.1]; rfl) (by rw [star_cons hs2.1, star_cons hs2.2]; rfl)
          · cases h
            exact di_stuck
        · rename_i ht
          split at h
          · rename_i hk
            cases h
            obtain ⟨elts, kk, tpos, rfl⟩ := isTup_ok ht
            have hs3 := ns3 hs
            rcases lax_ok hk with rfl | ⟨j, cpos, kpos, rfl⟩
            · exact di_zip3 i2 i3 (dl hs) (star_cons hs3.1) (by rw [star_cons hs3.2.1, star_cons hs3.2.2]; rfl)
            · exact di_zip3K i2 i3 (dl hs) (by rw [star_cons hs3.1]; rfl) (by rw [star_cons hs3.1, star_cons hs3.2.1, star_cons hs3.2.2]; rfl)
          · cases h
            exact di_stuck
        · cases h
          exact di_stuck
      · split at h
        · rename_i hx
          subst hx
          split at h
          · rename_i ht
            cases h
            obtain ⟨elts, kk, tpos, rfl⟩ := isTup_ok ht
            exact di_enumT i2 i3 (dl hs) (by rw [star_cons (by simpa using hs)]; rfl)
          · cases h
            exact di_stuck
        · split at h
          · rename_i hx
            subst hx
            split at h
            · cases h
              exact di_rev i2 i3 (E _) (star_cons (by simpa using hs))
            · cases h
              exact di_stuck
          · cases h
theorem stepI_ok (ok : DenOk G cs k d) (g : Good G cs k Z X) (tg e : Expr) : DI X tg e (stepI G d Z tg e) := by
  unfold stepI
  split
  · rename_i m hm
    split at hm
    · exact iter_ok ok g hm
    · cases hm
  · exact di_seqT (ok.E Z X g e)
theorem exprD_ok (ok : DenOk G cs k d) (g : Good G cs k Z X) {e : Expr} {pos : Pos} : DS X Z (.Expr e pos) (exprD d Z e) := by
  have E := ok.E Z X g
  unfold exprD
  split
  · split
    · exact ds_next ps_doc
    · exact ds_stuck
  · split
    · split
      · rename_i s hs
        unfold appD at hs
        split at hs
        · split at hs
          · rename_i hc
            rw [Bool.and_eq_true, Bool.and_eq_true] at hc
            have hm := eq_of_beq hc.1.1
            subst hm
            split at hs
            · cases hs
              exact ds_app g (by assumption) (E _) hc.1.2 hc.2
            · cases hs
          · split at hs
            · rename_i hc
              rw [Bool.and_eq_true, Bool.and_eq_true] at hc
              have hm := eq_of_beq hc.1.1
              subst hm
              split at hs
              · cases hs
                exact ds_ext g (by assumption) (E _) hc.1.2 hc.2
              · cases hs
            · cases hs
        · split at hs
          · rename_i hc
            rw [Bool.and_eq_true, Bool.and_eq_true, Bool.and_eq_true] at hc
            have hm := eq_of_beq hc.1.1.1
            subst hm
            split at hs
            · cases hs
              exact ds_ins g (by assumption) (E _) (E _) hc.1.1.2 hc.1.2 hc.2
            · cases hs
          · cases hs
        · cases hs
      · exact ds_expr (E _) rfl
    · exact ds_expr (E _) rfl
    · exact ds_stuck
  · exact ds_stuck
theorem cellEs_fst : ∀ {vs : List Expr} {is : List Nat}, vs.length = is.length → (cellEs d Z is vs).map (·.1) = vs
  | [], [], _ => rfl
  | [], _ :: _, h => by cases h
  | _ :: _, [], h => by cases h
  | v :: vs, i :: is, h => congrArg (v :: ·) (cellEs_fst (by simpa using h))
theorem cellEs_ok (E : ∀ e, DE X e (d.E Z e)) : ∀ {vs : List Expr} {is : List Nat}, ∀ p ∈ cellEs d Z is vs, DE X p.1 p.2 ∧ ∀ en b en', p.2 en = some (b, en') → isVL b = true
  | [], [], p, h => by cases h
  | [], _ :: _, p, h => by cases h
  | _ :: _, [], p, h => by cases h
  | v :: vs, i :: is, p, h => by
    rcases List.mem_cons.mp (show p ∈ (v, kM (Z.own i) (d.E Z v)) :: cellEs d Z is vs from h) with rfl | h
    · exact ⟨de_kM (E v), fun _ _ _ => kM_vl⟩
    · exact cellEs_ok E p h
theorem ds_cell (g : Good G cs k Z X) (E : ∀ e, DE X e (d.E Z e)) {ts vs : List Expr} {is : List Nat} {kt k2 : Nat} {pt pt2 pos : Pos} (hb : bindsOf Z ts = some is) (c2 : vs.length = is.length) (c3 : vs.all notStar = true) (c4 : vs.length ≤ cap)
    (hk : isFun Z.sc = true) (hn : noComp (.Tuple vs k2 pt2) = true) (hs : swB Z.sc (.Tuple vs k2 pt2) (.Tuple ts kt pt) = false) (hw : swappedStores [.Tuple ts kt pt] (.Tuple vs k2 pt2) X.env = pure none) :
    DS X Z (.Assign [.Tuple ts kt pt] (.Tuple vs k2 pt2) pos) (asgO is (seqM ((cellEs d Z is vs).map (·.2)))) := by
  have e1 := cellEs_fst (d := d) (Z := Z) c2
  have e2 : (cellEs d Z is vs).length = vs.length := (List.length_map (f := (·.1))).symm.trans (congrArg List.length e1)
  have r := ds_asgO (pos := pos) (es := cellEs d Z is vs) (pt := pt) (kt := kt) (k2 := k2) (pt2 := pt2) g hb (by rw [e1]; exact c3) (cellEs_ok E) (by rw [e2]; exact c4) hk (by rw [e1]; exact hn) (by rw [e1]; exact hs) (by rw [e1]; exact hw)
  rw [e1] at r
  exact r
theorem asgD_ok (ok : DenOk G cs k d) (g : Good G cs k Z X) {tg v : Expr} {pos : Pos} : DS X Z (.Assign [tg] v pos) (asgD G d Z tg v) := by
  have E := ok.E Z X g
  unfold asgD
  split
  · exact ds_stuck
  · rename_i hc
    rw [Bool.and_eq_true, Bool.and_eq_true] at hc
    obtain ⟨⟨hf, hn⟩, hnc⟩ := hc
    split
    · rename_i hsw
      split
      · split
        · rename_i i hi
          unfold lcD
          split
          · split
            · rename_i h
              rw [Bool.and_eq_true, Bool.not_eq_true'] at h
              exact ds_setLc g hi (ok.I Z X g _ _) h.1 (fun X' g' => dg_ok g' _ _) (fun X' g' => dts_ok fun c _ => ok.T _ X' g' c) (fun X' g' => ok.E _ X' g' _) h.2 hf hsw
            · exact PS.of ds_stuck fun D σ H ⟨ow, en, s, gg⟩ => ⟨ow, en, s, gg⟩
          · exact PS.of ds_stuck fun D σ H ⟨ow, en, s, gg⟩ => ⟨ow, en, s, gg⟩
        · exact ds_stuck
      · exact ds_stuck
    · rename_i hsw
      split
      · rename_i hw
        split
        · split
          · exact ds_asg g (E _) (dg_sub g (by assumption) (E _) (by assumption)) hf hnc hsw (swN_ok hw) hn
          · exact ds_stuck
        · exact fas_ok g (E _) hf hnc
        · exact ds_asg g (E _) (dg_ok g _ _) hf hnc hsw (swN_ok hw) hn
      · split
        · split
          · rename_i hsS
            split
            · split
              · rename_i hc2
                rw [Bool.and_eq_true, Bool.and_eq_true, Bool.and_eq_true] at hc2
                obtain ⟨⟨⟨c1, c2⟩, c3⟩, c4⟩ := hc2
                have e1 := eq_of_beq c1
                have e2 := eq_of_beq c2
                subst e1 e2
                split
                · split
                  · exact ds_stuck
                  · rename_i hij
                    split
                    · rename_i hl
                      split
                      · exact ds_parO2 g (by assumption) (by assumption) hij hf hl.1 hl.2 hsS (by simp [c3, c4]) (E _) (E _)
                      · exact ds_par g (by assumption) (by assumption) (by simpa using hij) hf hl.1 hl.2 hsS c3 c4 (E _) (E _)
                    · exact ds_stuck
                · exact ds_stuck
              · exact ds_stuck
            · exact ds_stuck
          · rename_i hsS
            split
            · rename_i is hbi
              split
              · rename_i hcc
                rw [Bool.and_eq_true, Bool.and_eq_true, Bool.and_eq_true] at hcc
                obtain ⟨⟨⟨_, c2⟩, c3⟩, c4⟩ := hcc
                have c2 := eq_of_beq c2
                exact ds_cell g E hbi c2 c3 (of_decide_eq_true c4) hf hnc hsw (swS_ok (by rw [g.sc]; exact hf) (by rw [g.sc]; exact hsS))
              · exact ds_asg g (E _) (dg_ok g _ _) hf hnc hsw (swS_ok (by rw [g.sc]; exact hf) (by rw [g.sc]; exact hsS)) hn
            · exact ds_asg g (E _) (dg_ok g _ _) hf hnc hsw (swS_ok (by rw [g.sc]; exact hf) (by rw [g.sc]; exact hsS)) hn
          · rename_i hsS
            split
            · split
              · rename_i hc2
                rw [Bool.and_eq_true, Bool.and_eq_true, Bool.and_eq_true] at hc2
                obtain ⟨⟨⟨c1, c2⟩, c3⟩, c4⟩ := hc2
                have e1 := eq_of_beq c1
                have e2 := eq_of_beq c2
                have e3 := eq_of_beq c3
                subst e1 e2 e3
                split
                · split
                  · exact ds_stuck
                  · rename_i hij
                    rw [not_or, not_or] at hij
                    split
                    · rename_i hl
                      split
                      · exact ds_parO3 g (by assumption) (by assumption) (by assumption) hij.1 hij.2.1 hij.2.2 hf hl.1 hl.2.1 hl.2.2 hsS c4 (E _) (E _) (E _)
                      · exact ds_par3 g (by assumption) (by assumption) (by assumption) hij.1 hij.2.1 hij.2.2 hf hl.1 hl.2.1 hl.2.2 hsS c4 fun e _ => E e
                    · exact ds_stuck
                · exact ds_stuck
              · exact ds_stuck
            · exact ds_stuck
          · exact ds_stuck
        · exact ds_stuck
theorem asgFz_ok {tg : Expr} {st : Stmt} {m : Sm} (h : DS X Z st m) : DS X Z st (asgFz Z tg m) := by
  unfold asgFz
  split
  · split
    · split
      · exact h
      · exact ds_frz h
    · exact h
  · exact h
theorem stepS_ok (ok : DenOk G cs k d) (g : Good G cs k Z X) (st : Stmt) : DS X Z st (stepS G d Z st) := by
  have E := ok.E Z X g
  have L : ∀ sts : List Stmt, DSs X Z sts (seqsS (sts.map (d.S Z))) := fun sts => dss_list fun s _ => ok.S Z X g s
  unfold stepS
  split
  · exact exprD_ok ok g
  · exact ds_next ps_pass
  · exact ds_break
  · exact ds_continue
  · split
    · split
      · split
        · split
          · exact ds_ret (E _)
          · exact ds_retV g (by assumption)
        · exact ds_ret (E _)
      · exact ds_ret (E _)
    · exact ds_retN
  · split
    · exact asgFz_ok (asgD_ok ok g)
    · exact ds_stuck
  · split
    · split
      · exact ds_aug g (by assumption) (E _) (by assumption)
      · exact ds_stuck
    · exact ds_stuck
  · exact ds_if (ok.T Z X g _) (L _) (L _)
  · split
    · rename_i hset
      split
      · rename_i m hm
        unfold aliasB at hm
        split at hm
        · split at hm
          · rename_i hc
            rw [Bool.and_eq_true, Bool.and_eq_true, Bool.and_eq_true, Bool.and_eq_true] at hc
            obtain ⟨⟨⟨⟨c1, c2⟩, c3⟩, c4⟩, c5⟩ := hc
            have e1 := eq_of_beq c1
            have e2 := eq_of_beq c2
            subst e1 e2
            split at hm
            · rename_i iy iy2 ia ib q1 q2 q3 q4
              split at hm
              · rename_i hq
                cases hm
                obtain ⟨rfl, _⟩ := hq
                exact ds_forAB g q1 q2 q3 q4 (ok.I Z X g _ _) (E _) c3 c4 (by simpa using c5)
              · cases hm
            · cases hm
          · cases hm
        · cases hm
      · refine ds_for g (ok.I Z X g _ _) (dg_ok g _ _) ?_ hset
        unfold bodyD
        split
        · rename_i m rest hm
          unfold aliasA at hm
          split at hm
          · split at hm
            · rename_i hc
              rw [Bool.and_eq_true, Bool.and_eq_true, Bool.and_eq_true, Bool.and_eq_true, Bool.and_eq_true] at hc
              obtain ⟨⟨⟨⟨⟨c1, c2⟩, c3⟩, c4⟩, c5⟩, c6⟩ := hc
              have e1 := eq_of_beq c1
              have e2 := eq_of_beq c2
              subst e1 e2
              split at hm
              · rename_i iy iy2 ia ib q1 q2 q3 q4
                split at hm
                · rename_i hq
                  cases hm
                  obtain ⟨rfl, _⟩ := hq
                  exact dss_pick g q1 q2 q3 q4 (E _) (E _) c5 c3 c4 c6 (L _)
                · cases hm
              · cases hm
            · cases hm
          · cases hm
        · exact L _
    · exact ds_stuck
  · split
    · exact ds_while g (ok.T Z X g _) (L _)
    · exact ds_stuck
  · exact ds_stuck
theorem ok_step (ok : DenOk G cs k d) : DenOk G cs k (step G cs d) := ⟨fun Z X g e => stepE_ok ok g e, fun Z X g e => stepT_ok ok g e, fun Z X g tg e => stepI_ok ok g tg e, fun Z X g st => stepS_ok ok g st⟩
theorem den_ok {G : Glob} {cs : Calls} {k : Nat} : ∀ n, DenOk G cs k (den G cs n)
  | 0 => ok_none
  | n + 1 => ok_step (den_ok n)
end
end DL

namespace DL
open PySem PySem.W PySem.Spec PyProof.Rows L2
/-! ### the module's defs -/
def clsBody : Stmt → List Stmt
  | .ClassDef _ _ _ body _ _ _ _ _ _ _ => body
  | _ => []
structure FDef where
  st : Stmt
  x : Str
  ps : List Str
  N : List Str
  io : List Bool
  own : List Nat
  nm : Str
  at_ : Str × Option Str
  cls : List (Nat × Str)
  tk : List Nat
def FDef.Z (f : FDef) : Stat := { N := f.N, sc := defScope f.st, pr := fun i => f.io.getD i false, own := fun i => f.own.contains i, cls := fun i => f.cls.lookup i, tk := fun i => f.tk.contains i }
def FDef.D (f : FDef) : He.DefD := ⟨f.at_, f.nm, f.x, defArgs f.st, defBody f.st, defScope f.st, [], []⟩
structure FOk (f : FDef) : Prop where
  sc : FnScope f.N f.ps (defScope f.st)
  bind : ∀ (kV doc pm : Value) (an : Option Addr) (cdv ct : Value) (us : List Value), us.length = f.ps.length → bindArgs (PySem.W.fnOf f.nm f.x (defArgs f.st) (defBody f.st) (defScope f.st) .none kV doc pm an cdv ct) ⟨us, []⟩ = pure (f.ps.zip us)
  len : f.io.length = f.ps.length
  pl : f.at_.2 = none → f.at_ = (f.x, none)
inductive Cst where
  | str (x z : Str) | int (x : Str) (i : Int)
def Cst.x : Cst → Str
  | .str x _ => x
  | .int x _ => x
def Cst.d : Cst → D
  | .str _ z => .str z
  | .int _ i => .int i
def Cst.fa : Cst → He.Fa
  | .str x z => .str x z
  | .int x i => .int x i
structure Mod where
  defs : List FDef
  consts : List Cst
  free : List Str
  fuel : Nat
  cls : List ClsG
def clsFa (c : ClsG) : List He.Fa := .glo c.x :: .cls c.x :: .mkr c.x :: (c.flds.map (He.Fa.noat c.x) ++ c.ms.map fun m => He.Fa.meth c.x m.1)
def plainF (f : FDef) : Bool := match f.at_.2 with
  | none => true
  | some _ => false
def Mod.fa (M : Mod) : List He.Fa := (M.defs.filter plainF).map (fun f => He.Fa.glo f.x) ++ (M.consts.map Cst.fa ++ (M.free.map He.Fa.free ++ M.cls.flatMap clsFa))
def Mod.fn (M : Mod) : List He.DefD := M.defs.map FDef.D
def Mod.G (M : Mod) : Glob := ⟨(M.defs.filter plainF).map fun f => (f.x, f.io), M.consts.map fun c => (c.x, c.d), M.free, M.cls⟩
/-- the table of classes goes with the defs -/
def Mod.ok (M : Mod) : Bool := decide (M.defs.map (·.x)).Nodup && M.cls.all fun c => (M.defs.find? fun f => f.x == c.x).isNone && c.ms.all fun m => match M.defs.find? fun f => f.x == m.2.1 with
  | some f => decide (f.at_ = (c.x, some m.1)) && decide (f.io = m.2.2)
  | none => false
def outP (f : FDef) (en : Env) : List (Option B) := (List.range f.ps.length).map fun i => match f.io.getD i false with
  | true => (en[i]?).getD none
  | false => none
def runS (f : FDef) (m : Sm) (bs : List B) : Option (B × List (Option B)) := match m (bs.map some ++ List.replicate (f.N.length - bs.length) none) with
  | some (.rt b en) => some (b, outP f en)
  | some (.nx en) => some (.val .none, outP f en)
  | _ => none
noncomputable def bodyS (M : Mod) (cs : Calls) (f : FDef) : Sm := seqsS ((defBody f.st).map ((den M.G cs M.fuel).S f.Z))
noncomputable def runF (M : Mod) (cs : Calls) (f : FDef) (bs : List B) : Option (B × List (Option B)) := if bs.length = f.ps.length then runS f (bodyS M cs f) bs else none
noncomputable def fnSem (M : Mod) : Nat → Calls
  | 0 => fun _ _ => none
  | k + 1 => fun x bs => match M.defs.find? (fun f => f.x == x) with
    | some f => runF M (fnSem M k) f bs
    | none => match M.cls.find? (fun c => c.x == x) with
      | some c => match c.ms.lookup ("__init__" : Str) with
        | some (key, _) => makeOf x (fnSem M k key) bs
        | none => none
      | none => none
theorem lookup_map {β : Type} {g : FDef → β} {x : Str} {y : β} : ∀ {fs : List FDef}, (fs.map fun f => (f.x, g f)).lookup x = some y → ∃ f, fs.find? (fun f => f.x == x) = some f ∧ f ∈ fs ∧ f.x = x ∧ g f = y
  | [], h => by cases h
  | f :: fs, h => by
    have h' : (match x == f.x with | true => some (g f) | false => (fs.map fun f => (f.x, g f)).lookup x) = some y := h
    cases e : x == f.x with
    | true =>
      rw [e] at h'
      cases h'
      have ex : x = f.x := eq_of_beq e
      exact ⟨f, by rw [List.find?_cons]; simp [ex], List.mem_cons_self, ex.symm, rfl⟩
    | false =>
      rw [e] at h'
      obtain ⟨f', h1, h2, h3, h4⟩ := lookup_map h'
      have e2 : (f.x == x) = false := by
        have n : x ≠ f.x := by simpa using e
        simpa using n.symm
      exact ⟨f', by rw [List.find?_cons, e2]; exact h1, List.mem_cons_of_mem _ h2, h3, h4⟩
theorem find_nodup {f : FDef} : ∀ {fs : List FDef}, (fs.map (·.x)).Nodup → f ∈ fs → fs.find? (fun g => g.x == f.x) = some f
  | [], _, h => by cases h
  | g :: fs, hn, h => by
    rw [List.map_cons, List.nodup_cons] at hn
    rw [List.find?_cons]
    rcases List.mem_cons.mp h with rfl | h
    · simp
    · have ne : (g.x == f.x) = false := by
        have : g.x ≠ f.x := fun e => hn.1 (by rw [e]; exact List.mem_map_of_mem h)
        simpa using this
      rw [ne]
      exact find_nodup hn.2 h
section
variable {M : Mod} {P : Program} {w : World} {K : PySem.W.Frag} {mg : Str → Option Value} {base h : Heap}
/-- what the head tells -/
structure Told (M : Mod) (K : PySem.W.Frag) (mg : Str → Option Value) : Prop where
  ok : ∀ f ∈ M.defs, FOk f
  fn : ∀ f ∈ M.defs, ∃ fd, FunD K f.nm f.x (defArgs f.st) (defBody f.st) (defScope f.st) [] [] (He.fAd K f.at_) fd
  kp : ∀ f ∈ M.defs, PySem.W.keepIn K (.ref (He.fAd K f.at_)) = true
  glo : ∀ f ∈ M.defs, plainF f = true → mg f.x = some (.ref (He.ga K f.x))
  con : ∀ c ∈ M.consts, ∃ u v, mg c.x = some u ∧ RelV v u ∧ ∀ F, Rp K F v c.d
  free : ∀ x ∈ M.free, mg x = none
  cls : ∀ c ∈ M.cls, Cls K (He.ga K c.x) ∧ (∀ f ∈ c.flds, NoAttr K (He.ga K c.x) f) ∧ (∀ m ∈ c.ms, Meth K (He.ga K c.x) m.1 (He.ma K (He.ga K c.x) m.1)) ∧ Mk K (He.ga K c.x) (He.ma K (He.ga K c.x) "__init__") ∧ mg c.x = some (.ref (He.ga K c.x))
  nd : (M.defs.map (·.x)).Nodup
  ms : ∀ c ∈ M.cls, (M.defs.find? fun f => f.x == c.x) = none ∧ ∀ m ∈ c.ms, ∃ f, M.defs.find? (fun f => f.x == m.2.1) = some f ∧ f.at_ = (c.x, some m.1) ∧ f.io = m.2.2
theorem told_of (hok : ∀ f ∈ M.defs, FOk f) (hM : M.ok = true) (X : K.In h) (G : h.Ns mainGlobals mg) (c : He.SaysD M.fa M.fn K) : Told M K mg := by
  have c1 := (He.ba (show ((M.fa.all fun f => f.ok K) && M.fn.all fun d => d.ok K) = true from congrArg (fun z : He.AlD => z.1) c)).1
  have c2 := (He.ba (show ((M.fa.all fun f => f.ok K) && M.fn.all fun d => d.ok K) = true from congrArg (fun z : He.AlD => z.1) c)).2
  have fact : ∀ f ∈ M.fa, f.ok K = true := fun f hf => List.all_eq_true.mp c1 f hf
  have clf : ∀ c ∈ M.cls, ∀ f ∈ clsFa c, f.ok K = true := fun c hc f hf => fact f (List.mem_append_right _ (List.mem_append_right _ (List.mem_append_right _ (List.mem_flatMap.mpr ⟨c, hc, hf⟩))))
  obtain ⟨m1, m2⟩ := He.ba hM
  refine ⟨hok, fun f hf => ?_, fun f hf => ?_, fun f hf hp => ?_, fun k hk => ?_, fun x hx => ?_, fun c hc => ?_, of_decide_eq_true m1, fun c hc => ?_⟩
  · obtain ⟨i, hi⟩ := List.getElem?_of_mem hf
    have hi' : M.fn[i]? = some f.D := by
      unfold Mod.fn
      rw [List.getElem?_map, hi]
      rfl
    exact c.def_ i hi'
  · have := List.all_eq_true.mp c2 f.D (List.mem_map_of_mem hf)
    exact (He.ba this).1
  · exact He.glo_ok X G (fact _ (List.mem_append_left _ (List.mem_map_of_mem (List.mem_filter.mpr ⟨hf, hp⟩))))
  · have hk' : k.fa ∈ M.fa := List.mem_append_right _ (List.mem_append_left _ (List.mem_map_of_mem hk))
    cases k with
    | str x z =>
      obtain ⟨t, e⟩ := He.str_ok X G (fact _ hk')
      exact ⟨_, .str z, e, ⟨t, rfl⟩, fun F => .str z⟩
    | int x i =>
      obtain ⟨t, e⟩ := He.int_ok X G (fact _ hk')
      exact ⟨_, .int i, e, ⟨t, rfl⟩, fun F => .int i⟩
  · exact He.free_ok X G (fact _ (List.mem_append_right _ (List.mem_append_right _ (List.mem_append_left _ (List.mem_map_of_mem hx)))))
  · have q := clf c hc
    refine ⟨He.cls_ok (q _ (by simp [clsFa])), fun f hf => He.noat_ok (q _ (by simp [clsFa, hf])), fun m hm => He.meth_ok (q (He.Fa.meth c.x m.1) ?_), He.mkr_ok (q _ (by simp [clsFa])), He.glo_ok X G (q _ (by simp [clsFa]))⟩
    unfold clsFa
    exact List.mem_cons_of_mem _ (List.mem_cons_of_mem _ (List.mem_cons_of_mem _ (List.mem_append_right _ (List.mem_map.mpr ⟨m, hm, rfl⟩))))
  · obtain ⟨q1, q2⟩ := He.ba (List.all_eq_true.mp m2 c hc)
    refine ⟨by simpa using q1, fun m hm => ?_⟩
    have q3 := List.all_eq_true.mp q2 m hm
    split at q3
    · rename_i f hf
      obtain ⟨q4, q5⟩ := He.ba q3
      exact ⟨f, hf, of_decide_eq_true q4, of_decide_eq_true q5⟩
    · cases q3
theorem con_look {x : Str} {d : D} : ∀ {cs : List Cst}, (cs.map fun c => (c.x, c.d)).lookup x = some d → ∃ c ∈ cs, c.x = x ∧ c.d = d
  | [], h => by cases h
  | c :: cs, h => by
    have h' : (match x == c.x with | true => some c.d | false => (cs.map fun c => (c.x, c.d)).lookup x) = some d := h
    cases e : x == c.x with
    | true =>
      rw [e] at h'
      cases h'
      exact ⟨c, List.mem_cons_self, (eq_of_beq e).symm, rfl⟩
    | false =>
      rw [e] at h'
      obtain ⟨c', h1, h2⟩ := con_look h'
      exact ⟨c', List.mem_cons_of_mem _ h1, h2⟩
theorem outP_at {f : FDef} {en : Env} {i : Nat} {b : B} (h : (outP f en)[i]? = some (some b)) : f.io.getD i false = true ∧ en[i]? = some (some b) ∧ i < f.ps.length := by
  unfold outP at h
  rw [List.getElem?_map, Option.map_eq_some_iff] at h
  obtain ⟨j, h1, h2⟩ := h
  have hj := (List.getElem?_eq_some_iff.mp h1)
  obtain ⟨hl, e⟩ := hj
  rw [List.getElem_range] at e
  subst e
  rw [List.length_range] at hl
  cases q : f.io.getD i false with
  | false => rw [q] at h2; cases h2
  | true =>
    rw [q] at h2
    dsimp only at h2
    refine ⟨rfl, ?_, hl⟩
    cases z : en[i]? with
    | none => rw [z] at h2; cases h2
    | some o =>
      rw [z] at h2
      exact congrArg some h2
theorem lookup_mem {β : Type} {x : Str} {y : β} : ∀ {l : List (Str × β)}, l.lookup x = some y → (x, y) ∈ l
  | [], h => by cases h
  | (z, w) :: l, h => by
    have h' : (match x == z with | true => some w | false => l.lookup x) = some y := h
    cases e : x == z with
    | true =>
      rw [e] at h'
      cases h'
      rw [eq_of_beq e]
      exact List.mem_cons_self
    | false =>
      rw [e] at h'
      exact List.mem_cons_of_mem _ (lookup_mem h')
theorem fn_all (T : Told M K mg) (k : Nat) (f : FDef) (x : Str) (hf : M.defs.find? (fun f => f.x == x) = some f) (fd : FuncData) (F : FunD K f.nm f.x (defArgs f.st) (defBody f.st) (defScope f.st) [] [] (He.fAd K f.at_) fd) :
    FnOk P w K mg base CX0 k (He.fAd K f.at_) fd f.ps (spF K (fnSem M k x) f.io.length) ∧ Binds K fd f.ps [] := by
  induction k using Nat.strongRecOn generalizing f x fd with
  | _ n ih =>
  cases n with
  | zero => exact ⟨⟨fun vs H Q E ⟨_, _, _, _, _, _, z, _⟩ => (nomatch z), fun A outer s H args us vs Q E _ _ _ _ ⟨_, _, _, _, _, _, z, _⟩ => (nomatch z)⟩, F.bindsN (T.ok f (List.mem_of_find?_eq_some hf)).bind⟩
  | succ k =>
    have hm := List.mem_of_find?_eq_some hf
    have ok := T.ok f hm
    refine ⟨F.ok ok.sc (fun vs H Q E h => by rw [h.1, ok.len]) fun cdv A outer s H vs Q E hr hsp => ?_, F.bindsN ok.bind⟩
    obtain ⟨hlen, ow, bs, r, bs', st, hsem, hq⟩ := hsp
    have g : Good M.G (fnSem M k) k f.Z (cxOf CX0 P w K mg base f.N f.x (defScope f.st) (He.fAd K f.at_) cdv A outer s H E).nox := by
      refine ⟨rfl, rfl, rfl, rfl, rfl, ok.sc.nd, hr, fun x hx => T.free x hx, fun x d hd => ?_, fun y io hy => ?_, fun y c hc => ?_, fun y c hc => ?_⟩
      · obtain ⟨c, hc, rfl, rfl⟩ := con_look hd
        exact T.con c hc
      · obtain ⟨f', h1, h2, h3, h4⟩ := lookup_map (g := FDef.io) hy
        obtain ⟨h2, hp⟩ := List.mem_filter.mp h2
        have h5 := find_nodup T.nd h2
        obtain ⟨fd', D'⟩ := T.fn f' h2
        rw [h3] at h5
        obtain ⟨F', B'⟩ := ih k (Nat.lt_succ_self k) f' y h5 fd' D'
        have hat : f'.at_ = (f'.x, none) := (T.ok f' h2).pl (by
          unfold plainF at hp
          split at hp
          · assumption
          · cases hp)
        have hk := T.kp f' h2
        have hg := T.glo f' h2 hp
        rw [hat] at hk F'
        subst h3 h4
        exact ⟨_, fd', _, F', hg, hk, B'⟩
      · have hx : c.x = y := clsOf_x hc
        have hmem : c ∈ M.cls := List.mem_of_find?_eq_some hc
        subst hx
        obtain ⟨c1, c2, c3, c4, c5⟩ := T.cls c hmem
        refine ⟨c1, c2, fun m key io hl => ?_⟩
        have hmm := lookup_mem hl
        obtain ⟨f', h1, h2, h3⟩ := (T.ms c hmem).2 _ hmm
        have h4 := List.mem_of_find?_eq_some h1
        obtain ⟨fd', D'⟩ := T.fn f' h4
        obtain ⟨F', B'⟩ := ih k (Nat.lt_succ_self k) f' key h1 fd' D'
        rw [h2, h3] at F'
        exact ⟨_, fd', _, F', c3 _ hmm, B'⟩
      · have hx : c.x = y := clsOf_x hc
        have hmem : c ∈ M.cls := List.mem_of_find?_eq_some hc
        subst hx
        cases k with
        | zero => exact .inl fun bs => rfl
        | succ j =>
          have hsem : ∀ bs, fnSem M (j + 1) c.x bs = (match c.ms.lookup ("__init__" : Str) with
            | some (key, _) => makeOf c.x (fnSem M j key) bs
            | none => none) := fun bs => by
            show (match M.defs.find? (fun f => f.x == c.x) with
              | some f => runF M (fnSem M j) f bs
              | none => match M.cls.find? (fun c' : ClsG => c'.x == c.x) with
                | some c' => match c'.ms.lookup ("__init__" : Str) with
                  | some (key, _) => makeOf c.x (fnSem M j key) bs
                  | none => none
                | none => none) = _
            rw [(T.ms c hmem).1]
            dsimp only
            rw [show M.cls.find? (fun c' : ClsG => c'.x == c.x) = some c from hc]
          cases hl : c.ms.lookup ("__init__" : Str) with
          | none => exact .inl fun bs => by rw [hsem, hl]
          | some p =>
            obtain ⟨key, io⟩ := p
            obtain ⟨c1, c2, c3, c4, c5⟩ := T.cls c hmem
            have hmm := lookup_mem hl
            obtain ⟨f', h1, h2, h3⟩ := (T.ms c hmem).2 _ hmm
            have h4 := List.mem_of_find?_eq_some h1
            obtain ⟨fd', D'⟩ := T.fn f' h4
            obtain ⟨F', B'⟩ := ih j (by omega) f' key h1 fd' D'
            rw [h2, h3] at F'
            exact .inr ⟨j, _, fd', _, _, key, io, rfl, rfl, F', c4, c5, B', fun bs => by rw [hsem, hl]⟩
    refine ⟨_, PSs.nox (dss_list (f := (den M.G (fnSem M k) M.fuel).S f.Z) fun st _ => (den_ok M.fuel).S _ _ g st), ?_⟩
    have hsem' : (match M.defs.find? (fun f => f.x == x) with
      | some f => runF M (fnSem M k) f bs
      | none => match M.cls.find? (fun c => c.x == x) with
        | some c => match c.ms.lookup ("__init__" : Str) with
          | some (key, _) => makeOf x (fnSem M k key) bs
          | none => none
        | none => none) = some (r, bs') := hsem
    rw [hf] at hsem'
    dsimp only at hsem'
    unfold runF at hsem'
    split at hsem'
    · rename_i hbl
      unfold runS at hsem'
      have hl1 : vs.length = bs.length := by rw [hlen, hbl, ok.len]
      have s0 : Sta K H ow (L2.start f.N vs) (bs.map some ++ List.replicate (f.N.length - bs.length) none) := by
        refine ⟨by unfold L2.start; simp [hl1], fun i b hb => ?_, st.dom⟩
        have hi : i < bs.length := by
          by_cases hi : i < bs.length
          · exact hi
          · rw [List.getElem?_append_right (by simpa using hi)] at hb
            rw [List.getElem?_replicate] at hb
            split at hb <;> cases hb
        rw [List.getElem?_append_left (by simpa using hi)] at hb
        obtain ⟨v, v1, v2⟩ := st.rep i b hb
        refine ⟨v, ?_, v2⟩
        unfold L2.start
        rw [List.getElem?_append_left (by rw [List.length_map, hl1]; exact hi)]
        exact v1
      have fin : ∀ (en' : Env) (H' : Hp) (ow' : Ow) (σ' : L2.St), Sta K H' ow' σ' en' → Kp f.Z.pr (L2.start f.N vs) σ' → Sta K H' ow' (vs.map some) (outP f en') := fun en' H' ow' σ' s' kp => by
        refine ⟨by unfold outP; rw [List.length_map, List.length_range, List.length_map, hl1, hbl], fun i b hb => ?_, s'.dom⟩
        obtain ⟨h1, h2, h3⟩ := outP_at hb
        obtain ⟨v, v1, v2⟩ := s'.rep i b h2
        refine ⟨v, ?_, v2⟩
        rw [kp.eqs i h1] at v1
        unfold L2.start at v1
        rw [List.getElem?_append_left (by rw [List.length_map, hl1, hbl]; exact h3)] at v1
        exact v1
      refine ⟨ow, _, s0, ?_⟩
      show GoS K f.Z.pr (L2.start f.N vs) (bodyS M (fnSem M k) f (bs.map some ++ List.replicate (f.N.length - bs.length) none)) H ow _
      cases hb : bodyS M (fnSem M k) f (bs.map some ++ List.replicate (f.N.length - bs.length) none) with
      | none => rw [hb] at hsem'; cases hsem'
      | some o =>
        rw [hb] at hsem'
        cases o with
        | nx en' =>
          cases hsem'
          exact fun H' ow' σ' x s' kp => hq H' ow' .non x (fin en' H' ow' σ' s' kp) (show Rp K _ _ _ from .non)
        | bk en' => cases hsem'
        | ct en' => cases hsem'
        | rt b en' =>
          cases hsem'
          exact fun H' ow' σ' v x s' kp rv => hq H' ow' v x (fin en' H' ow' σ' s' kp) rv
    · cases hsem'
end
end DL

namespace DL
open PySem PySem.W PySem.Spec PyProof.Rows L2
/-! ### the law's def -/
open Classical in
theorem law_of {M : Mod} {K : PySem.W.Frag} {k : Nat} {H : Hp} {a : Addr} {ns : List Int} (hs : SqL K H a (ns.map V.int)) (h : ∃ bs', fnSem M k "law" [.scr ns] = some (.val (.bool true), bs')) :
    spF K (fnSem M k "law") 1 [.ref a] H (fun v _ => v = .bl true) (fun _ _ _ => False) := by
  obtain ⟨bs', e⟩ := h
  let ow : Ow := fun b => if H b = none then .out else .frz
  have fz : Same H (Fz H ow) := fun b o q => (res_at (by show (if H b = none then Lab.out else Lab.frz) = Lab.frz; rw [if_neg (by rw [q]; intro z; cases z)])).trans q
  refine ⟨rfl, ow, [.scr ns], .val (.bool true), bs', ⟨rfl, fun i b hb => ?_, fun b hb => ?_⟩, e, fun H' ow' v _ _ r => rp_bl r⟩
  · cases i with
    | zero =>
      cases hb
      exact ⟨.ref a, rfl, a, rfl, L2.Same.seq fz hs⟩
    | succ i => simp at hb
  · intro z
    refine hb ?_
    show (if H b = none then Lab.out else Lab.frz) = Lab.out
    rw [if_pos z]
theorem facts_of {M : Mod} {P : Program} {w : World} {K : PySem.W.Frag} {h : Heap} {mg : Str → Option Value} {f : Addr} {k : Nat} {d : FDef} (hok : ∀ f ∈ M.defs, FOk f) (hM : M.ok = true) (X : K.In h) (G : h.Ns mainGlobals mg) (hfa : mg ("law" : Str) = some (.ref f)) (c : He.SaysD M.fa M.fn K)
    (hd : M.defs.find? (fun f => f.x == ("law" : Str)) = some d) (hps : d.ps = [("_law_script" : Str)]) (hx : d.x = "law") (hat : d.at_ = (("law" : Str), none)) :
    ∃ fd : FuncData, (∀ (s : Shared) (v : Value), BindsTo s fd ⟨[v], []⟩ [(("_law_script" : Str), v)]) ∧ ∀ base : Heap, FnOk P w K mg base CX0 k f fd [("_law_script" : Str)] (spF K (fnSem M k "law") 1) := by
  have T := told_of hok hM X G c
  have hm := List.mem_of_find?_eq_some hd
  have e := T.glo d hm (by unfold plainF; rw [hat])
  rw [hx, hfa] at e
  cases e
  obtain ⟨fd, F⟩ := T.fn d hm
  have b := FunD.bindsA (ps := d.ps) F (T.ok d hm).bind
  refine ⟨fd, fun s v => ?_, fun base => ?_⟩
  · have q := b s [v] (by rw [hps]; rfl)
    rw [hps] at q
    exact q
  · have q := (fn_all (P := P) (w := w) (base := base) T k d "law" hd fd F).1
    have hl := (T.ok d hm).len
    rw [hps] at q hl
    rw [hl, hat] at q
    exact q
end DL

namespace DL
open PySem PySem.W PySem.Spec PyProof.Rows L2
/-! ### short words for what a text reckons to -/
abbrev pkD (m : M B) : M PArg := bd (mD m) fun d => ret (PArg.d d)
abbrev tupE (ms : List (M D)) : M B := bd (seqM ms) fun ds => lift (tupD ds)
abbrev lstE (ms : List (M D)) : M B := bd (seqM ms) fun ds => lift (lstD ds)
abbrev binE (op : Operator) (a b : M B) : M B := bin2 (mD a) (mD b) fun x y => lift (opS op [x, y])
abbrev biC (sem : List D → Option B) (as : List (M PArg)) : M B := bd (seqM as) fun as => withR as fun ds => lift (sem ds)
abbrev argE (m : M B) : M Arg := bd m toArg
abbrev fnC (cs : Calls) (x : Str) (as : List (M Arg)) : M B := bd (seqM as) fun as => callE (cs x) as
def tgsL : List Tg → Tgs
  | [], [] => some
  | t :: ts, d :: ds => fun en => match t (.val d) en with
    | some en' => tgsL ts ds en'
    | none => none
  | _, _ => fun _ => none
end DL

namespace DL
open PySem PySem.W PySem.Spec PyProof.Rows L2
/-! ### what comes of a reckoning -/
def Ev {α : Type} (m : M α) (en : Env) (Q : α → Env → Prop) : Prop := ∃ a e, m en = some (a, e) ∧ Q a e
def EvS (m : Sm) (en : Env) (Q : Out → Prop) : Prop := ∃ o, m en = some o ∧ Q o
def EvF (cs : Calls) (x : Str) (bs : List B) (Q : B → List (Option B) → Prop) : Prop := ∃ r b', cs x bs = some (r, b') ∧ Q r b'
def EvT (t : Tg) (b : B) (en : Env) (Q : Env → Prop) : Prop := ∃ e, t b en = some e ∧ Q e
section
variable {α β γ : Type} {en : Env} {Q : α → Env → Prop} {Q' : β → Env → Prop} {cs : Calls}
theorem Ev.mono {m : M α} {Q2 : α → Env → Prop} (h : Ev m en Q) (k : ∀ a e, Q a e → Q2 a e) : Ev m en Q2 := let ⟨a, e, h1, h2⟩ := h; ⟨a, e, h1, k a e h2⟩
theorem EvS.mono {m : Sm} {Q Q2 : Out → Prop} (h : EvS m en Q) (k : ∀ o, Q o → Q2 o) : EvS m en Q2 := let ⟨a, h1, h2⟩ := h; ⟨a, h1, k a h2⟩
theorem EvF.mono {x : Str} {bs : List B} {Q Q2 : B → List (Option B) → Prop} (h : EvF cs x bs Q) (k : ∀ r b, Q r b → Q2 r b) : EvF cs x bs Q2 := let ⟨a, e, h1, h2⟩ := h; ⟨a, e, h1, k a e h2⟩
theorem EvF.eq {x : Str} {bs : List B} {r : B} {b' : List (Option B)} {Q : B → List (Option B) → Prop} (h : cs x bs = some (r, b')) (q : Q r b') : EvF cs x bs Q := ⟨r, b', h, q⟩
@[simp ↓] theorem Ev_ret {a : α} : Ev (ret a) en Q = Q a en := propext ⟨fun ⟨_, _, h, q⟩ => by cases h; exact q, fun q => ⟨_, _, rfl, q⟩⟩
@[simp ↓] theorem Ev_stuck : Ev (stuck : M α) en Q = False := propext ⟨fun ⟨_, _, h, _⟩ => (nomatch h), fun h => (nomatch h)⟩
@[simp ↓] theorem Ev_bd {m : M α} {f : α → M β} : Ev (bd m f) en Q' = Ev m en fun a e => Ev (f a) e Q' := propext ⟨fun ⟨b, e2, h, q⟩ => by
    unfold bd at h
    cases e : m en with
    | none => rw [e] at h; cases h
    | some p =>
      obtain ⟨a, e1⟩ := p
      rw [e] at h
      exact ⟨a, e1, e, b, e2, h, q⟩, fun ⟨a, e1, h1, b, e2, h2, q⟩ => ⟨b, e2, by unfold bd; rw [h1]; exact h2, q⟩⟩
@[simp ↓] theorem Ev_bin2 {ma : M α} {mb : M β} {f : α → β → M γ} {Q : γ → Env → Prop} : Ev (bin2 ma mb f) en Q = Ev ma en fun x e => Ev mb e fun y e2 => Ev (f x y) e2 Q := by
  unfold bin2
  rw [Ev_bd]
  simp only [Ev_bd]
theorem Ev_lift' {o : Option B} {Q : B → Env → Prop} : Ev (lift o) en Q = ∃ b, o = some b ∧ Q b en := propext ⟨fun ⟨b, e, h, q⟩ => by
    unfold lift at h
    cases o with
    | none => cases h
    | some b' => cases h; exact ⟨_, rfl, q⟩, fun ⟨b, h, q⟩ => ⟨b, en, by rw [h]; rfl, q⟩⟩
def onB (o : Option B) (P : B → Prop) : Prop := match o with
  | some b => P b
  | none => False
@[simp ↓] theorem onB_some {b : B} {P : B → Prop} : onB (some b) P = P b := rfl
@[simp ↓] theorem onB_none {P : B → Prop} : onB none P = False := rfl
@[simp ↓] theorem onB_map {α : Type} {o : Option α} {f : α → B} {P : B → Prop} : onB (o.map f) P = (match o with
    | some a => P (f a)
    | none => False) := by cases o <;> rfl
@[simp ↓] theorem Ev_lift {o : Option B} {Q : B → Env → Prop} : Ev (lift o) en Q = onB o fun b => Q b en := by
  rw [Ev_lift']
  cases o with
  | none => exact propext ⟨fun ⟨_, h, _⟩ => (nomatch h), fun h => h.elim⟩
  | some b => exact propext ⟨fun ⟨_, h, q⟩ => by cases h; exact q, fun q => ⟨_, rfl, q⟩⟩
@[simp ↓] theorem Ev_toD_val {d : D} {Q : D → Env → Prop} : Ev (toD (.val d)) en Q = Q d en := Ev_ret
@[simp ↓] theorem Ev_toD_lst {ds : List D} {Q : D → Env → Prop} : Ev (toD (.lst ds)) en Q = Q (.list ds) en := Ev_ret
@[simp ↓] theorem Ev_mD {m : M B} {Q : D → Env → Prop} : Ev (mD m) en Q = Ev m en fun b e => Ev (toD b) e Q := Ev_bd
@[simp ↓] theorem Ev_toArg_val {d : D} {Q : Arg → Env → Prop} : Ev (toArg (.val d)) en Q = Q (.b (.val d)) en := Ev_ret
@[simp ↓] theorem Ev_toArg_lst {ds : List D} {Q : Arg → Env → Prop} : Ev (toArg (.lst ds)) en Q = Q (.b (.val (.list ds))) en := Ev_ret
@[simp ↓] theorem Ev_toArg_scr {ns : List Int} {Q : Arg → Env → Prop} : Ev (toArg (.scr ns)) en Q = Q (.b (.scr ns)) en := Ev_ret
@[simp ↓] theorem Ev_toBool {b : Bool} {Q : Bool → Env → Prop} : Ev (toBool (.val (.bool b))) en Q = Q b en := Ev_ret
@[simp ↓] theorem Ev_tb {m : M B} {Q : Bool → Env → Prop} : Ev (tb m) en Q = Ev m en fun b e => Ev (toBool b) e Q := Ev_bd
@[simp ↓] theorem Ev_truE {m : M B} {Q : Bool → Env → Prop} : Ev (truE m) en Q = Ev m en fun b e => Ev (truM b) e Q := Ev_bd
@[simp ↓] theorem Ev_truM_bool {b : Bool} {Q : Bool → Env → Prop} : Ev (truM (.val (.bool b))) en Q = Q b en := Ev_ret
@[simp ↓] theorem Ev_seqB_list {ds : List D} {Q : List D → Env → Prop} : Ev (seqB (.val (.list ds))) en Q = Q ds en := Ev_ret
@[simp ↓] theorem Ev_seqB_tuple {ds : List D} {Q : List D → Env → Prop} : Ev (seqB (.val (.tuple ds))) en Q = Q ds en := Ev_ret
@[simp ↓] theorem Ev_seqB_lst {ds : List D} {Q : List D → Env → Prop} : Ev (seqB (.lst ds)) en Q = Q ds en := Ev_ret
@[simp ↓] theorem Ev_seqB_scr {ns : List Int} {Q : List D → Env → Prop} : Ev (seqB (.scr ns)) en Q = Q (ns.map .int) en := Ev_ret
@[simp ↓] theorem Ev_seqM_nil {Q : List α → Env → Prop} : Ev (seqM []) en Q = Q [] en := Ev_ret
@[simp ↓] theorem Ev_seqM_cons {m : M α} {ms : List (M α)} {Q : List α → Env → Prop} : Ev (seqM (m :: ms)) en Q = Ev m en fun a e => Ev (seqM ms) e fun as e2 => Q (a :: as) e2 := by
  show Ev (bd m fun a => bd (seqM ms) fun as => ret (a :: as)) en Q = _
  simp only [Ev_bd, Ev_ret]
@[simp ↓] theorem Ev_ifM_true {a b : M α} : Ev (ifM true a b) en Q = Ev a en Q := rfl
@[simp ↓] theorem Ev_ifM_false {a b : M α} : Ev (ifM false a b) en Q = Ev b en Q := rfl
@[simp ↓] theorem Ev_iteE {c : M Bool} {a b : M B} {Q : B → Env → Prop} : Ev (iteE c a b) en Q = Ev c en fun t e => Ev (ifM t a b) e Q := Ev_bd
@[simp ↓] theorem Ev_negE {m : M D} {Q : B → Env → Prop} : Ev (negE m) en Q = Ev m en fun d e => Ev (lift (negS [d])) e Q := Ev_bd
@[simp ↓] theorem Ev_notT {m : M Bool} {Q : Bool → Env → Prop} : Ev (notT m) en Q = Ev m en fun b e => Q (!b) e := by
  unfold notT
  simp only [Ev_bd, Ev_ret]
@[simp ↓] theorem Ev_notE {m : M Bool} {Q : B → Env → Prop} : Ev (notE m) en Q = Ev m en fun b e => Q (.val (.bool !b)) e := by
  unfold notE
  simp only [Ev_bd, Ev_ret]
@[simp ↓] theorem Ev_andT1 {m : M Bool} {Q : Bool → Env → Prop} : Ev (andT [m]) en Q = Ev m en Q := rfl
@[simp ↓] theorem Ev_orT1 {m : M Bool} {Q : Bool → Env → Prop} : Ev (orT [m]) en Q = Ev m en Q := rfl
@[simp ↓] theorem Ev_andT {m n : M Bool} {ms : List (M Bool)} {Q : Bool → Env → Prop} : Ev (andT (m :: n :: ms)) en Q = Ev m en fun c e => Ev (ifM c (andT (n :: ms)) (ret false)) e Q := Ev_bd
@[simp ↓] theorem Ev_orT {m n : M Bool} {ms : List (M Bool)} {Q : Bool → Env → Prop} : Ev (orT (m :: n :: ms)) en Q = Ev m en fun c e => Ev (ifM c (ret true) (orT (n :: ms))) e Q := Ev_bd
@[simp ↓] theorem Ev_andE1 {m : M B} {Q : B → Env → Prop} : Ev (andE [m]) en Q = Ev m en Q := rfl
@[simp ↓] theorem Ev_andE {m n : M B} {ms : List (M B)} {Q : B → Env → Prop} : Ev (andE (m :: n :: ms)) en Q = Ev (tb m) en fun c e => Ev (ifM c (andE (n :: ms)) (ret (.val (.bool false)))) e Q := Ev_bd
@[simp ↓] theorem Ev_partM_none {Q : Option Int → Env → Prop} : Ev (partM none) en Q = Q none en := Ev_ret
@[simp ↓] theorem Ev_partM_some {m : M B} {Q : Option Int → Env → Prop} : Ev (partM (some m)) en Q = Ev (mD m) en fun d e => Ev (match d with | .int i => ret (some i) | _ => stuck) e Q := Ev_bd
@[simp ↓] theorem Ev_slE {pa : M PArg} {lo hi : M (Option Int)} {Q : B → Env → Prop} : Ev (slE pa lo hi) en Q = Ev pa en fun x e => Ev lo e fun l e1 => Ev hi e1 fun h e2 => Ev (withR [x] fun ds => lift (match ds with | [d] => slS l h d | _ => none)) e2 Q := by
  unfold slE
  simp only [Ev_bd]
  all_goals rfl
@[simp ↓] theorem Ev_ixE {pa pb : M PArg} {Q : B → Env → Prop} : Ev (ixE pa pb) en Q = Ev pa en fun x e => Ev pb e fun y e2 => Ev (withR [x, y] fun ds => lift (ixS ds)) e2 Q := Ev_bin2
@[simp ↓] theorem Ev_cmpE {op : CmpOp} {pa pb : M PArg} {Q : B → Env → Prop} : Ev (cmpE op pa pb) en Q = Ev pa en fun x e => Ev pb e fun y e2 => Ev (withR [x, y] fun ds => lift (cmpS op ds)) e2 Q := Ev_bin2
@[simp ↓] theorem Ev_chainE {op op' : CmpOp} {ma mb mc : M D} {Q : B → Env → Prop} : Ev (chainE op op' ma mb mc) en Q = Ev ma en fun x e => Ev mb e fun y e2 => Ev (lift (cmpS op [x, y])) e2 fun b e3 => Ev (toBool b) e3 fun c e4 => Ev (match c with | true => bd mc fun z => lift (cmpS op' [y, z]) | false => ret (.val (.bool false))) e4 Q := by
  unfold chainE
  rw [Ev_bin2]
  simp only [Ev_bd, Ev_tb]
  all_goals rfl
@[simp ↓] theorem Ev_revC {t : Bool} {m : M B} {Q : B → Env → Prop} : Ev (revC t m) en Q = Ev (mD m) en fun d e => Ev (lift (revS t [d])) e Q := Ev_bd
theorem Ev_of {m : M α} {a : α} {e : Env} (h : m en = some (a, e)) : Ev m en Q = Q a e := propext ⟨fun ⟨_, _, h2, q⟩ => by
    rw [h] at h2
    cases h2
    exact q, fun q => ⟨_, _, h, q⟩⟩
theorem Ev_no {m : M α} (h : m en = none) : Ev m en Q = False := by
  refine propext ⟨?_, fun h => h.elim⟩
  rintro ⟨_, _, h2, q⟩
  rw [h] at h2
  cases h2
theorem Ev_fun {m : M α} : Ev m en Q = ∃ a e, m en = some (a, e) ∧ Q a e := rfl
@[simp ↓] theorem Ev_varE {i : Nat} {Q : B → Env → Prop} : Ev (varE i) en Q = (match en[i]? with
    | some (some (.val d)) => Q (.val d) en
    | some (some (.lst ds)) => Q (.val (.list ds)) (en.set i (some (.val (.list ds))))
    | some (some (.scr ns)) => Q (.scr ns) en
    | _ => False) := by
  split
  · rename_i d h
    exact Ev_of (by unfold varE; rw [h])
  · rename_i d h
    exact Ev_of (by unfold varE; rw [h])
  · rename_i d h
    exact Ev_of (by unfold varE; rw [h])
  · rename_i h1 h2 h3
    refine Ev_no ?_
    unfold varE
    split
    · exact (h1 _ (by assumption)).elim
    · exact (h2 _ (by assumption)).elim
    · exact (h3 _ (by assumption)).elim
    · rfl
@[simp ↓] theorem Ev_pkE {i : Nat} {Q : PArg → Env → Prop} : Ev (pkE i) en Q = (match en[i]? with
    | some (some (.val d)) => Q (.d d) en
    | some (some (.lst _)) => Q (.pk i) en
    | some (some (.scr _)) => Q (.pk i) en
    | _ => False) := by
  split
  · rename_i d h
    exact Ev_of (by unfold pkE; rw [h])
  · rename_i d h
    exact Ev_of (by unfold pkE; rw [h])
  · rename_i d h
    exact Ev_of (by unfold pkE; rw [h])
  · rename_i h1 h2 h3
    refine Ev_no ?_
    unfold pkE
    split
    · exact (h1 _ (by assumption)).elim
    · exact (h2 _ (by assumption)).elim
    · exact (h3 _ (by assumption)).elim
    · rfl
@[simp ↓] theorem Ev_ioE {i : Nat} {Q : Arg → Env → Prop} : Ev (ioE i) en Q = (match en[i]? with
    | some (some (.lst _)) => Q (.io i) en
    | some (some (.ins _ _)) => Q (.io i) en
    | _ => False) := by
  split
  · rename_i d h
    exact Ev_of (by unfold ioE; rw [h])
  · rename_i c d h
    exact Ev_of (by unfold ioE; rw [h])
  · rename_i h1 h2
    refine Ev_no ?_
    unfold ioE
    split
    · exact (h1 _ (by assumption)).elim
    · exact (h2 _ _ (by assumption)).elim
    · rfl
@[simp ↓] theorem Ev_withR {as : List PArg} {f : List D → M B} {Q : B → Env → Prop} : Ev (withR as f) en Q = (match resL en as with
    | some ds => Ev (f ds) en Q
    | none => False) := by
  cases e : resL en as with
  | none => exact Ev_no (by unfold withR; rw [e])
  | some ds =>
    unfold Ev withR
    rw [e]
@[simp] theorem resL_nil : resL en [] = some [] := rfl
@[simp] theorem resL_cons {a : PArg} {as : List PArg} : resL en (a :: as) = (match resP en a with
    | some d => match resL en as with
      | some ds => some (d :: ds)
      | none => none
    | none => none) := rfl
@[simp] theorem resP_d {d : D} : resP en (.d d) = some d := rfl
@[simp] theorem resP_pk {i : Nat} : resP en (.pk i) = (match en[i]? with
    | some (some (.val d)) => some d
    | some (some (.lst ds)) => some (.list ds)
    | some (some (.scr ns)) => some (.list (ns.map PyData.int))
    | _ => none) := rfl
/-! calls -/
theorem set_self {b : B} {i : Nat} (h : en[i]? = some (some b)) : en.set i (some b) = en := by
  apply List.ext_getElem?
  intro j
  by_cases e : i = j
  · subst e
    rw [List.getElem?_set_self (List.getElem?_eq_some_iff.mp h).1, h]
  · rw [List.getElem?_set_ne e]
theorem putBack_b {as : List Arg} {bs : List (Option B)} (h : ∀ a ∈ as, ∃ b, a = .b b) : putBack en as bs = en := by
  unfold putBack
  apply List.ext_getElem?
  intro i
  rw [List.getElem?_mapIdx]
  have e : posOf as i = none := by
    unfold posOf
    rw [List.findIdx?_eq_none_iff]
    intro a ha
    obtain ⟨b, rfl⟩ := h a ha
    rfl
  rw [e]
  cases en[i]? <;> rfl
theorem call_b {x : Str} {as : List Arg} {bs : List B} {Q : B → Env → Prop} (h : as = bs.map Arg.b) : Ev (callE (cs x) as) en Q = EvF cs x bs fun r _ => Q r en := by
  subst h
  have hb : ∀ a ∈ bs.map Arg.b, ∃ b, a = .b b := fun a ha => by
    obtain ⟨b, _, rfl⟩ := List.mem_map.mp ha
    exact ⟨b, rfl⟩
  have ok : ioOk (bs.map Arg.b) = true := by
    unfold ioOk
    rw [List.all_eq_true]
    intro j _
    have : ioOf (bs.map Arg.b) j = none := by
      unfold ioOf
      rw [List.getElem?_map]
      cases bs[j]? <;> rfl
    rw [this]
  have rs : ∀ bs : List B, resAs en (bs.map Arg.b) = some bs := fun bs => by
    induction bs with
    | nil => rfl
    | cons b bs ih =>
      show (match resAs en (bs.map Arg.b) with | some ds => some (b :: ds) | none => none) = _
      rw [ih]
  unfold Ev EvF callE
  rw [ok, rs bs]
  dsimp only
  apply propext
  constructor
  · rintro ⟨a, e, h, q⟩
    cases e1 : cs x bs with
    | none => rw [e1] at h; cases h
    | some p =>
      rw [e1] at h
      obtain ⟨r, b'⟩ := p
      cases h
      exact ⟨_, _, rfl, by rw [putBack_b hb] at q; exact q⟩
  · rintro ⟨r, b', h, q⟩
    refine ⟨r, _, by rw [h], ?_⟩
    rw [putBack_b hb]
    exact q
@[simp ↓] theorem call_b1 {x : Str} {a : B} {Q : B → Env → Prop} : Ev (callE (cs x) [.b a]) en Q = EvF cs x [a] fun r _ => Q r en := call_b rfl
@[simp ↓] theorem call_b2 {x : Str} {a b : B} {Q : B → Env → Prop} : Ev (callE (cs x) [.b a, .b b]) en Q = EvF cs x [a, b] fun r _ => Q r en := call_b rfl
@[simp ↓] theorem call_b3 {x : Str} {a b c : B} {Q : B → Env → Prop} : Ev (callE (cs x) [.b a, .b b, .b c]) en Q = EvF cs x [a, b, c] fun r _ => Q r en := call_b rfl
@[simp ↓] theorem call_b4 {x : Str} {a b c d : B} {Q : B → Env → Prop} : Ev (callE (cs x) [.b a, .b b, .b c, .b d]) en Q = EvF cs x [a, b, c, d] fun r _ => Q r en := call_b rfl
/-- one own list goes and comes back -/
theorem call_io {x : Str} {i : Nat} {bs : List B} {b : B} {Q : B → Env → Prop} (h : en[i]? = some (some b)) : Ev (callE (cs x) (.io i :: bs.map Arg.b)) en Q = EvF cs x (b :: bs) fun r b' => Q r (en.set i (b'[0]?.getD none)) := by
  have hp : ∀ j, posOf (.io i :: bs.map Arg.b) j = if i = j then some 0 else none := fun j => by
    unfold posOf
    rw [List.findIdx?_cons]
    by_cases e : i = j
    · subst e
      simp [isIo]
    · have e2 : isIo j (.io i) = false := by simp [isIo, e]
      rw [e2, if_neg e]
      have : (bs.map Arg.b).findIdx? (isIo j) = none := by
        rw [List.findIdx?_eq_none_iff]
        intro a ha
        obtain ⟨b, _, rfl⟩ := List.mem_map.mp ha
        rfl
      rw [this]
      rfl
  have ok : ioOk (.io i :: bs.map Arg.b) = true := by
    unfold ioOk
    rw [List.all_eq_true]
    intro j _
    cases j with
    | zero =>
      show (posOf _ i == some 0) = true
      rw [hp, if_pos rfl]
      rfl
    | succ j =>
      have : ioOf (.io i :: bs.map Arg.b) (j + 1) = none := by
        unfold ioOf
        rw [List.getElem?_cons_succ, List.getElem?_map]
        cases bs[j]? <;> rfl
      rw [this]
  have rs : ∀ bs : List B, resAs en (bs.map Arg.b) = some bs := fun bs => by
    induction bs with
    | nil => rfl
    | cons b bs ih =>
      show (match resAs en (bs.map Arg.b) with | some ds => some (b :: ds) | none => none) = _
      rw [ih]
  have rs2 : resAs en (.io i :: bs.map Arg.b) = some (b :: bs) := by
    show (match resA en (.io i) with | some d => (match resAs en (bs.map Arg.b) with | some ds => some (d :: ds) | none => none) | none => none) = _
    have : resA en (.io i) = some b := by
      show (match en[i]? with | some (some b) => some b | _ => none) = some b
      rw [h]
    rw [this, rs bs]
  have pb : ∀ b' : List (Option B), putBack en (.io i :: bs.map Arg.b) b' = en.set i (b'[0]?.getD none) := fun b' => by
    unfold putBack
    apply List.ext_getElem?
    intro j
    rw [List.getElem?_mapIdx, hp]
    by_cases e : i = j
    · subst e
      rw [if_pos rfl, List.getElem?_set_self (List.getElem?_eq_some_iff.mp h).1, h]
      rfl
    · rw [if_neg e, List.getElem?_set_ne e]
      cases en[j]? <;> rfl
  unfold Ev EvF callE
  rw [ok, rs2]
  dsimp only
  apply propext
  constructor
  · rintro ⟨a, e, h, q⟩
    cases e1 : cs x (b :: bs) with
    | none => rw [e1] at h; cases h
    | some p =>
      rw [e1] at h
      obtain ⟨r, b'⟩ := p
      cases h
      exact ⟨_, _, rfl, by rw [pb] at q; exact q⟩
  · rintro ⟨r, b', h, q⟩
    refine ⟨r, _, by rw [h], ?_⟩
    rw [pb]
    exact q
/-- (simp is to leave it) -/
def EvH (m : M B) (en : Env) (Q : B → Env → Prop) : Prop := Ev m en Q
@[simp ↓] theorem call_io0 {x : Str} {i : Nat} {Q : B → Env → Prop} : Ev (callE (cs x) [.io i]) en Q = (match en[i]? with
    | some (some b) => EvF cs x [b] fun r b' => Q r (en.set i (b'[0]?.getD none))
    | _ => EvH (callE (cs x) [.io i]) en Q) := by
  split
  · exact call_io (bs := []) (by assumption)
  · rfl
@[simp ↓] theorem call_io1 {x : Str} {i : Nat} {a : B} {Q : B → Env → Prop} : Ev (callE (cs x) [.io i, .b a]) en Q = (match en[i]? with
    | some (some b) => EvF cs x [b, a] fun r b' => Q r (en.set i (b'[0]?.getD none))
    | _ => EvH (callE (cs x) [.io i, .b a]) en Q) := by
  split
  · exact call_io (bs := [a]) (by assumption)
  · rfl
end
end DL

namespace DL
open PySem PySem.W PySem.Spec PyProof.Rows L2
/-! ### what comes of statements -/
section
variable {en : Env} {Q : Out → Prop} {cs : Calls}
theorem EvS_of {m : Sm} {o : Out} (h : m en = some o) : EvS m en Q = Q o := by
  refine propext ⟨?_, fun q => ⟨_, h, q⟩⟩
  rintro ⟨_, h2, q⟩
  rw [h] at h2
  cases h2
  exact q
theorem EvS_no {m : Sm} (h : m en = none) : EvS m en Q = False := by
  refine propext ⟨?_, fun q => q.elim⟩
  rintro ⟨_, h2, q⟩
  rw [h] at h2
  cases h2
theorem EvT_of {t : Tg} {b : B} {e : Env} {P : Env → Prop} (h : t b en = some e) : EvT t b en P = P e := by
  refine propext ⟨?_, fun q => ⟨_, h, q⟩⟩
  rintro ⟨_, h2, q⟩
  rw [h] at h2
  cases h2
  exact q
theorem EvT_no {t : Tg} {b : B} {P : Env → Prop} (h : t b en = none) : EvT t b en P = False := by
  refine propext ⟨?_, fun q => q.elim⟩
  rintro ⟨_, h2, q⟩
  rw [h] at h2
  cases h2
theorem ev_bind {α : Type} {m : M α} {s : Sm} {k : α → Env → Prop} (h1 : ∀ a e, m en = some (a, e) → EvS s en Q = k a e) (h2 : m en = none → s en = none) : EvS s en Q = Ev m en k := by
  cases e : m en with
  | none => rw [EvS_no (h2 e), Ev_no e]
  | some p =>
    obtain ⟨a, e1⟩ := p
    rw [h1 a e1 e, Ev_of e]
@[simp ↓] theorem EvS_next : EvS nextS en Q = Q (.nx en) := EvS_of rfl
@[simp ↓] theorem EvS_stuck : EvS stuckS en Q = False := EvS_no rfl
@[simp ↓] theorem EvS_nil : EvS (seqsS []) en Q = Q (.nx en) := EvS_of rfl
/-- what comes behind one statement -/
def thenS (as : List Sm) (Q : Out → Prop) : Out → Prop
  | .nx e => EvS (seqsS as) e Q
  | o => Q o
@[simp ↓] theorem thenS_nx {as : List Sm} {e : Env} : thenS as Q (.nx e) = EvS (seqsS as) e Q := rfl
@[simp ↓] theorem thenS_bk {as : List Sm} {e : Env} : thenS as Q (.bk e) = Q (.bk e) := rfl
@[simp ↓] theorem thenS_ct {as : List Sm} {e : Env} : thenS as Q (.ct e) = Q (.ct e) := rfl
@[simp ↓] theorem thenS_rt {as : List Sm} {b : B} {e : Env} : thenS as Q (.rt b e) = Q (.rt b e) := rfl
@[simp ↓] theorem EvS_cons {a : Sm} {as : List Sm} : EvS (seqsS (a :: as)) en Q = EvS a en (thenS as Q) := by
  have e : seqsS (a :: as) en = (match a en with
    | some (.nx en') => seqsS as en'
    | r => r) := rfl
  cases h : a en with
  | none =>
    rw [h] at e
    rw [EvS_no e, EvS_no h]
  | some o =>
    rw [h] at e
    rw [EvS_of h]
    cases o with
    | nx e1 =>
      show EvS _ _ _ = EvS (seqsS as) e1 Q
      unfold EvS
      rw [e]
    | bk e1 => exact EvS_of e
    | ct e1 => exact EvS_of e
    | rt b e1 => exact EvS_of e
@[simp ↓] theorem EvS_retS {m : M B} : EvS (retS m) en Q = Ev m en fun b e => Q (.rt b e) := ev_bind (fun a e h => EvS_of (by unfold retS; rw [h])) fun h => by unfold retS; rw [h]
@[simp ↓] theorem EvS_dropS {m : M B} : EvS (dropS m) en Q = Ev m en fun _ e => Q (.nx e) := ev_bind (fun a e h => EvS_of (by unfold dropS; rw [h])) fun h => by unfold dropS; rw [h]
@[simp ↓] theorem EvS_asgS {t : Tg} {m : M B} : EvS (asgS t m) en Q = Ev m en fun b e => EvT t b e fun e2 => Q (.nx e2) := ev_bind (fun a e h => by
    cases h2 : t a e with
    | none => rw [EvT_no h2]; exact EvS_no (by unfold asgS; rw [h]; dsimp only; rw [h2])
    | some e2 => rw [EvT_of h2]; exact EvS_of (by unfold asgS; rw [h]; dsimp only; rw [h2])) fun h => by unfold asgS; rw [h]
@[simp ↓] theorem EvS_ifS {c : M Bool} {a b : Sm} : EvS (ifS c a b) en Q = Ev c en fun t e => if t = true then EvS a e Q else EvS b e Q := ev_bind (fun t e h => by
    cases t with
    | true =>
      rw [if_pos rfl]
      show EvS _ _ _ = EvS _ _ _
      unfold EvS ifS
      rw [h]
    | false =>
      rw [if_neg Bool.false_ne_true]
      show EvS _ _ _ = EvS _ _ _
      unfold EvS ifS
      rw [h]) fun h => by unfold ifS; rw [h]
@[simp ↓] theorem EvS_forS {mi : M (List D)} {t : Tg} {b : Sm} : EvS (forS mi t b) en Q = Ev mi en fun ds e => EvS (loopS t b ds) e Q := ev_bind (fun ds e h => by
    show EvS _ _ _ = EvS _ _ _
    unfold EvS forS
    rw [h]) fun h => by unfold forS; rw [h]
theorem Ev_ifM {α : Type} {c : Bool} {a b : M α} {P : α → Env → Prop} : Ev (ifM c a b) en P = if c = true then Ev a en P else Ev b en P := by cases c <;> simp
@[simp ↓] theorem EvS_retV {i : Nat} : EvS (retV i) en Q = (match en[i]? with
    | some (some (.lst ds)) => Q (.rt (.lst ds) (en.set i none))
    | some (some (.val d)) => Q (.rt (.val d) en)
    | some (some (.scr ns)) => Q (.rt (.scr ns) en)
    | some (some (.ins c fs)) => Q (.rt (.ins c fs) (en.set i none))
    | some (some (.dk d)) => Q (.rt (.dk d) (en.set i none))
    | some (some (.dt d)) => Q (.rt (.dt d) (en.set i none))
    | _ => False) := by
  cases h : en[i]? with
  | none => exact EvS_no (by unfold retV; rw [h])
  | some o =>
    cases o with
    | none => exact EvS_no (by unfold retV; rw [h])
    | some b => cases b <;> exact EvS_of (by unfold retV; rw [h])
@[simp ↓] theorem EvT_setE {i : Nat} {b : B} {P : Env → Prop} : EvT (setE i) b en P = (i < en.length ∧ P (en.set i (some b))) := by
  by_cases h : i < en.length
  · rw [EvT_of (show setE i b en = some _ by unfold setE; rw [if_pos h])]
    exact propext ⟨fun q => ⟨h, q⟩, fun q => q.2⟩
  · rw [EvT_no (show setE i b en = none by unfold setE; rw [if_neg h])]
    exact propext ⟨fun q => q.elim, fun q => h q.1⟩
def EvTs (t : Tgs) (ds : List D) (en : Env) (P : Env → Prop) : Prop := ∃ e, t ds en = some e ∧ P e
@[simp ↓] theorem EvT_tupT {n : Nat} {t : Tgs} {ds : List D} {P : Env → Prop} : EvT (tupT n t) (.val (.tuple ds)) en P = (ds.length = n ∧ EvTs t ds en P) := by
  by_cases h : ds.length = n
  · unfold EvT EvTs
    have e : tupT n t (.val (.tuple ds)) en = t ds en := by unfold tupT; dsimp only; rw [if_pos h]
    rw [e]
    exact propext ⟨fun q => ⟨h, q⟩, fun q => q.2⟩
  · rw [EvT_no (show tupT n t (.val (.tuple ds)) en = none by unfold tupT; dsimp only; rw [if_neg h])]
    exact propext ⟨fun q => q.elim, fun q => h q.1⟩
@[simp ↓] theorem EvTs_nil {P : Env → Prop} : EvTs (tgsL []) [] en P = P en := by
  refine propext ⟨?_, fun q => ⟨_, rfl, q⟩⟩
  rintro ⟨_, h, q⟩
  cases h
  exact q
@[simp ↓] theorem EvTs_cons {t : Tg} {ts : List Tg} {d : D} {ds : List D} {P : Env → Prop} : EvTs (tgsL (t :: ts)) (d :: ds) en P = EvT t (.val d) en fun e => EvTs (tgsL ts) ds e P := by
  have e : tgsL (t :: ts) (d :: ds) en = (match t (.val d) en with
    | some en' => tgsL ts ds en'
    | none => none) := rfl
  cases h : t (.val d) en with
  | none =>
    rw [EvT_no h]
    rw [h] at e
    refine propext ⟨?_, fun q => q.elim⟩
    rintro ⟨_, h2, q⟩
    rw [e] at h2
    cases h2
  | some e1 =>
    rw [EvT_of h]
    rw [h] at e
    unfold EvTs
    rw [e]
theorem EvT_subT' {i : Nat} {mi : M D} {d : D} {P : Env → Prop} : EvT (subT i mi) (.val d) en P = (∃ ds0, en[i]? = some (some (.lst ds0)) ∧ Ev mi en fun x e => ∃ k ds j, x = .int k ∧ e[i]? = some (some (.lst ds)) ∧ ixN ds.length k = some j ∧ P (e.set i (some (.lst (ds.set j d))))) := by
  apply propext
  constructor
  · rintro ⟨e, h, q⟩
    unfold subT at h
    dsimp only at h
    split at h
    · rename_i ds0 h0
      refine ⟨ds0, h0, ?_⟩
      split at h
      · rename_i k en1 hm
        refine ⟨_, _, hm, ?_⟩
        split at h
        · rename_i ds h3
          split at h
          · rename_i j hj
            cases h
            exact ⟨k, ds, j, rfl, h3, hj, q⟩
          · cases h
        · cases h
      · cases h
    · cases h
  · rintro ⟨ds0, h0, x, e, hm, k, ds, j, rfl, h3, hj, q⟩
    refine ⟨_, ?_, q⟩
    unfold subT
    dsimp only
    rw [h0]
    dsimp only
    rw [hm]
    dsimp only
    rw [h3]
    dsimp only
    rw [hj]
theorem EvS_appS' {i : Nat} {me : M D} : EvS (appS i me) en Q = (∃ ds0, en[i]? = some (some (.lst ds0)) ∧ Ev me en fun d e => ∃ ds, e[i]? = some (some (.lst ds)) ∧ ds.length < cap ∧ Q (.nx (e.set i (some (.lst (ds ++ [d])))))) := by
  apply propext
  constructor
  · rintro ⟨o, h, q⟩
    unfold appS at h
    split at h
    · rename_i ds0 h0
      refine ⟨ds0, h0, ?_⟩
      split at h
      · rename_i d en1 hm
        refine ⟨_, _, hm, ?_⟩
        split at h
        · rename_i ds h3
          split at h
          · rename_i hc
            cases h
            exact ⟨ds, h3, hc, q⟩
          · cases h
        · cases h
      · cases h
    · cases h
  · rintro ⟨ds0, h0, d, e, hm, ds, h3, hc, q⟩
    refine ⟨_, ?_, q⟩
    unfold appS
    rw [h0]
    dsimp only
    rw [hm]
    dsimp only
    rw [h3]
    dsimp only
    rw [if_pos hc]
theorem EvS_augS' {i : Nat} {op : Operator} {me : M D} : EvS (augS i op me) en Q = (∃ d1, en[i]? = some (some (.val d1)) ∧ Ev me en fun d2 e => ∃ d, opA op d1 d2 = some d ∧ i < e.length ∧ Q (.nx (e.set i (some (.val d))))) := by
  apply propext
  constructor
  · rintro ⟨o, h, q⟩
    unfold augS at h
    split at h
    · rename_i d1 h0
      refine ⟨d1, h0, ?_⟩
      split at h
      · rename_i d2 en1 hm
        refine ⟨_, _, hm, ?_⟩
        split at h
        · rename_i d h3
          split at h
          · rename_i hc
            cases h
            exact ⟨d, h3, hc, q⟩
          · cases h
        · cases h
      · cases h
    · cases h
  · rintro ⟨d1, h0, d2, e, hm, d, h3, hc, q⟩
    refine ⟨_, ?_, q⟩
    unfold augS
    rw [h0]
    dsimp only
    rw [hm]
    dsimp only
    rw [h3]
    dsimp only
    rw [if_pos hc]
theorem EvS_parS' {i j : Nat} {ms : M (List D)} : EvS (parS i j ms) en Q = Ev ms en fun ds e => ∃ a b, ds = [a, b] ∧ i < e.length ∧ j < e.length ∧ Q (.nx ((e.set i (some (.val a))).set j (some (.val b)))) := by
  apply propext
  constructor
  · rintro ⟨o, h, q⟩
    unfold parS at h
    split at h
    · rename_i a b en1 hm
      split at h
      · rename_i hc
        cases h
        exact ⟨_, _, hm, a, b, rfl, hc.1, hc.2, q⟩
      · cases h
    · cases h
  · rintro ⟨ds, e, hm, a, b, rfl, h1, h2, q⟩
    refine ⟨_, ?_, q⟩
    unfold parS
    rw [hm]
    dsimp only
    rw [if_pos ⟨h1, h2⟩]
theorem ex_match {α : Type} {o : Option α} {P : α → Prop} : (∃ a, o = some a ∧ P a) = (match o with
    | some a => P a
    | none => False) := by
  cases o with
  | none => exact propext ⟨fun ⟨_, h, _⟩ => (nomatch h), fun h => h.elim⟩
  | some b => exact propext ⟨fun ⟨_, h, q⟩ => by cases h; exact q, fun q => ⟨_, rfl, q⟩⟩
theorem ex_lst {o : Option (Option B)} {P : List D → Prop} : (∃ ds, o = some (some (.lst ds)) ∧ P ds) = (match o with
    | some (some (.lst ds)) => P ds
    | _ => False) := by
  apply propext
  constructor
  · rintro ⟨ds, rfl, q⟩
    exact q
  · intro q
    split at q
    · exact ⟨_, rfl, q⟩
    · exact q.elim
@[simp ↓] theorem EvS_appS {i : Nat} {me : M D} : EvS (appS i me) en Q = (match en[i]? with
    | some (some (.lst _)) => Ev me en fun d e => (match e[i]? with
      | some (some (.lst ds)) => ds.length < cap ∧ Q (.nx (e.set i (some (.lst (ds ++ [d])))))
      | _ => False)
    | _ => False) := by
  rw [EvS_appS', ex_lst]
  simp only [ex_lst]
theorem evT_bind {α : Type} {m : M α} {t : Tg} {b : B} {P : Env → Prop} {k : α → Env → Prop} (h1 : ∀ a e, m en = some (a, e) → EvT t b en P = k a e) (h2 : m en = none → t b en = none) : EvT t b en P = Ev m en k := by
  cases e : m en with
  | none => rw [EvT_no (h2 e), Ev_no e]
  | some p =>
    obtain ⟨a, e1⟩ := p
    rw [h1 a e1 e, Ev_of e]
@[simp ↓] theorem EvT_subT {i : Nat} {mi : M D} {d : D} {P : Env → Prop} : EvT (subT i mi) (.val d) en P = (match en[i]? with
    | some (some (.lst _)) => Ev mi en fun x e => (match x with
      | .int k => (match e[i]? with
        | some (some (.lst ds)) => (match ixN ds.length k with
          | some j => P (e.set i (some (.lst (ds.set j d))))
          | none => False)
        | _ => False)
      | _ => False)
    | _ => False) := by
  split
  · rename_i ds0 h
    refine evT_bind (fun x e hm => ?_) fun hm => by unfold subT; dsimp only; rw [h]; dsimp only; rw [hm]
    cases x with
    | int k =>
      dsimp only
      split
      · rename_i ds h3
        cases hj : ixN ds.length k with
        | none => exact EvT_no (by unfold subT; dsimp only; rw [h]; dsimp only; rw [hm]; dsimp only; rw [h3]; dsimp only; rw [hj])
        | some j => exact EvT_of (by unfold subT; dsimp only; rw [h]; dsimp only; rw [hm]; dsimp only; rw [h3]; dsimp only; rw [hj])
      · rename_i h3
        refine EvT_no ?_
        unfold subT
        dsimp only
        rw [h]
        dsimp only
        rw [hm]
        dsimp only
        split
        · exact (h3 _ (by assumption)).elim
        · rfl
    | _ => exact EvT_no (by unfold subT; dsimp only; rw [h]; dsimp only; rw [hm])
  · rename_i h
    refine EvT_no ?_
    unfold subT
    dsimp only
    split
    · exact (h _ (by assumption)).elim
    · rfl
@[simp ↓] theorem EvS_augS {i : Nat} {op : Operator} {me : M D} : EvS (augS i op me) en Q = (match en[i]? with
    | some (some (.val d1)) => Ev me en fun d2 e => (match opA op d1 d2 with
      | some d => i < e.length ∧ Q (.nx (e.set i (some (.val d))))
      | none => False)
    | _ => False) := by
  split
  · rename_i d1 h
    refine ev_bind (fun d2 e hm => ?_) fun hm => by unfold augS; rw [h]; dsimp only; rw [hm]
    cases ho : opA op d1 d2 with
    | none => exact EvS_no (by unfold augS; rw [h]; dsimp only; rw [hm]; dsimp only; rw [ho])
    | some d =>
      dsimp only
      by_cases hl : i < e.length
      · exact (EvS_of (by unfold augS; rw [h]; dsimp only; rw [hm]; dsimp only; rw [ho]; dsimp only; rw [if_pos hl])).trans (propext ⟨fun q => ⟨hl, q⟩, fun q => q.2⟩)
      · exact (EvS_no (by unfold augS; rw [h]; dsimp only; rw [hm]; dsimp only; rw [ho]; dsimp only; rw [if_neg hl])).trans (propext ⟨fun q => q.elim, fun q => (hl q.1).elim⟩)
  · rename_i h
    refine EvS_no ?_
    unfold augS
    split
    · exact (h _ (by assumption)).elim
    · rfl
@[simp ↓] theorem EvS_parS {i j : Nat} {ms : M (List D)} : EvS (parS i j ms) en Q = Ev ms en fun ds e => (match ds with
    | [a, b] => i < e.length ∧ j < e.length ∧ Q (.nx ((e.set i (some (.val a))).set j (some (.val b))))
    | _ => False) := by
  rw [EvS_parS']
  congr
  funext ds e
  apply propext
  constructor
  · rintro ⟨a, b, rfl, q⟩
    exact q
  · intro q
    split at q
    · exact ⟨_, _, rfl, q⟩
    · exact q.elim
/-- a loop by its invariant: what is left, the state -/
theorem EvS_loop {t : Tg} {body : Sm} (Inv : List D → Env → Prop) {ds : List D} (h0 : Inv ds en)
    (step : ∀ d ds en, Inv (d :: ds) en → EvT t (.val d) en fun e1 => EvS body e1 fun o => match o with
      | .nx e => Inv ds e
      | .ct e => Inv ds e
      | .bk e => Q (.nx e)
      | .rt b e => Q (.rt b e))
    (fin : ∀ en, Inv [] en → Q (.nx en)) : EvS (loopS t body ds) en Q := by
  induction ds generalizing en with
  | nil => exact ⟨_, rfl, fin _ h0⟩
  | cons d ds ih =>
    obtain ⟨e1, h1, o, h2, q⟩ := step d ds en h0
    have e : loopS t body (d :: ds) en = (match t (.val d) en with
      | none => none
      | some en1 => match body en1 with
        | some (.nx en2) => loopS t body ds en2
        | some (.ct en2) => loopS t body ds en2
        | some (.bk en2) => some (.nx en2)
        | some (.rt b en2) => some (.rt b en2)
        | none => none) := rfl
    rw [h1] at e
    dsimp only at e
    rw [h2] at e
    cases o with
    | nx e2 =>
      obtain ⟨o, h3, q3⟩ := ih q
      exact ⟨o, e.trans h3, q3⟩
    | ct e2 =>
      obtain ⟨o, h3, q3⟩ := ih q
      exact ⟨o, e.trans h3, q3⟩
    | bk e2 => exact ⟨_, e, q⟩
    | rt b e2 => exact ⟨_, e, q⟩
/-- a comprehension -/
theorem Ev_lcE {vs : List Nat} {mi : M (List D)} {asg : Tg} {tt : M Bool} {te : M D} {P : B → Env → Prop} : Ev (lcE vs mi asg tt te) en P = Ev mi en fun ds e => ∃ acc e2, lcL vs asg tt te ds [] e = some (acc, e2) ∧ P (.lst acc) (restE vs e e2) := by
  apply propext
  constructor
  · rintro ⟨b, e, h, q⟩
    unfold lcE at h
    cases h1 : mi en with
    | none => rw [h1] at h; cases h
    | some p =>
      obtain ⟨ds, e1⟩ := p
      rw [h1] at h
      dsimp only at h
      cases h2 : lcL vs asg tt te ds [] e1 with
      | none => rw [h2] at h; cases h
      | some p2 =>
        obtain ⟨acc, e2⟩ := p2
        rw [h2] at h
        cases h
        exact ⟨ds, e1, h1, acc, e2, h2, q⟩
  · rintro ⟨ds, e1, h1, acc, e2, h2, q⟩
    refine ⟨_, _, ?_, q⟩
    unfold lcE
    rw [h1]
    dsimp only
    rw [h2]
theorem lc_of {vs : List Nat} {asg : Tg} {tt : M Bool} {te : M D} {ds acc : List D} (Inv : List D → List D → Env → Prop) (h0 : Inv ds acc en)
    (step : ∀ d ds acc en, Inv (d :: ds) acc en → EvT asg (.val d) (wipeE en vs) fun e1 => Ev tt e1 fun b e2 => if b = true then Ev te e2 fun y e3 => acc.length < cap ∧ Inv ds (acc ++ [y]) e3 else Inv ds acc e2) :
    ∃ acc' e2, lcL vs asg tt te ds acc en = some (acc', e2) ∧ Inv [] acc' e2 := by
  induction ds generalizing acc en with
  | nil => exact ⟨_, _, rfl, h0⟩
  | cons d ds ih =>
    obtain ⟨e1, h1, b, e2, h2, q⟩ := step d ds acc en h0
    have e : lcL vs asg tt te (d :: ds) acc en = (match asg (.val d) (wipeE en vs) with
      | none => none
      | some en1 => match tt en1 with
        | none => none
        | some (false, en2) => lcL vs asg tt te ds acc en2
        | some (true, en2) => match te en2 with
          | none => none
          | some (y, en3) => if acc.length < cap then lcL vs asg tt te ds (acc ++ [y]) en3 else none) := rfl
    rw [h1] at e
    dsimp only at e
    rw [h2] at e
    cases b with
    | false =>
      rw [if_neg Bool.false_ne_true] at q
      obtain ⟨acc', e3, h3, q3⟩ := ih q
      exact ⟨acc', e3, e.trans h3, q3⟩
    | true =>
      rw [if_pos rfl] at q
      obtain ⟨y, e3, h3, hc, q3⟩ := q
      dsimp only at e
      rw [h3] at e
      dsimp only at e
      rw [if_pos hc] at e
      obtain ⟨acc', e4, h4, q4⟩ := ih q3
      exact ⟨acc', e4, e.trans h4, q4⟩
/-- how a def ends -/
def fnEnd (f : FDef) (P : B → List (Option B) → Prop) : Out → Prop
  | .rt b e => P b (outP f e)
  | .nx e => P (.val .none) (outP f e)
  | _ => False
@[simp ↓] theorem fnEnd_rt {f : FDef} {P : B → List (Option B) → Prop} {b : B} {e : Env} : fnEnd f P (.rt b e) = P b (outP f e) := rfl
@[simp ↓] theorem fnEnd_nx {f : FDef} {P : B → List (Option B) → Prop} {e : Env} : fnEnd f P (.nx e) = P (.val .none) (outP f e) := rfl
/-- a def's call, by its text -/
theorem EvF_fn {M : Mod} {k : Nat} {x : Str} {f : FDef} {s : Sm} {bs : List B} {P : B → List (Option B) → Prop} (hf : M.defs.find? (fun f => f.x == x) = some f) (hs : bodyS M (fnSem M k) f = s) (hl : bs.length = f.ps.length)
    (h : EvS s (bs.map some ++ List.replicate (f.N.length - bs.length) none) (fnEnd f P)) : EvF (fnSem M (k + 1)) x bs P := by
  obtain ⟨o, h1, q⟩ := h
  have e : fnSem M (k + 1) x bs = (match M.defs.find? (fun f => f.x == x) with
    | some f => runF M (fnSem M k) f bs
    | none => match M.cls.find? (fun c => c.x == x) with
      | some c => match c.ms.lookup ("__init__" : Str) with
        | some (key, _) => makeOf x (fnSem M k key) bs
        | none => none
      | none => none) := rfl
  rw [hf] at e
  dsimp only at e
  unfold runF at e
  rw [if_pos hl, hs] at e
  unfold runS at e
  rw [h1] at e
  cases o with
  | rt b en => exact ⟨_, _, e, q⟩
  | nx en => exact ⟨_, _, e, q⟩
  | bk en => exact q.elim
  | ct en => exact q.elim
/-- a new instance, by its __init__ -/
theorem EvF_mk {M : Mod} {k : Nat} {x key : Str} {c : ClsG} {io : List Bool} {bs : List B} {P : B → List (Option B) → Prop} (hf : M.defs.find? (fun f => f.x == x) = none) (hc : M.cls.find? (fun c => c.x == x) = some c) (hi : c.ms.lookup ("__init__" : Str) = some (key, io))
    (h : EvF (fnSem M k) key (.ins x [] :: bs) fun r b => r = .val .none ∧ (match b with
      | some (.ins c' fs) :: _ => c' = x ∧ P (.ins x fs) []
      | _ => False)) : EvF (fnSem M (k + 1)) x bs P := by
  obtain ⟨r, b', h1, rfl, q⟩ := h
  have e : fnSem M (k + 1) x bs = (match M.defs.find? (fun f => f.x == x) with
    | some f => runF M (fnSem M k) f bs
    | none => match M.cls.find? (fun c => c.x == x) with
      | some c => match c.ms.lookup ("__init__" : Str) with
        | some (key, _) => makeOf x (fnSem M k key) bs
        | none => none
      | none => none) := rfl
  rw [hf, hc] at e
  dsimp only at e
  rw [hi] at e
  dsimp only at e
  unfold makeOf at e
  rw [h1] at e
  split at q
  · rename_i c' fs rest
    obtain ⟨rfl, q⟩ := q
    dsimp only at e
    rw [if_pos rfl] at e
    exact ⟨_, _, e, q⟩
  · exact q.elim
/-! a comprehension that leaves all as it was -/
def keepE (vs : List Nat) (en : Env) : Env := en.mapIdx fun i b => match vs.contains i with
  | true => keepB b
  | false => b
theorem wipeE_at {vs : List Nat} {e : Env} {i : Nat} : (wipeE e vs)[i]? = if i ∈ vs then (e[i]?).map fun _ => none else e[i]? := by
  induction vs with
  | nil => simp [wipeE]
  | cons v vs ih =>
    unfold wipeE
    by_cases h : v = i
    · subst h
      rw [List.getElem?_set, if_pos rfl, wipeE_len]
      simp
      by_cases h2 : v < e.length
      · rw [if_pos h2, List.getElem?_eq_getElem h2]
        rfl
      · rw [if_neg h2, List.getElem?_eq_none (by omega)]
        rfl
    · rw [List.getElem?_set_ne h, ih]
      have : (i ∈ v :: vs) = (i ∈ vs) := by simp [Ne.symm h]
      simp only [this]
theorem rest_keep {vs : List Nat} {e e2 : Env} (h : wipeE e2 vs = wipeE e vs) : restE vs e e2 = keepE vs e := by
  have hl : e2.length = e.length := by rw [← wipeE_len vs, h, wipeE_len]
  apply List.ext_getElem?
  intro i
  unfold restE keepE
  rw [List.getElem?_mapIdx, List.getElem?_mapIdx]
  have h1 := congrArg (fun l : Env => l[i]?) h
  simp only [wipeE_at] at h1
  cases c : vs.contains i with
  | true =>
    dsimp only
    by_cases hi : i < e.length
    · rw [List.getElem?_eq_getElem hi, List.getElem?_eq_getElem (by omega)]
      rfl
    · rw [List.getElem?_eq_none (by omega), List.getElem?_eq_none (by omega)]
      rfl
  | false =>
    dsimp only
    have hn : i ∉ vs := by simpa using c
    rw [if_neg hn, if_neg hn] at h1
    rw [h1]
theorem Ev_lc_pure {vs : List Nat} {mi : M (List D)} {asg : Tg} {te : M D} {P : B → Env → Prop} (g : D → D) (h : Ev mi en fun ds e => ds.length ≤ cap ∧ (∀ d ∈ ds, EvT asg (.val d) (wipeE e vs) fun e1 => Ev te e1 fun y e3 => y = g d ∧ wipeE e3 vs = wipeE e vs) ∧ P (.lst (ds.map g)) (keepE vs e)) :
    Ev (lcE vs mi asg (ret true) te) en P := by
  rw [Ev_lcE]
  refine h.mono fun ds e ⟨hc, hs, hp⟩ => ?_
  obtain ⟨acc, e2, h1, rem, done, h2, h3, h4, h5⟩ := lc_of (vs := vs) (asg := asg) (tt := ret true) (te := te) (ds := ds) (acc := []) (en := e)
    (fun rem acc e' => ∃ rem' done, rem = rem' ∧ acc = done.map g ∧ ds = done ++ rem' ∧ wipeE e' vs = wipeE e vs) ⟨ds, [], rfl, rfl, rfl, rfl⟩ (by
      rintro d ds' acc e' ⟨rem, done, rfl, rfl, hd, hw⟩
      rw [hw]
      obtain ⟨e1, t1, y, e3, t2, hy, hw3⟩ := hs d (by rw [hd]; simp)
      refine ⟨e1, t1, true, e1, rfl, ?_⟩
      show Ev te e1 _
      refine ⟨y, e3, t2, ?_, ds', done ++ [d], rfl, by simp [hy], by simp [hd], hw3⟩
      rw [List.length_map]
      have := congrArg List.length hd
      simp at this
      omega)
  subst h2 h3
  simp at h4
  subst h4
  refine ⟨_, _, h1, ?_⟩
  rw [rest_keep h5]
  exact hp
end
end DL

namespace DL
open PySem PySem.W PySem.Spec PyProof.Rows L2
/-! ### primitives, for simp -/
section
variable {ds es : List D} {lo hi : Option Int} {i j : Int} {x y : Str} {b : Bool}
@[simp] theorem sl_list : slS lo hi (.list ds) = some (.lst (cutL ds lo hi)) := rfl
@[simp] theorem sl_tuple : slS lo hi (.tuple ds) = some (.val (.tuple (cutL ds lo hi))) := rfl
@[simp] theorem cut_from1 {α : Type} {xs : List α} : cutL xs (some 1) none = xs.drop 1 := by
  unfold cutL HT.sIx
  cases xs with
  | nil => rfl
  | cons a xs => simp
@[simp] theorem cut_to1 {α : Type} {xs : List α} : cutL xs none (some 1) = xs.take 1 := by
  unfold cutL HT.sIx
  cases xs with
  | nil => rfl
  | cons a xs => simp
@[simp] theorem list_of_list : listS [.list ds] = some (.lst ds) := rfl
@[simp] theorem list_of_tuple : listS [.tuple ds] = some (.lst ds) := rfl
@[simp] theorem tuple_of_list : tupleS [.list ds] = some (.val (.tuple ds)) := rfl
@[simp] theorem tuple_of_tuple : tupleS [.tuple ds] = some (.val (.tuple ds)) := rfl
@[simp] theorem len_list : lenS [.list ds] = some (.val (.int ds.length)) := rfl
@[simp] theorem len_tuple : lenS [.tuple ds] = some (.val (.int ds.length)) := rfl
@[simp] theorem abs_int : absS [.int i] = some (.val (.int (if i < 0 then -i else i))) := rfl
@[simp] theorem max_int : maxS [.int i, .int j] = some (.val (.int (if j > i then j else i))) := rfl
@[simp] theorem min_int : minS [.int i, .int j] = some (.val (.int (if j < i then j else i))) := rfl
@[simp] theorem int_int : intS [.int i] = some (.val (.int i)) := rfl
@[simp] theorem int_bool : intS [.bool b] = some (.val (.int (if b then 1 else 0))) := rfl
@[simp] theorem neg_int : negS [.int i] = some (.val (.int (-i))) := rfl
@[simp] theorem op_add : opS .Add [.int i, .int j] = some (.val (.int (i + j))) := rfl
@[simp] theorem op_sub : opS .Sub [.int i, .int j] = some (.val (.int (i - j))) := rfl
theorem op_mul : opS .Mult [.int i, .int j] = if mulOk i j = true then some (.val (.int (i * j))) else none := rfl
theorem op_div : opS .FloorDiv [.int i, .int j] = if 0 < j ∧ j < 2 ^ 64 then some (.val (.int (i / j))) else none := rfl
theorem op_mod : opS .Mod [.int i, .int j] = if 0 < j then some (.val (.int (i % j))) else none := rfl
theorem op_pow : opS .Pow [.int i, .int j] = if 0 ≤ j ∧ j ≤ 1000 ∧ i.natAbs < 2 ^ 60 then some (.val (.int (i ^ j.toNat))) else none := rfl
@[simp] theorem cmp_lt : cmpS .Lt [.int i, .int j] = some (.val (.bool (decide (i < j)))) := rfl
@[simp] theorem cmp_le : cmpS .LtE [.int i, .int j] = some (.val (.bool (decide (i ≤ j)))) := rfl
@[simp] theorem cmp_gt : cmpS .Gt [.int i, .int j] = some (.val (.bool (decide (j < i)))) := rfl
@[simp] theorem cmp_ge : cmpS .GtE [.int i, .int j] = some (.val (.bool (decide (j ≤ i)))) := rfl
@[simp] theorem cmp_eqI : cmpS .Eq [.int i, .int j] = some (.val (.bool (decide (i = j)))) := rfl
@[simp] theorem cmp_neI : cmpS .NotEq [.int i, .int j] = some (.val (.bool (!decide (i = j)))) := rfl
theorem cmp_eqS' {neg : Bool} (h : SeqAt.shaped (.str x) = true) (h2 : SeqAt.shaped (.str y) = true) : eqS neg [.str x, .str y] = some (.val (.bool (ng neg (x == y)))) := by
  unfold eqS
  dsimp only
  rw [h, h2]
  simp [PyData.eqv]
@[simp] theorem ix_list : ixS [.list ds, .int i] = (atI ds i).map B.val := rfl
@[simp] theorem ix_tuple : ixS [.tuple ds, .int i] = (atI ds i).map B.val := rfl
@[simp] theorem atI_ofNat {α : Type} {xs : List α} {n : Nat} : atI xs (n : Int) = xs[n]? := by
  unfold atI ixN
  rw [if_pos (by omega)]
  by_cases h : (n : Int) < xs.length
  · rw [if_pos h]
    show xs[(n : Int).toNat]? = _
    rw [Int.toNat_natCast]
  · rw [if_neg h, List.getElem?_eq_none (by omega)]
    rfl
@[simp] theorem atI_0 {α : Type} {xs : List α} : atI xs 0 = xs[0]? := atI_ofNat (n := 0)
@[simp] theorem atI_1 {α : Type} {xs : List α} : atI xs 1 = xs[1]? := atI_ofNat (n := 1)
@[simp] theorem atI_2 {α : Type} {xs : List α} : atI xs 2 = xs[2]? := atI_ofNat (n := 2)
@[simp] theorem atI_3 {α : Type} {xs : List α} : atI xs 3 = xs[3]? := atI_ofNat (n := 3)
theorem atI_nat {α : Type} {xs : List α} {i : Int} (h : 0 ≤ i) : atI xs i = xs[i.toNat]? := by
  have e : atI xs ((i.toNat : Nat) : Int) = xs[i.toNat]? := atI_ofNat
  rwa [Int.toNat_of_nonneg h] at e
@[simp] theorem atI_last {α : Type} {xs : List α} : atI xs (-1) = xs.getLast? := by
  unfold atI ixN
  rw [if_neg (by decide)]
  cases xs with
  | nil => rfl
  | cons a xs =>
    rw [if_pos (by simp; omega)]
    rw [List.getLast?_eq_getElem?]
    show (a :: xs)[((-1 : Int) + ((a :: xs).length : Nat)).toNat]? = _
    congr 1
    simp
    omega
@[simp] theorem ixN_0 {n : Nat} : ixN (n + 1) 0 = some 0 := by
  unfold ixN
  simp
@[simp] theorem ixN_32 : ixN 3 2 = some 2 := rfl
@[simp] theorem rev_t : revS true [.list ds] = some (.val (.tuple ds.reverse)) := rfl
@[simp] theorem rev_t2 : revS true [.tuple ds] = some (.val (.tuple ds.reverse)) := rfl
@[simp] theorem rev_f2 : revS false [.tuple ds] = some (.lst ds.reverse) := rfl
@[simp] theorem rev_f : revS false [.list ds] = some (.lst ds.reverse) := rfl
theorem tup_small (h : ds.length ≤ cap) : tupD ds = some (.val (.tuple ds)) := by unfold tupD; rw [if_pos h]
theorem lst_small (h : ds.length ≤ cap) : lstD ds = some (.lst ds) := by unfold lstD; rw [if_pos h]
@[simp ↓] theorem Ev_rangeM1 {en : Env} {Q : List D → Env → Prop} (h : small62 i = true) : Ev (rangeM1 [.int i]) en Q = Q (rangeD 0 i.toNat) en := by
  show Ev (if small62 i = true then ret (rangeD 0 i.toNat) else stuck) en Q = _
  rw [if_pos h, Ev_ret]
theorem small62_of (h1 : -(2 ^ 62) ≤ i) (h2 : i < 2 ^ 62) : small62 i = true := by
  unfold small62
  rw [Bool.and_eq_true, decide_eq_true_eq, decide_eq_true_eq]
  exact ⟨h1, h2⟩
theorem Ev_zipM {s : Bool} {d e : D} {en : Env} {Q : List D → Env → Prop} (h1 : seqD d = some ds) (h2 : seqD e = some es) (h3 : (!s || ds.length == es.length) = true) : Ev (zipM s [d, e]) en Q = Q (List.zipWith pairD ds es) en := by
  refine Ev_of ?_
  unfold zipM
  dsimp only
  rw [h1, h2]
  dsimp only
  rw [if_pos h3]
  rfl
@[simp] theorem seqD_list : seqD (.list ds) = some ds := rfl
@[simp] theorem seqD_tuple : seqD (.tuple ds) = some ds := rfl
@[simp ↓] theorem Ev_zip_ll {s : Bool} {en : Env} {Q : List D → Env → Prop} : Ev (zipM s [.list ds, .list es]) en Q = ((s = true → ds.length = es.length) ∧ Q (List.zipWith pairD ds es) en) := by
  by_cases h : (!s || ds.length == es.length) = true
  · rw [Ev_zipM rfl rfl h]
    refine propext ⟨fun q => ⟨fun z => by rw [z] at h; simpa using h, q⟩, fun q => q.2⟩
  · rw [Ev_no (by show (if (!s || ds.length == es.length) = true then ret (List.zipWith pairD ds es) else stuck) en = none; rw [if_neg h]; rfl)]
    refine propext ⟨fun q => q.elim, fun q => h ?_⟩
    cases s with
    | false => rfl
    | true => simpa using q.1 rfl
@[simp ↓] theorem Ev_zip_lt {s : Bool} {en : Env} {Q : List D → Env → Prop} : Ev (zipM s [.list ds, .tuple es]) en Q = ((s = true → ds.length = es.length) ∧ Q (List.zipWith pairD ds es) en) := by
  by_cases h : (!s || ds.length == es.length) = true
  · rw [Ev_zipM rfl rfl h]
    refine propext ⟨fun q => ⟨fun z => by rw [z] at h; simpa using h, q⟩, fun q => q.2⟩
  · rw [Ev_no (by show (if (!s || ds.length == es.length) = true then ret (List.zipWith pairD ds es) else stuck) en = none; rw [if_neg h]; rfl)]
    refine propext ⟨fun q => q.elim, fun q => h ?_⟩
    cases s with
    | false => rfl
    | true => simpa using q.1 rfl
@[simp ↓] theorem Ev_zip_tl {s : Bool} {en : Env} {Q : List D → Env → Prop} : Ev (zipM s [.tuple ds, .list es]) en Q = ((s = true → ds.length = es.length) ∧ Q (List.zipWith pairD ds es) en) := by
  by_cases h : (!s || ds.length == es.length) = true
  · rw [Ev_zipM rfl rfl h]
    refine propext ⟨fun q => ⟨fun z => by rw [z] at h; simpa using h, q⟩, fun q => q.2⟩
  · rw [Ev_no (by show (if (!s || ds.length == es.length) = true then ret (List.zipWith pairD ds es) else stuck) en = none; rw [if_neg h]; rfl)]
    refine propext ⟨fun q => q.elim, fun q => h ?_⟩
    cases s with
    | false => rfl
    | true => simpa using q.1 rfl
@[simp ↓] theorem Ev_zip_tt {s : Bool} {en : Env} {Q : List D → Env → Prop} : Ev (zipM s [.tuple ds, .tuple es]) en Q = ((s = true → ds.length = es.length) ∧ Q (List.zipWith pairD ds es) en) := by
  by_cases h : (!s || ds.length == es.length) = true
  · rw [Ev_zipM rfl rfl h]
    refine propext ⟨fun q => ⟨fun z => by rw [z] at h; simpa using h, q⟩, fun q => q.2⟩
  · rw [Ev_no (by show (if (!s || ds.length == es.length) = true then ret (List.zipWith pairD ds es) else stuck) en = none; rw [if_neg h]; rfl)]
    refine propext ⟨fun q => q.elim, fun q => h ?_⟩
    cases s with
    | false => rfl
    | true => simpa using q.1 rfl
@[simp ↓] theorem Ev_enum_l {en : Env} {Q : List D → Env → Prop} : Ev (enumM [.list ds]) en Q = Q (enumD ds) en := Ev_of rfl
@[simp ↓] theorem Ev_enum_t {en : Env} {Q : List D → Env → Prop} : Ev (enumM [.tuple ds]) en Q = Q (enumD ds) en := Ev_of rfl
@[simp] theorem max_ints {n : Int} {ns : List Int} : maxS [.list ((n :: ns).map .int)] = some (.val (.int (ns.foldl max n))) := by
  have e : ∀ l : List D, maxS [.list l] = (match ints? l with
      | some ns => (maxL ns).map B.val
      | none => none) := fun l => rfl
  rw [e, ints?_map]
  rfl
@[simp] theorem any_bools {bs : List Bool} : anyS [.list (bs.map .bool)] = some (.val (.bool (bs.any id))) := by
  unfold anyS
  dsimp only
  rw [if_pos (by rw [List.all_map]; exact List.all_eq_true.mpr fun _ _ => rfl), List.any_map]
  congr
@[simp] theorem all_bools {bs : List Bool} : allS [.list (bs.map .bool)] = some (.val (.bool (bs.all id))) := by
  unfold allS
  dsimp only
  rw [if_pos (by rw [List.all_map]; exact List.all_eq_true.mpr fun _ _ => rfl), List.all_map]
  congr
theorem Ev_lc_on {α : Type} {en : Env} {vs : List Nat} {mi : M (List D)} {asg : Tg} {te : M D} {P : B → Env → Prop} (f g : α → D) (xs : List α) (e : Env) (hmi : Ev mi en fun ds e' => ds = xs.map f ∧ e' = e) (hc : xs.length ≤ cap)
    (hs : ∀ x ∈ xs, EvT asg (.val (f x)) (wipeE e vs) fun e1 => Ev te e1 fun y e3 => y = g x ∧ wipeE e3 vs = wipeE e vs) (hp : P (.lst (xs.map g)) (keepE vs e)) : Ev (lcE vs mi asg (ret true) te) en P := by
  rw [Ev_lcE]
  refine hmi.mono ?_
  rintro ds e' ⟨rfl, rfl⟩
  obtain ⟨acc, e2, h1, rem, done, h2, h3, h4, h5⟩ := lc_of (vs := vs) (asg := asg) (tt := ret true) (te := te) (ds := xs.map f) (acc := []) (en := e')
    (fun rem acc e2 => ∃ rem' done : List α, rem = rem'.map f ∧ acc = done.map g ∧ xs = done ++ rem' ∧ wipeE e2 vs = wipeE e' vs) ⟨xs, [], rfl, rfl, rfl, rfl⟩ (by
      rintro d ds' acc e2 ⟨rem, done, hr, rfl, hd, hw⟩
      cases rem with
      | nil => cases hr
      | cons x rem =>
        cases hr
        rw [hw]
        obtain ⟨e1, t1, y, e3, t2, hy, hw3⟩ := hs x (by rw [hd]; simp)
        refine ⟨e1, t1, true, e1, rfl, ?_⟩
        show Ev te e1 _
        refine ⟨y, e3, t2, ?_, rem, done ++ [x], rfl, by simp [hy], by simp [hd], hw3⟩
        rw [List.length_map]
        have := congrArg List.length hd
        simp at this
        omega)
  have : rem = [] := by simpa using h2.symm
  subst this h3
  simp at h4
  subst h4
  exact ⟨_, _, h1, by rw [rest_keep h5]; exact hp⟩
theorem zip_pairs {a b : List Int} : List.zipWith pairD (a.map .int) (b.map .int) = (a.zip b).map fun p => .tuple [.int p.1, .int p.2] := by
  induction a generalizing b with
  | nil => rfl
  | cons x a ih =>
    cases b with
    | nil => rfl
    | cons y b => simp [pairD, ih]
theorem lift_if {c : Prop} [Decidable c] {o : Option B} {b : B} {en : Env} {Q : B → Env → Prop} (h : o = if c then some b else none) : Ev (lift o) en Q = (c ∧ Q b en) := by
  rw [Ev_lift', h]
  by_cases hc : c
  · rw [if_pos hc]
    exact propext ⟨fun ⟨b', e, q⟩ => by cases e; exact ⟨hc, q⟩, fun q => ⟨b, rfl, q.2⟩⟩
  · rw [if_neg hc]
    exact propext ⟨fun ⟨b', e, q⟩ => (nomatch e), fun q => (hc q.1).elim⟩
section
theorem onB_if {c : Prop} [Decidable c] {o : Option B} {b : B} {P : B → Prop} (h : o = if c then some b else none) : onB o P = (c ∧ P b) := by
  rw [h]
  by_cases hc : c
  · rw [if_pos hc]
    exact propext ⟨fun q => ⟨hc, q⟩, fun q => q.2⟩
  · rw [if_neg hc]
    exact propext ⟨fun q => (nomatch q), fun q => (hc q.1).elim⟩
variable {P : B → Prop}
@[simp ↓] theorem on_mul : onB (opS .Mult [.int i, .int j]) P = (mulOk i j = true ∧ P (.val (.int (i * j)))) := onB_if op_mul
@[simp ↓] theorem on_div : onB (opS .FloorDiv [.int i, .int j]) P = ((0 < j ∧ j < 2 ^ 64) ∧ P (.val (.int (i / j)))) := onB_if op_div
@[simp ↓] theorem on_mod : onB (opS .Mod [.int i, .int j]) P = (0 < j ∧ P (.val (.int (i % j)))) := onB_if op_mod
@[simp ↓] theorem on_pow : onB (opS .Pow [.int i, .int j]) P = ((0 ≤ j ∧ j ≤ 1000 ∧ i.natAbs < 2 ^ 60) ∧ P (.val (.int (i ^ j.toNat)))) := onB_if op_pow
@[simp ↓] theorem on_tup : onB (tupD ds) P = (ds.length ≤ cap ∧ P (.val (.tuple ds))) := onB_if rfl
@[simp ↓] theorem on_lst : onB (lstD ds) P = (ds.length ≤ cap ∧ P (.lst ds)) := onB_if rfl
@[simp] theorem le_cap0 : 0 ≤ cap := Nat.zero_le _
@[simp] theorem le_cap1 : 1 ≤ cap := by decide
@[simp] theorem le_cap2 : 2 ≤ cap := by decide
@[simp] theorem le_cap3 : 3 ≤ cap := by decide
@[simp] theorem le_cap4 : 4 ≤ cap := by decide
end
end
end DL

namespace DL
open PySem PySem.W PySem.Spec PyProof.Rows L2
/-! ### words for a walk -/
theorem EvF_eq {cs : Calls} {x : Str} {args : List B} {v : B} (h : EvF cs x args fun r _ => r = v) {Q : B → Prop} : EvF cs x args (fun r _ => Q r) = Q v := by
  obtain ⟨r, b, e, rfl⟩ := h
  refine propext ⟨?_, fun q => ⟨_, _, e, q⟩⟩
  rintro ⟨r2, b2, e2, q⟩
  rw [e] at e2
  cases e2
  exact q
theorem cap_val : cap = 16777216 := rfl
/-! the newer statements and expressions -/
section
variable {en : Env} {Q : Out → Prop}
def setF (i : Nat) : Tg := fun b en => match b with
  | .lst ds => setE i (.val (.list ds)) en
  | b => setE i b en
@[simp ↓] theorem EvT_setF_lst {i : Nat} {ds : List D} {P : Env → Prop} : EvT (setF i) (.lst ds) en P = (i < en.length ∧ P (en.set i (some (.val (.list ds))))) := EvT_setE
@[simp ↓] theorem EvT_setF_val {i : Nat} {d : D} {P : Env → Prop} : EvT (setF i) (.val d) en P = (i < en.length ∧ P (en.set i (some (.val d)))) := EvT_setE
@[simp ↓] theorem EvT_setF_scr {i : Nat} {d : List Int} {P : Env → Prop} : EvT (setF i) (.scr d) en P = (i < en.length ∧ P (en.set i (some (.scr d)))) := EvT_setE
theorem frzAt_set {i : Nat} {b : B} (h : i < en.length) : frzAt i (en.set i (some b)) = (match b with
    | .lst ds => en.set i (some (.val (.list ds)))
    | b => en.set i (some b)) := by
  unfold frzAt
  rw [List.getElem?_set_self h]
  cases b <;> simp
@[simp ↓] theorem EvS_frzS {i : Nat} {m : M B} : EvS (frzS i (asgS (setE i) m)) en Q = Ev m en fun b e => EvT (setF i) b e fun e2 => Q (.nx e2) := by
  refine ev_bind (fun b e h => ?_) fun h => by unfold frzS asgS; rw [h]
  by_cases hl : i < e.length
  · have e1 : asgS (setE i) m en = some (.nx (e.set i (some b))) := by unfold asgS; rw [h]; dsimp only; unfold setE; rw [if_pos hl]
    have e2 : frzS i (asgS (setE i) m) en = some (.nx (frzAt i (e.set i (some b)))) := by unfold frzS; rw [e1]
    rw [EvS_of e2, frzAt_set hl]
    have e4 : ∀ b : B, setE i b e = some (e.set i (some b)) := fun b => by unfold setE; rw [if_pos hl]
    cases b with
    | lst ds => rw [EvT_of (show setF i (.lst ds) e = some _ from e4 _)]
    | val d => rw [EvT_of (show setF i (.val d) e = some _ from e4 _)]
    | scr d => rw [EvT_of (show setF i (.scr d) e = some _ from e4 _)]
    | ins c d => rw [EvT_of (show setF i (.ins c d) e = some _ from e4 _)]
    | dk d => rw [EvT_of (show setF i (.dk d) e = some _ from e4 _)]
    | dt d => rw [EvT_of (show setF i (.dt d) e = some _ from e4 _)]
  · have e1 : asgS (setE i) m en = none := by unfold asgS; rw [h]; dsimp only; unfold setE; rw [if_neg hl]
    rw [EvS_no (by unfold frzS; rw [e1]), EvT_no]
    unfold setF
    cases b <;> (dsimp only; unfold setE; rw [if_neg hl])
@[simp ↓] theorem EvS_insS {i : Nat} {mi me : M D} : EvS (insS i mi me) en Q = (match en[i]? with
    | some (some (.lst _)) => Ev mi en fun x e => Ev me e fun d e2 => (match x, e2[i]? with
      | .int j, some (some (.lst ds)) => (ds.length < cap ∧ 0 ≤ j ∧ j < 2 ^ 62) ∧ Q (.nx (e2.set i (some (.lst (ds.take j.toNat ++ [d] ++ ds.drop j.toNat)))))
      | _, _ => False)
    | _ => False) := by
  split
  · rename_i ds0 h
    refine ev_bind (fun x e hm => ?_) fun hm => by unfold insS; rw [h]; dsimp only; rw [hm]
    cases x with
    | int j =>
      cases hm2 : me e with
      | none => rw [Ev_no hm2]; exact EvS_no (by unfold insS; rw [h]; dsimp only; rw [hm]; dsimp only; rw [hm2])
      | some p =>
      obtain ⟨d, e2⟩ := p
      rw [Ev_of hm2]
      split
      · rename_i _ _ ds z h2
        cases z
        by_cases hc : ds.length < cap ∧ 0 ≤ j ∧ j < 2 ^ 62
        · exact (EvS_of (by unfold insS; rw [h]; dsimp only; rw [hm]; dsimp only; rw [hm2]; dsimp only; rw [h2]; dsimp only; rw [if_pos hc])).trans (propext ⟨fun q => ⟨hc, q⟩, fun q => q.2⟩)
        · exact (EvS_no (by unfold insS; rw [h]; dsimp only; rw [hm]; dsimp only; rw [hm2]; dsimp only; rw [h2]; dsimp only; rw [if_neg hc])).trans (propext ⟨fun q => q.elim, fun q => (hc q.1).elim⟩)
      · rename_i h2
        refine EvS_no ?_
        unfold insS
        rw [h]
        dsimp only
        rw [hm]
        dsimp only
        rw [hm2]
        dsimp only
        split
        · exact (h2 _ _ rfl (by assumption)).elim
        · rfl
    | _ =>
      rw [EvS_no (by unfold insS; rw [h]; dsimp only; rw [hm])]
      refine propext ⟨fun q => q.elim, ?_⟩
      rintro ⟨_, _, _, q⟩
      exact q.elim
  · rename_i h
    refine EvS_no ?_
    unfold insS
    split
    · exact (h _ (by assumption)).elim
    · rfl
@[simp ↓] theorem EvS_extS {i : Nat} {me : M D} : EvS (extS i me) en Q = (match en[i]? with
    | some (some (.lst _)) => Ev me en fun x e => (match x, e[i]? with
      | .list es, some (some (.lst ds)) => ds.length + es.length ≤ cap ∧ Q (.nx (e.set i (some (.lst (ds ++ es)))))
      | _, _ => False)
    | _ => False) := by
  split
  · rename_i ds0 h
    refine ev_bind (fun x e hm => ?_) fun hm => by unfold extS; rw [h]; dsimp only; rw [hm]
    cases x with
    | list es =>
      split
      · rename_i _ _ ds z h2
        cases z
        by_cases hc : ds.length + es.length ≤ cap
        · exact (EvS_of (by unfold extS; rw [h]; dsimp only; rw [hm]; dsimp only; rw [h2]; dsimp only; rw [if_pos hc])).trans (propext ⟨fun q => ⟨hc, q⟩, fun q => q.2⟩)
        · exact (EvS_no (by unfold extS; rw [h]; dsimp only; rw [hm]; dsimp only; rw [h2]; dsimp only; rw [if_neg hc])).trans (propext ⟨fun q => q.elim, fun q => (hc q.1).elim⟩)
      · rename_i h2
        refine EvS_no ?_
        unfold extS
        rw [h]
        dsimp only
        rw [hm]
        dsimp only
        split
        · exact (h2 _ _ rfl (by assumption)).elim
        · rfl
    | _ => exact EvS_no (by unfold extS; rw [h]; dsimp only; rw [hm])
  · rename_i h
    refine EvS_no ?_
    unfold extS
    split
    · exact (h _ (by assumption)).elim
    · rfl
@[simp ↓] theorem EvS_parS3 {i j l : Nat} {ms : M (List D)} : EvS (parS3 i j l ms) en Q = Ev ms en fun ds e => (match ds with
    | [a, b, c] => (i < e.length ∧ j < e.length ∧ l < e.length) ∧ Q (.nx (((e.set i (some (.val a))).set j (some (.val b))).set l (some (.val c))))
    | _ => False) := by
  refine ev_bind (fun ds e h => ?_) fun h => by unfold parS3; rw [h]
  split
  · rename_i a b c
    by_cases hc : i < e.length ∧ j < e.length ∧ l < e.length
    · exact (EvS_of (by unfold parS3; rw [h]; dsimp only; rw [if_pos hc])).trans (propext ⟨fun q => ⟨hc, q⟩, fun q => q.2⟩)
    · exact (EvS_no (by unfold parS3; rw [h]; dsimp only; rw [if_neg hc])).trans (propext ⟨fun q => q.elim, fun q => (hc q.1).elim⟩)
  · rename_i hn
    refine EvS_no ?_
    unfold parS3
    rw [h]
    split
    · rename_i z
      cases z
      exact (hn _ _ _ rfl).elim
    · rfl
@[simp ↓] theorem Ev_kMt {m : M B} {P : B → Env → Prop} : Ev (kM true m) en P = Ev m en fun b e => (match b with
    | .val d => P (.val d) e
    | .lst ds => P (.lst ds) e
    | .ins c fs => (fs.all fun f => isF f.2) = true ∧ P (.ins c fs) e
    | .dk d => P (.dk d) e
    | .dt d => P (.dt d) e
    | _ => False) := by
  refine (show Ev (kM true m) en P = Ev m en fun b e => Ev (if isVL b = true then ret b else stuck) e P from Ev_bd).trans ?_
  congr
  funext b e
  cases b with
  | val d => exact Ev_of rfl
  | lst d => exact Ev_of rfl
  | scr d => exact Ev_no rfl
  | ins c fs =>
    by_cases h : (fs.all fun f => isF f.2) = true
    · rw [if_pos (show isVL (.ins c fs) = true from h)]
      exact (Ev_of rfl).trans (propext ⟨fun q => ⟨h, q⟩, fun q => q.2⟩)
    · rw [if_neg (show ¬ isVL (.ins c fs) = true from h)]
      exact (Ev_no rfl).trans (propext ⟨fun q => q.elim, fun q => h q.1⟩)
  | dk d => exact Ev_of rfl
  | dt d => exact Ev_of rfl
@[simp ↓] theorem Ev_kMf {m : M B} {P : B → Env → Prop} : Ev (kM false m) en P = Ev (mD m) en fun d e => P (.val d) e := by
  refine (show Ev (kM false m) en P = Ev (mD m) en fun d e => Ev (ret (B.val d)) e P from Ev_bd).trans ?_
  congr
  funext d e
  exact Ev_of rfl
@[simp ↓] theorem EvS_parO2 {i j : Nat} {ms : M (List B)} : EvS (parO2 i j ms) en Q = Ev ms en fun bs e => (match bs with
    | [a, b] => (i < e.length ∧ j < e.length) ∧ Q (.nx ((e.set i (some a)).set j (some b)))
    | _ => False) := by
  refine ev_bind (fun ds e h => ?_) fun h => by unfold parO2; rw [h]
  split
  · rename_i a b
    by_cases hc : i < e.length ∧ j < e.length
    · exact (EvS_of (by unfold parO2; rw [h]; dsimp only; rw [if_pos hc])).trans (propext ⟨fun q => ⟨hc, q⟩, fun q => q.2⟩)
    · exact (EvS_no (by unfold parO2; rw [h]; dsimp only; rw [if_neg hc])).trans (propext ⟨fun q => q.elim, fun q => (hc q.1).elim⟩)
  · rename_i hn
    refine EvS_no ?_
    unfold parO2
    rw [h]
    split
    · rename_i z
      cases z
      exact (hn _ _ rfl).elim
    · rfl
@[simp ↓] theorem EvS_parO3 {i j l : Nat} {ms : M (List B)} : EvS (parO3 i j l ms) en Q = Ev ms en fun ds e => (match ds with
    | [a, b, c] => (i < e.length ∧ j < e.length ∧ l < e.length) ∧ Q (.nx (((e.set i (some a)).set j (some b)).set l (some c)))
    | _ => False) := by
  refine ev_bind (fun ds e h => ?_) fun h => by unfold parO3; rw [h]
  split
  · rename_i a b c
    by_cases hc : i < e.length ∧ j < e.length ∧ l < e.length
    · exact (EvS_of (by unfold parO3; rw [h]; dsimp only; rw [if_pos hc])).trans (propext ⟨fun q => ⟨hc, q⟩, fun q => q.2⟩)
    · exact (EvS_no (by unfold parO3; rw [h]; dsimp only; rw [if_neg hc])).trans (propext ⟨fun q => q.elim, fun q => (hc q.1).elim⟩)
  · rename_i hn
    refine EvS_no ?_
    unfold parO3
    rw [h]
    split
    · rename_i z
      cases z
      exact (hn _ _ _ rfl).elim
    · rfl
@[simp] theorem setsE_nil {is : List Nat} {e : Env} : setsE is [] e = e := by cases is <;> rfl
@[simp] theorem setsE_cons {i : Nat} {is : List Nat} {b : B} {bs : List B} {e : Env} : setsE (i :: is) (b :: bs) e = setsE is bs (e.set i (some b)) := rfl
@[simp ↓] theorem EvS_asgO {is : List Nat} {ms : M (List B)} : EvS (asgO is ms) en Q = Ev ms en fun bs e => (bs.length = is.length ∧ (is.all fun i => decide (i < e.length)) = true) ∧ Q (.nx (setsE is bs e)) := by
  refine ev_bind (fun bs e h => ?_) fun h => by unfold asgO; rw [h]
  by_cases hc : bs.length = is.length ∧ (is.all fun i => decide (i < e.length)) = true
  · exact (EvS_of (by unfold asgO; rw [h]; dsimp only; rw [if_pos hc])).trans (propext ⟨fun q => ⟨hc, q⟩, fun q => q.2⟩)
  · exact (EvS_no (by unfold asgO; rw [h]; dsimp only; rw [if_neg hc])).trans (propext ⟨fun q => q.elim, fun q => (hc q.1).elim⟩)
theorem ev_bindE {α β : Type} {m : M α} {f : M β} {R : α → Env → Prop} {P : β → Env → Prop} (h1 : ∀ a e, m en = some (a, e) → Ev f en P = R a e) (h2 : m en = none → f en = none) : Ev f en P = Ev m en R := by
  cases hm : m en with
  | none => rw [Ev_no hm, Ev_no (h2 hm)]
  | some p =>
    obtain ⟨a, e⟩ := p
    rw [Ev_of hm, h1 a e hm]
@[simp ↓] theorem Ev_popE {i : Nat} {me : M D} {P : B → Env → Prop} : Ev (popE i me) en P = (match en[i]? with
    | some (some (.lst _)) => Ev me en fun d e => (match d, e[i]? with
      | .int j, some (some (.lst ds)) => (-(2 ^ 63) ≤ j ∧ j < 2 ^ 63) ∧ (match ixN ds.length j with
        | some n => (match ds[n]? with
          | some y => P (.val y) (e.set i (some (.lst (ds.eraseIdx n))))
          | none => False)
        | none => False)
      | _, _ => False)
    | _ => False) := by
  split
  · rename_i ds0 h
    refine ev_bindE (fun d e hm => ?_) fun hm => by unfold popE; rw [h]; dsimp only; rw [hm]
    split
    · rename_i j ds h2
      by_cases hc : -(2 ^ 63) ≤ j ∧ j < 2 ^ 63
      · cases hn : ixN ds.length j with
        | none => exact (Ev_no (by unfold popE; rw [h]; dsimp only; rw [hm]; dsimp only; rw [h2]; dsimp only; rw [if_pos hc, hn])).trans (by simp)
        | some n =>
          cases hd : ds[n]? with
          | none => exact (Ev_no (by unfold popE; rw [h]; dsimp only; rw [hm]; dsimp only; rw [h2]; dsimp only; rw [if_pos hc, hn]; dsimp only; rw [hd])).trans (by simp [hd])
          | some y => exact (Ev_of (by unfold popE; rw [h]; dsimp only; rw [hm]; dsimp only; rw [h2]; dsimp only; rw [if_pos hc, hn]; dsimp only; rw [hd])).trans (by dsimp only; rw [hd]; exact propext ⟨fun q => ⟨hc, q⟩, fun q => q.2⟩)
      · exact (Ev_no (by unfold popE; rw [h]; dsimp only; rw [hm]; dsimp only; rw [h2]; dsimp only; rw [if_neg hc])).trans (propext ⟨fun q => q.elim, fun q => (hc q.1).elim⟩)
    · rename_i hn
      refine Ev_no ?_
      unfold popE
      rw [h]
      dsimp only
      rw [hm]
      split
      · rename_i z
        cases z
        split
        · exact (hn _ _ rfl (by assumption)).elim
        · rfl
      · rfl
  · rename_i h
    refine Ev_no ?_
    unfold popE
    split
    · exact (h _ (by assumption)).elim
    · rfl
@[simp ↓] theorem Ev_cntE {i : Nat} {me : M D} {P : B → Env → Prop} : Ev (cntE i me) en P = (match en[i]? with
    | some (some (.val (.str x))) => Ev me en fun d e => (match d with
      | .str y => P (.val (.int (Txt.count x y))) e
      | _ => False)
    | _ => False) := by
  split
  · rename_i x h
    refine ev_bindE (fun d e hm => ?_) fun hm => by unfold cntE; rw [h]; dsimp only; rw [hm]
    split
    · exact Ev_of (by unfold cntE; rw [h]; dsimp only; rw [hm])
    · rename_i hn
      refine Ev_no ?_
      unfold cntE
      rw [h]
      dsimp only
      rw [hm]
      split
      · rename_i z
        cases z
        exact (hn _ rfl).elim
      · rfl
  · rename_i h
    refine Ev_no ?_
    unfold cntE
    split
    · exact (h _ (by assumption)).elim
    · rfl
theorem opA_str {x y : Str} (h : x.length + y.length ≤ cap) : opA .Add (.str x) (.str y) = some (.str (x ++ y)) := if_pos h
theorem Ev_zip3M {d e f : D} {ds es fs : List D} {P : List D → Env → Prop} (h1 : seqD d = some ds) (h2 : seqD e = some es) (h3 : seqD f = some fs) : Ev (zip3M [d, e, f]) en P = P (zip3D ds es fs) en :=
  Ev_of (by unfold zip3M; dsimp only; rw [h1, h2, h3]; rfl)
@[simp ↓] theorem Ev_zip3_lll {ds es fs : List D} {P : List D → Env → Prop} : Ev (zip3M [.list ds, .list es, .list fs]) en P = P (zip3D ds es fs) en := Ev_zip3M rfl rfl rfl
@[simp ↓] theorem Ev_zip3_ttt {ds es fs : List D} {P : List D → Env → Prop} : Ev (zip3M [.tuple ds, .tuple es, .tuple fs]) en P = P (zip3D ds es fs) en := Ev_zip3M rfl rfl rfl
@[simp ↓] theorem Ev_dflE {sem : List D → Option B} {pa pb : M PArg} {P : B → Env → Prop} : Ev (dflE sem pa pb) en P = Ev pa en fun x e => Ev pb e fun y e2 => Ev (withR [x, y] fun ds => lift (sem ds)) e2 P := Ev_bin2
@[simp ↓] theorem Ev_revE {pa : M PArg} {P : B → Env → Prop} : Ev (revE pa) en P = Ev pa en fun x e => Ev (withR [x] fun ds => lift (revLS ds)) e P := Ev_bd
@[simp] theorem revLS_list {ds : List D} : revLS [.list ds] = some (.lst ds.reverse) := rfl
@[simp] theorem revLS_tup {ds : List D} : revLS [.tuple ds] = some (.val (.tuple ds.reverse)) := rfl
@[simp ↓] theorem Ev_idxE {i : Nat} {me : M D} {P : B → Env → Prop} : Ev (idxE i me) en P = (match en[i]? with
    | some (some (.val (.list ds))) => Ev me en fun d e => Ev (lift (idxS [.list ds, d])) e P
    | _ => False) := by
  split
  · rename_i ds h
    have ee : idxE i me en = bd me (fun d => lift (idxS [.list ds, d])) en := by unfold idxE; rw [h]
    exact (show Ev (idxE i me) en P = Ev (bd me fun d => lift (idxS [.list ds, d])) en P by unfold Ev; rw [ee]).trans Ev_bd
  · rename_i h
    refine Ev_no ?_
    unfold idxE
    split
    · exact (h _ (by assumption)).elim
    · rfl
theorem idxS_at {ds : List D} {d : D} {j : Nat} (h1 : SeqAt.shaped (.list ds) = true) (h2 : SeqAt.shaped d = true) (h3 : ds.findIdx? (fun z => PyData.eqv z d) = some j) : idxS [.list ds, d] = some (.val (.int (j : Nat))) := by
  unfold idxS
  dsimp only
  rw [if_pos ⟨h1, h2⟩, h3]
@[simp ↓] theorem call_b5 {cs : Calls} {x : Str} {a b c d e : B} {P : B → Env → Prop} : Ev (callE (cs x) [.b a, .b b, .b c, .b d, .b e]) en P = EvF cs x [a, b, c, d, e] fun r _ => P r en := call_b rfl
@[simp ↓] theorem call_b6 {cs : Calls} {x : Str} {a b c d e f : B} {P : B → Env → Prop} : Ev (callE (cs x) [.b a, .b b, .b c, .b d, .b e, .b f]) en P = EvF cs x [a, b, c, d, e, f] fun r _ => P r en := call_b rfl
@[simp ↓] theorem call_io2 {cs : Calls} {x : Str} {i : Nat} {a b : B} {P : B → Env → Prop} : Ev (callE (cs x) [.io i, .b a, .b b]) en P = (match en[i]? with
    | some (some c) => EvF cs x [c, a, b] fun r b' => P r (en.set i (b'[0]?.getD none))
    | _ => EvH (callE (cs x) [.io i, .b a, .b b]) en P) := by
  split
  · exact call_io (bs := [a, b]) (by assumption)
  · rfl
@[simp ↓] theorem call_io3 {cs : Calls} {x : Str} {i : Nat} {a b d : B} {P : B → Env → Prop} : Ev (callE (cs x) [.io i, .b a, .b b, .b d]) en P = (match en[i]? with
    | some (some c) => EvF cs x [c, a, b, d] fun r b' => P r (en.set i (b'[0]?.getD none))
    | _ => EvH (callE (cs x) [.io i, .b a, .b b, .b d]) en P) := by
  split
  · exact call_io (bs := [a, b, d]) (by assumption)
  · rfl
end
section
variable {xs ys : List D} {x y : Str} {k : Int} {P : B → Prop}
@[simp ↓] theorem on_addL : onB (opS .Add [.list xs, .list ys]) P = (xs.length + ys.length ≤ cap ∧ P (.lst (xs ++ ys))) := onB_if rfl
@[simp ↓] theorem on_addT : onB (opS .Add [.tuple xs, .tuple ys]) P = (xs.length + ys.length ≤ cap ∧ P (.val (.tuple (xs ++ ys)))) := onB_if rfl
@[simp ↓] theorem on_addStr : onB (opS .Add [.str x, .str y]) P = (x.length + y.length ≤ cap ∧ P (.val (.str (x ++ y)))) := onB_if rfl
@[simp ↓] theorem on_mulL : onB (opS .Mult [.list xs, .int k]) P = ((0 ≤ k ∧ k ≤ 100000 ∧ xs.length ≤ 100) ∧ P (.lst (List.replicate k.toNat xs).flatten)) := onB_if rfl
@[simp ↓] theorem on_mulT : onB (opS .Mult [.tuple xs, .int k]) P = ((1 ≤ k ∧ k ≤ 1000 ∧ xs.length ≤ 1000 ∧ xs ≠ []) ∧ P (.val (.tuple (List.replicate k.toNat xs).flatten))) := onB_if rfl
end
@[simp] theorem keepB_idem {o : Option B} : keepB (keepB o) = keepB o := by
  cases o with
  | none => rfl
  | some b => cases b <;> rfl
theorem small_le {α : Type} {xs : List α} {n : Nat} (h : xs.length ≤ n) (k : n ≤ 16777216) : xs.length ≤ cap := Nat.le_trans h k
/-- what a comprehension with a test over plain things asks, behind its walk's reckoning -/
def LcF {α β : Type} (vs : List Nat) (asg : Tg) (tt : M Bool) (te : M D) (P : B → Env → Prop) (f : α → D) (enc : β → D) (g : α → β) (p : α → Bool) (ds : List D) (e : Env) : Prop :=
  ∃ xs : List α, ds = xs.map f ∧ xs.length ≤ cap ∧ (∀ x ∈ xs, EvT asg (.val (f x)) (wipeE e vs) fun e1 => Ev tt e1 fun b e2 => b = p x ∧ (b = false → wipeE e2 vs = wipeE e vs) ∧ (b = true → Ev te e2 fun y e3 => y = enc (g x) ∧ wipeE e3 vs = wipeE e vs)) ∧ P (.lst (((xs.filter p).map g).map enc)) (keepE vs e)
theorem lc_filter {α β : Type} {en : Env} {vs : List Nat} {mi : M (List D)} {asg : Tg} {tt : M Bool} {te : M D} {P : B → Env → Prop} (f : α → D) (enc : β → D) (g : α → β) (p : α → Bool)
    (h : Ev mi en fun ds e => LcF vs asg tt te P f enc g p ds e) : Ev (lcE vs mi asg tt te) en P := by
  rw [Ev_lcE]
  refine h.mono ?_
  rintro ds e ⟨xs, rfl, hc, hs, hp⟩
  obtain ⟨acc, e2, h1, rem, done, h2, h3, h4, h5⟩ := lc_of (vs := vs) (asg := asg) (tt := tt) (te := te) (ds := xs.map f) (acc := []) (en := e)
    (fun rem acc e2 => ∃ rem' done : List α, rem = rem'.map f ∧ acc = ((done.filter p).map g).map enc ∧ xs = done ++ rem' ∧ wipeE e2 vs = wipeE e vs) ⟨xs, [], rfl, rfl, rfl, rfl⟩ (by
      rintro d ds' acc e2 ⟨rem, done, hr, rfl, hd, hw⟩
      cases rem with
      | nil => cases hr
      | cons x rem =>
        cases hr
        rw [hw]
        obtain ⟨e1, t1, b, e3, t2, rfl, hF, hT⟩ := hs x (by rw [hd]; simp)
        refine ⟨e1, t1, p x, e3, t2, ?_⟩
        cases hb : p x with
        | false =>
          exact ⟨rem, done ++ [x], rfl, by simp [List.filter_append, hb], by simp [hd], hF hb⟩
        | true =>
          obtain ⟨y, e4, t4, hy, hw4⟩ := hT hb
          refine ⟨y, e4, t4, ?_, rem, done ++ [x], rfl, by simp [List.filter_append, hb, hy], by simp [hd], hw4⟩
          rw [List.length_map, List.length_map]
          have := congrArg List.length hd
          have l2 := List.length_filter_le p done
          simp at this
          omega)
  have : rem = [] := by simpa using h2.symm
  subst this h3
  simp at h4
  subst h4
  exact ⟨_, _, h1, by rw [rest_keep h5]; exact hp⟩
def LcM {α β : Type} (vs : List Nat) (asg : Tg) (te : M D) (P : B → Env → Prop) (f : α → D) (enc : β → D) (g : α → β) (ds : List D) (e : Env) : Prop :=
  ∃ xs : List α, ds = xs.map f ∧ xs.length ≤ cap ∧ (∀ x ∈ xs, EvT asg (.val (f x)) (wipeE e vs) fun e1 => Ev te e1 fun y e3 => y = enc (g x) ∧ wipeE e3 vs = wipeE e vs) ∧ P (.lst ((xs.map g).map enc)) (keepE vs e)
theorem lc_map {α β : Type} {en : Env} {vs : List Nat} {mi : M (List D)} {asg : Tg} {te : M D} {P : B → Env → Prop} (f : α → D) (enc : β → D) (g : α → β)
    (h : Ev mi en fun ds e => LcM vs asg te P f enc g ds e) : Ev (lcE vs mi asg (ret true) te) en P := by
  refine lc_filter f enc g (fun _ => true) (h.mono ?_)
  rintro ds e ⟨xs, h1, h2, h3, h4⟩
  refine ⟨xs, h1, h2, fun x hx => ?_, ?_⟩
  · obtain ⟨e1, t1, q⟩ := h3 x hx
    exact ⟨e1, t1, true, e1, rfl, rfl, fun z => (nomatch z), fun _ => q⟩
  · rw [show xs.filter (fun _ => true) = xs from List.filter_eq_self.mpr (by simp)]
    exact h4
/-- what one turn of it leaves -/
def DStep {α β : Type} (vs : List Nat) (enc : β → D) (Bx : Nat → B → Prop) (m : Nat) (R : α → β → Prop) (E : B → Env) (x : α) (y : D) (e3 : Env) : Prop := ∃ (v : β) (bx' : B), y = enc v ∧ R x v ∧ Bx m bx' ∧ wipeE e3 vs = wipeE (E bx') vs
/-- a comprehension that draws at each turn out of the box at slot ib -/
def LcD {α β : Type} (vs : List Nat) (asg : Tg) (te : M D) (P : B → Env → Prop) (f : α → D) (enc : β → D) (ib : Nat) (Bx : Nat → B → Prop) (c : Nat) (R : α → β → Prop) (ds : List D) (e : Env) : Prop :=
  ∃ (xs : List α) (n : Nat) (bx0 : B), ds = xs.map f ∧ e[ib]? = some (some bx0) ∧ vs.contains ib = false ∧ Bx n bx0 ∧ xs.length ≤ cap ∧
    (∀ x ∈ xs, ∀ m bx, m ≤ n + c * xs.length → Bx m bx → EvT asg (.val (f x)) (wipeE (e.set ib (some bx)) vs) fun e1 => Ev te e1 fun y e3 => DStep vs enc Bx (m + c) R (fun b => e.set ib (some b)) x y e3) ∧
    (∀ (vals : List β) (bx' : B), vals.length = xs.length → (∀ (i : Nat) x v, xs[i]? = some x → vals[i]? = some v → R x v) → Bx (n + c * xs.length) bx' → P (.lst (vals.map enc)) (keepE vs (e.set ib (some bx'))))
theorem lcL_draw {α β : Type} {vs : List Nat} {asg : Tg} {te : M D} {f : α → D} {enc : β → D} {E : B → Env} {Bx : Nat → B → Prop} {c : Nat} {R : α → β → Prop} : ∀ (xs : List α) (n : Nat) (bx0 : B) (acc : List D) (e : Env), Bx n bx0 → wipeE e vs = wipeE (E bx0) vs → acc.length + xs.length ≤ cap →
    (∀ x ∈ xs, ∀ m bx, m ≤ n + c * xs.length → Bx m bx → EvT asg (.val (f x)) (wipeE (E bx) vs) fun e1 => Ev te e1 fun y e3 => DStep vs enc Bx (m + c) R E x y e3) →
    ∃ (vals : List β) (bx' : B) (e2 : Env), lcL vs asg (ret true) te (xs.map f) acc e = some (acc ++ vals.map enc, e2) ∧ vals.length = xs.length ∧ (∀ (i : Nat) x v, xs[i]? = some x → vals[i]? = some v → R x v) ∧ Bx (n + c * xs.length) bx' ∧ wipeE e2 vs = wipeE (E bx') vs
  | [], n, bx0, acc, e, hb, hw, hc, hs => ⟨[], bx0, e, by simp [lcL], rfl, by simp, by simpa using hb, hw⟩
  | x :: xs, n, bx0, acc, e, hb, hw, hc, hs => by
    simp at hc
    have h1 := hs x (by simp) n bx0 (by simp) hb
    obtain ⟨e1, t1, y, e3, t2, v, bx1, rfl, r, hb1, hw1⟩ := h1
    obtain ⟨vals, bx2, e4, l1, l2, l3, l4, l5⟩ := lcL_draw xs (n + c) bx1 (acc ++ [enc v]) e3 hb1 hw1 (by simp; omega) (fun z hz m bx hm hbx => hs z (by simp [hz]) m bx (by simp [Nat.mul_add]; omega) hbx)
    refine ⟨v :: vals, bx2, e4, ?_, by simp [l2], ?_, by simpa [Nat.mul_add, Nat.add_assoc, Nat.add_comm c] using l4, l5⟩
    · have e0 : lcL vs asg (ret true) te ((x :: xs).map f) acc e = (match asg (.val (f x)) (wipeE e vs) with
        | none => none
        | some en1 => match ret true en1 with
          | none => none
          | some (false, en2) => lcL vs asg (ret true) te (xs.map f) acc en2
          | some (true, en2) => match te en2 with
            | none => none
            | some (y, en3) => if acc.length < cap then lcL vs asg (ret true) te (xs.map f) (acc ++ [y]) en3 else none) := rfl
      rw [hw, t1] at e0
      dsimp only [DL.ret] at e0
      rw [t2] at e0
      dsimp only at e0
      rw [if_pos (by omega), l1] at e0
      rw [e0]
      simp
    · intro i x' v' h1 h2
      cases i with
      | zero =>
        simp at h1 h2
        subst h1 h2
        exact r
      | succ i => exact l3 i x' v' (by simpa using h1) (by simpa using h2)
theorem rest_box' {vs : List Nat} {e : Env} {ib : Nat} {b : B} (hi : vs.contains ib = false) {e2 : Env} (hw : wipeE e2 vs = wipeE (e.set ib (some b)) vs) : restE vs e e2 = keepE vs (e.set ib (some b)) := by
  rw [← rest_keep hw]
  unfold restE
  apply List.ext_getElem?
  intro i
  rw [List.getElem?_mapIdx, List.getElem?_mapIdx]
  cases c : vs.contains i with
  | true =>
    have : i ≠ ib := fun z => by rw [z, hi] at c; cases c
    rw [List.getElem?_set_ne (fun z => this z.symm)]
  | false => rfl
theorem lc_draw {α β : Type} {en : Env} {vs : List Nat} {mi : M (List D)} {asg : Tg} {te : M D} {P : B → Env → Prop} (f : α → D) (enc : β → D) (ib : Nat) (Bx : Nat → B → Prop) (c : Nat) (R : α → β → Prop)
    (h : Ev mi en fun ds e => LcD vs asg te P f enc ib Bx c R ds e) : Ev (lcE vs mi asg (ret true) te) en P := by
  rw [Ev_lcE]
  refine h.mono ?_
  rintro ds e ⟨xs, n, bx0, rfl, hib, hvs, hb, hc, hs, hp⟩
  obtain ⟨vals, bx', e2, l1, l2, l3, l4, l5⟩ := lcL_draw (E := fun b => e.set ib (some b)) xs n bx0 [] e hb (by rw [set_self hib]) (by simpa using hc) hs
  refine ⟨_, _, l1, ?_⟩
  rw [rest_box' hvs l5]
  exact hp vals bx' l2 l3 l4
/-! instances -/
@[simp ↓] theorem EvT_setF_ins {i : Nat} {c : Str} {fs : List (Str × FB)} {en : Env} {P : Env → Prop} : EvT (setF i) (.ins c fs) en P = (i < en.length ∧ P (en.set i (some (.ins c fs)))) := EvT_setE
@[simp ↓] theorem EvT_setF_dk {i : Nat} {d : List (Key × D)} {en : Env} {P : Env → Prop} : EvT (setF i) (.dk d) en P = (i < en.length ∧ P (en.set i (some (.dk d)))) := EvT_setE
@[simp ↓] theorem EvT_setF_dt {i : Nat} {d : List (List Key × D)} {en : Env} {P : Env → Prop} : EvT (setF i) (.dt d) en P = (i < en.length ∧ P (en.set i (some (.dt d)))) := EvT_setE
@[simp ↓] theorem Ev_fldC {c f : Str} {i : Nat} {en : Env} {Q : B → Env → Prop} : Ev (fldC c i f) en Q = (match en[i]? with
    | some (some (.ins c' fs)) => c' = c ∧ (match fs.lookup f with
      | some (.val d) => Q (.val d) en
      | _ => False)
    | _ => False) := by
  split
  · rename_i c' fs h
    by_cases hc : c' = c
    · subst hc
      cases hl : fs.lookup f with
      | none => rw [Ev_no (by unfold fldC; rw [h]; dsimp only; rw [if_pos rfl, hl])]; exact propext ⟨fun h => h.elim, fun h => h.2⟩
      | some b =>
        cases b with
        | val d => rw [Ev_of (show fldC c' i f en = some (.val d, en) by unfold fldC; rw [h]; dsimp only; rw [if_pos rfl, hl])]; exact propext ⟨fun h => ⟨rfl, h⟩, fun h => h.2⟩
        | lst d => rw [Ev_no (by unfold fldC; rw [h]; dsimp only; rw [if_pos rfl, hl])]; exact propext ⟨fun h => h.elim, fun h => h.2⟩
    · rw [Ev_no (by unfold fldC; rw [h]; dsimp only; rw [if_neg hc])]
      exact propext ⟨fun h => h.elim, fun h => hc h.1⟩
  · rename_i h1
    refine Ev_no ?_
    unfold fldC
    split
    · exact (h1 _ _ (by assumption)).elim
    · rfl
@[simp ↓] theorem EvS_fstC {c f : Str} {i : Nat} {m : M D} {en : Env} {Q : Out → Prop} : EvS (fstC c i f m) en Q = Ev m en fun d e => (match e[i]? with
    | some (some (.ins c' fs)) => (c' = c ∧ fs.length < 1000) ∧ Q (.nx (e.set i (some (.ins c (putB f (.val d) fs)))))
    | _ => False) := by
  refine ev_bind (fun d e h => ?_) fun h => by unfold fstC; rw [h]
  split
  · rename_i c' fs h2
    by_cases hc : c' = c ∧ fs.length < 1000
    · rw [EvS_of (show fstC c i f m en = some _ by unfold fstC; rw [h]; dsimp only; rw [h2]; dsimp only; rw [if_pos hc])]
      exact propext ⟨fun h => ⟨hc, h⟩, fun h => h.2⟩
    · rw [EvS_no (show fstC c i f m en = none by unfold fstC; rw [h]; dsimp only; rw [h2]; dsimp only; rw [if_neg hc])]
      exact propext ⟨fun h => h.elim, fun h => hc h.1⟩
  · rename_i h1
    refine EvS_no ?_
    unfold fstC
    rw [h]
    dsimp only
    split
    · exact (h1 _ _ (by assumption)).elim
    · rfl
/-- no field of that name -/
def noF (m : Str) (fs : List (Str × FB)) : Bool := (fs.lookup m).isNone
@[simp ↓] theorem Ev_methC {cs : Calls} {c m key : Str} {i : Nat} {as : List (M Arg)} {en : Env} {Q : B → Env → Prop} : Ev (methC cs c m key i as) en Q = (match en[i]? with
    | some (some (.ins c' fs)) => (c' = c ∧ noF m fs = true) ∧ Ev (seqM as) en fun as e => Ev (callE (cs key) (.io i :: as)) e Q
    | _ => False) := by
  split
  · rename_i c' fs h
    by_cases hc : c' = c ∧ noF m fs = true
    · have e : methC cs c m key i as en = (bd (seqM as) fun as => callE (cs key) (.io i :: as)) en := by unfold methC; rw [h]; dsimp only; exact if_pos hc
      have e2 : Ev (methC cs c m key i as) en Q = Ev (bd (seqM as) fun as => callE (cs key) (.io i :: as)) en Q := by unfold Ev; rw [e]
      rw [e2, Ev_bd]
      exact propext ⟨fun h => ⟨hc, h⟩, fun h => h.2⟩
    · rw [Ev_no (show methC cs c m key i as en = none by unfold methC; rw [h]; dsimp only; exact if_neg hc)]
      exact propext ⟨fun h => h.elim, fun h => hc h.1⟩
  · rename_i h1
    refine Ev_no ?_
    unfold methC
    split
    · exact (h1 _ _ (by assumption)).elim
    · rfl
/-- what a call of one argument that is its own comes to -/
def EvN (cs : Calls) (x : Str) (b : B) (Q : B → Prop) : Prop := match b with
  | .lst ds => EvF cs x [.lst ds] fun r _ => Q r
  | .ins c fs => EvF cs x [.ins c fs] fun r _ => Q r
  | _ => False
@[simp ↓] theorem EvN_lst {cs : Calls} {x : Str} {ds : List D} {Q : B → Prop} : EvN cs x (.lst ds) Q = EvF cs x [.lst ds] fun r _ => Q r := rfl
@[simp ↓] theorem EvN_ins {cs : Calls} {x c : Str} {fs : List (Str × FB)} {Q : B → Prop} : EvN cs x (.ins c fs) Q = EvF cs x [.ins c fs] fun r _ => Q r := rfl
@[simp ↓] theorem Ev_callN {cs : Calls} {x : Str} {m : M B} {en : Env} {Q : B → Env → Prop} : Ev (callN cs x m) en Q = Ev m en fun b e => EvN cs x b fun r => Q r e := by
  cases h : m en with
  | none => rw [Ev_no h, Ev_no (show callN cs x m en = none by unfold callN; rw [h])]
  | some p =>
    obtain ⟨b, e⟩ := p
    rw [Ev_of h]
    have one : ∀ b0 : B, callN cs x m en = (match cs x [b0] with
        | some (r, _) => some (r, e)
        | none => none) → Ev (callN cs x m) en Q = EvF cs x [b0] fun r _ => Q r e := fun b0 e1 => by
      cases e2 : cs x [b0] with
      | none =>
        rw [e2] at e1
        rw [Ev_no e1]
        refine propext ⟨fun h => h.elim, ?_⟩
        rintro ⟨_, _, h, _⟩
        rw [e2] at h
        cases h
      | some p =>
        obtain ⟨r, bs⟩ := p
        rw [e2] at e1
        rw [Ev_of e1]
        refine propext ⟨fun h => ⟨_, _, e2, h⟩, ?_⟩
        rintro ⟨_, _, h, q⟩
        rw [e2] at h
        cases h
        exact q
    cases b with
    | lst ds => exact one (.lst ds) (by unfold callN; rw [h] <;> rfl)
    | ins c fs => exact one (.ins c fs) (by unfold callN; rw [h] <;> rfl)
    | val d => exact Ev_no (by unfold callN; rw [h])
    | scr d => exact Ev_no (by unfold callN; rw [h])
    | dk d => exact Ev_no (by unfold callN; rw [h])
    | dt d => exact Ev_no (by unfold callN; rw [h])
/-- retV of what is a slot's own -/
theorem EvS_retV_own {i : Nat} {b : B} {en : Env} {Q : Out → Prop} (h : en[i]? = some (some b)) (hv : ∀ d, b ≠ .val d) (hs : ∀ d, b ≠ .scr d) : EvS (retV i) en Q = Q (.rt b (en.set i none)) := EvS_of (by
  unfold retV
  rw [h]
  cases b <;> first | rfl | exact (hv _ rfl).elim | exact (hs _ rfl).elim)
end DL

namespace DL
open PySem PySem.W PySem.Spec PyProof.Rows L2
/-! ### like things by their plain selves -/
structure DEq {α : Type} [DecidableEq α] (enc : α → D) (n : Nat) : Prop where
  lay : ∀ a, (enc a).canLay0 = true
  dep : ∀ a, (enc a).depth ≤ n
  eq : ∀ a b, PyData.eqv (enc a) (enc b) = decide (a = b)
section
variable {α β : Type} [DecidableEq α] [DecidableEq β] {enc : α → D} {enc2 : β → D} {n m : Nat}
theorem DEq.shaped (h : DEq enc n) (hn : n ≤ 64) (a : α) : SeqAt.shaped (enc a) = true := by
  unfold SeqAt.shaped
  rw [h.lay, Bool.true_and]
  exact decide_eq_true (Nat.le_trans (h.dep a) hn)
theorem lay_all (h : DEq enc n) : ∀ l : List α, PyData.canLayAll0 (l.map enc) = true
  | [] => by simp [PyData.canLayAll0]
  | a :: l => by
    simp only [List.map_cons, PyData.canLayAll0, h.lay, lay_all h l, Bool.and_self]
theorem dep_all (h : DEq enc n) : ∀ l : List α, PyData.depthAll (l.map enc) ≤ n
  | [] => by simp [PyData.depthAll]
  | a :: l => by
    have := dep_all h l
    have := h.dep a
    simp only [List.map_cons, PyData.depthAll]
    omega
theorem eqv_all (h : DEq enc n) : ∀ l k : List α, PyData.eqvAll (l.map enc) (k.map enc) = decide (l = k)
  | [], [] => by simp [PyData.eqvAll]
  | [], b :: k => by simp [PyData.eqvAll]
  | a :: l, [] => by simp [PyData.eqvAll]
  | a :: l, b :: k => by
    simp only [List.map_cons, PyData.eqvAll, h.eq, eqv_all h l k]
    by_cases e : a = b <;> by_cases e2 : l = k <;> simp [e, e2]
theorem DEq.int : DEq PyData.int 1 := ⟨fun a => by simp [PyData.canLay0], fun a => by simp [PyData.depth], fun a b => by simp [PyData.eqv]; rfl⟩
theorem DEq.bool : DEq PyData.bool 1 := ⟨fun a => by simp [PyData.canLay0], fun a => by simp [PyData.depth], fun a b => by cases a <;> cases b <;> simp [PyData.eqv]⟩
theorem DEq.list (h : DEq enc n) : DEq (fun l : List α => PyData.list (l.map enc)) (n + 1) := ⟨fun l => by simp only [PyData.canLay0]; exact lay_all h l, fun l => by
    have := dep_all h l
    simp only [PyData.depth]
    omega, fun l k => by simp only [PyData.eqv]; exact eqv_all h l k⟩
theorem DEq.tuple (h : DEq enc n) : DEq (fun l : List α => PyData.tuple (l.map enc)) (n + 1) := ⟨fun l => by simp only [PyData.canLay0]; exact lay_all h l, fun l => by
    have := dep_all h l
    simp only [PyData.depth]
    omega, fun l k => by simp only [PyData.eqv]; exact eqv_all h l k⟩
theorem DEq.pair (h : DEq enc n) (k : DEq enc2 m) : DEq (fun p : α × β => PyData.tuple [enc p.1, enc2 p.2]) (max n m + 1) := ⟨fun p => by simp [PyData.canLay0, PyData.canLayAll0, h.lay, k.lay], fun p => by
    have := h.dep p.1
    have := k.dep p.2
    simp only [PyData.depth, PyData.depthAll]
    omega, fun p q => by
    simp only [PyData.eqv, PyData.eqvAll, h.eq, k.eq]
    obtain ⟨a, b⟩ := p
    obtain ⟨c, d⟩ := q
    by_cases e : a = c <;> by_cases e2 : b = d <;> simp [e, e2]⟩
theorem DEq.mono (h : DEq enc n) (l : n ≤ m) : DEq enc m := ⟨h.lay, fun a => Nat.le_trans (h.dep a) l, h.eq⟩
theorem DEq.strs {x y : Str} (hx : PyData.strOk x = true) (hy : PyData.strOk y = true) (ne : (x == y) = false) : DEq (fun b : Bool => PyData.str (if b then x else y)) 1 := ⟨fun b => by cases b <;> simpa [PyData.canLay0], fun b => by simp [PyData.depth], fun a b => by
    have ne2 : (y == x) = false := by
      have h1 : x ≠ y := by simpa using ne
      simpa using fun z => h1 z.symm
    cases a <;> cases b <;> simp [PyData.eqv, ne, ne2]⟩
theorem cmp_eqE (h : DEq enc n) (hn : n ≤ 64) (a b : α) : cmpS .Eq [enc a, enc b] = some (.val (.bool (decide (a = b)))) := by
  show eqS false [enc a, enc b] = _
  unfold eqS
  dsimp only
  rw [h.shaped hn, h.shaped hn, h.eq]
  rfl
theorem cmp_neE (h : DEq enc n) (hn : n ≤ 64) (a b : α) : cmpS .NotEq [enc a, enc b] = some (.val (.bool (!decide (a = b)))) := by
  show eqS true [enc a, enc b] = _
  unfold eqS
  dsimp only
  rw [h.shaped hn, h.shaped hn, h.eq]
  rfl
theorem any_eqv (h : DEq enc n) (a : α) (l : List α) : (l.map enc).any (fun z => PyData.eqv z (enc a)) = decide (a ∈ l) := by
  rw [List.any_map]
  apply Bool.eq_iff_iff.mpr
  rw [List.any_eq_true, decide_eq_true_iff]
  constructor
  · rintro ⟨x, hx, e⟩
    have e : PyData.eqv (enc x) (enc a) = true := e
    rw [h.eq] at e
    have := of_decide_eq_true e
    rwa [← this]
  · intro hx
    refine ⟨a, hx, ?_⟩
    show PyData.eqv (enc a) (enc a) = true
    rw [h.eq]
    simp
theorem cmp_inE (h : DEq enc n) (hn : n + 1 ≤ 64) (a : α) (l : List α) : cmpS .In [enc a, .list (l.map enc)] = some (.val (.bool (decide (a ∈ l)))) := by
  show inS false [enc a, .list (l.map enc)] = _
  unfold inS
  dsimp only
  rw [h.shaped (by omega), show SeqAt.shaped (.list (l.map enc)) = true from h.list.shaped (by omega) l, any_eqv h]
  rfl
theorem cmp_ninE (h : DEq enc n) (hn : n + 1 ≤ 64) (a : α) (l : List α) : cmpS .NotIn [enc a, .list (l.map enc)] = some (.val (.bool (!decide (a ∈ l)))) := by
  show inS true [enc a, .list (l.map enc)] = _
  unfold inS
  dsimp only
  rw [h.shaped (by omega), show SeqAt.shaped (.list (l.map enc)) = true from h.list.shaped (by omega) l, any_eqv h]
  rfl
end
end DL

namespace DL
open PySem PySem.W PySem.Spec PyProof.Rows L2
/-! ### while -/
/-- what a turn's end means for the loop -/
def turnS (I : Env → Prop) (Q : Out → Prop) : Out → Prop
  | .nx e => I e
  | .ct e => I e
  | .bk e => Q (.nx e)
  | .rt b e => Q (.rt b e)
@[simp ↓] theorem turnS_nx {I : Env → Prop} {Q : Out → Prop} {e : Env} : turnS I Q (.nx e) = I e := rfl
@[simp ↓] theorem turnS_ct {I : Env → Prop} {Q : Out → Prop} {e : Env} : turnS I Q (.ct e) = I e := rfl
@[simp ↓] theorem turnS_bk {I : Env → Prop} {Q : Out → Prop} {e : Env} : turnS I Q (.bk e) = Q (.nx e) := rfl
@[simp ↓] theorem turnS_rt {I : Env → Prop} {Q : Out → Prop} {b : B} {e : Env} : turnS I Q (.rt b e) = Q (.rt b e) := rfl
theorem EvS_while {c : M Bool} {body : Sm} {en : Env} {Q : Out → Prop} (Inv : Nat → Env → Prop) (m : Nat) (h0 : Inv m en)
    (step : ∀ m e, Inv m e → Ev c e fun t e1 => if t = true then EvS body e1 (turnS (fun e2 => ∃ m', m' < m ∧ Inv m' e2) Q) else Q (.nx e1)) : EvS (whileS c body) en Q := by
  have main : ∀ m e, Inv m e → ∃ n o, whileN c body n e = some o ∧ Q o := fun m => by
    induction m using Nat.strongRecOn with
    | _ m ih =>
      intro e hi
      obtain ⟨t, e1, h1, h2⟩ := step m e hi
      cases t with
      | false =>
        rw [if_neg Bool.false_ne_true] at h2
        exact ⟨1, .nx e1, by unfold whileN; rw [h1], h2⟩
      | true =>
        rw [if_pos rfl] at h2
        obtain ⟨o, h3, h4⟩ := h2
        cases o with
        | nx e2 =>
          obtain ⟨m', hm, hi'⟩ := h4
          obtain ⟨n, o, h5, h6⟩ := ih m' hm e2 hi'
          exact ⟨n + 1, o, by unfold whileN; rw [h1]; dsimp only; rw [h3]; exact h5, h6⟩
        | ct e2 =>
          obtain ⟨m', hm, hi'⟩ := h4
          obtain ⟨n, o, h5, h6⟩ := ih m' hm e2 hi'
          exact ⟨n + 1, o, by unfold whileN; rw [h1]; dsimp only; rw [h3]; exact h5, h6⟩
        | bk e2 => exact ⟨1, .nx e2, by unfold whileN; rw [h1]; dsimp only; rw [h3], h4⟩
        | rt b e2 => exact ⟨1, .rt b e2, by unfold whileN; rw [h1]; dsimp only; rw [h3], h4⟩
  obtain ⟨n, o, h, q⟩ := main m en h0
  exact ⟨o, whileS_of h, q⟩
/-! calls of more things -/
section
variable {cs : Calls} {en : Env}
@[simp ↓] theorem call_b0 {x : Str} {P : B → Env → Prop} : Ev (callE (cs x) []) en P = EvF cs x [] fun r _ => P r en := call_b (bs := []) rfl
@[simp ↓] theorem call_io2' {x : Str} {i : Nat} {a b : B} {P : B → Env → Prop} : Ev (callE (cs x) [.io i, .b a, .b b]) en P = (match en[i]? with
    | some (some c) => EvF cs x [c, a, b] fun r b' => P r (en.set i (b'[0]?.getD none))
    | _ => EvH (callE (cs x) [.io i, .b a, .b b]) en P) := by
  split
  · exact call_io (bs := [a, b]) (by assumption)
  · rfl
@[simp ↓] theorem call_io3' {x : Str} {i : Nat} {a b d : B} {P : B → Env → Prop} : Ev (callE (cs x) [.io i, .b a, .b b, .b d]) en P = (match en[i]? with
    | some (some c) => EvF cs x [c, a, b, d] fun r b' => P r (en.set i (b'[0]?.getD none))
    | _ => EvH (callE (cs x) [.io i, .b a, .b b, .b d]) en P) := by
  split
  · exact call_io (bs := [a, b, d]) (by assumption)
  · rfl
end
/-! one own list of two by another name -/
def then1 (b : Sm) (Q : Out → Prop) : Out → Prop
  | .nx e => EvS b e Q
  | o => Q o
@[simp ↓] theorem then1_nx {b : Sm} {Q : Out → Prop} {e : Env} : then1 b Q (.nx e) = EvS b e Q := rfl
@[simp ↓] theorem then1_bk {b : Sm} {Q : Out → Prop} {e : Env} : then1 b Q (.bk e) = Q (.bk e) := rfl
@[simp ↓] theorem then1_ct {b : Sm} {Q : Out → Prop} {e : Env} : then1 b Q (.ct e) = Q (.ct e) := rfl
@[simp ↓] theorem then1_rt {b : Sm} {Q : Out → Prop} {c : B} {e : Env} : then1 b Q (.rt c e) = Q (.rt c e) := rfl
@[simp ↓] theorem EvS_seqS {a b : Sm} {en : Env} {Q : Out → Prop} : EvS (seqS a b) en Q = EvS a en (then1 b Q) := by
  have e : seqS a b en = (match a en with
    | some (.nx en') => b en'
    | r => r) := rfl
  cases h : a en with
  | none =>
    rw [h] at e
    rw [EvS_no e, EvS_no h]
  | some o =>
    rw [h] at e
    rw [EvS_of h]
    cases o with
    | nx e1 =>
      show EvS _ _ _ = EvS b e1 Q
      unfold EvS
      rw [e]
    | bk e1 => exact EvS_of e
    | ct e1 => exact EvS_of e
    | rt b e1 => exact EvS_of e
@[simp ↓] theorem EvS_setN {i : Nat} {en : Env} {Q : Out → Prop} : EvS (setN i) en Q = Q (.nx (en.set i none)) := EvS_of rfl
def appJ (iy j : Nat) (me2 : M D) (Q : Out → Prop) (e1 : Env) : Prop := (iy < e1.length ∧ j ≠ iy) ∧ (match e1[j]? with
  | some (some (.lst _)) => Ev me2 (e1.set iy none) fun d e2 => (match e2[j]? with
    | some (some (.lst ds)) => ds.length < cap ∧ Q (.nx (e2.set j (some (.lst (ds ++ [d])))))
    | _ => False)
  | _ => False)
theorem EvS_pickApp {iy ia ib : Nat} {me me2 : M D} {en : Env} {Q : Out → Prop} {da db : List D} (ha : en[ia]? = some (some (.lst da))) (hb : en[ib]? = some (some (.lst db)))
    (h : Ev me en fun x e1 => ∃ k : Int, x = .int k ∧ ((k = 0 ∧ appJ iy ia me2 Q e1) ∨ (k = 1 ∧ appJ iy ib me2 Q e1))) : EvS (pickApp iy ia ib me me2) en Q := by
  obtain ⟨x, e1, h1, k, rfl, h2⟩ := h
  have one : ∀ j, (if k = 0 then some ia else if k = 1 then some ib else none) = some j → appJ iy j me2 Q e1 → EvS (pickApp iy ia ib me me2) en Q := fun j hj ⟨hc, hm⟩ => by
    cases e2 : e1[j]? with
    | none => rw [e2] at hm; exact hm.elim
    | some o =>
      rw [e2] at hm
      split at hm
      · rename_i ds0 hd
        obtain ⟨d, e3, m1, m2⟩ := hm
        split at m2
        · rename_i ds hds
          refine ⟨_, ?_, m2.2⟩
          unfold pickApp pickA
          rw [ha, hb]
          dsimp only
          rw [h1]
          dsimp only
          rw [hj]
          dsimp only
          rw [if_pos hc, e2, hd]
          dsimp only
          rw [m1]
          dsimp only
          rw [hds]
          dsimp only
          rw [if_pos m2.1]
        · exact m2.elim
      · exact hm.elim
  rcases h2 with ⟨rfl, h2⟩ | ⟨rfl, h2⟩
  · exact one ia rfl h2
  · exact one ib rfl h2
@[simp ↓] theorem EvS_forAB {iy ia ib : Nat} {mi : M (List D)} {t : Tg} {me : M D} {en : Env} {Q : Out → Prop} : EvS (forAB iy ia ib mi t me) en Q = (match en[ia]?, en[ib]? with
    | some (some (.lst _)), some (some (.lst _)) => (iy ≠ ia ∧ iy ≠ ib ∧ iy < en.length) ∧ EvS (forS mi t (appS ia me)) (en.set iy none) (then1 (seqS (setN iy) (forS mi t (appS ib me))) Q)
    | _, _ => False) := by
  split
  · rename_i da db ha hb
    by_cases hc : iy ≠ ia ∧ iy ≠ ib ∧ iy < en.length
    · have e : forAB iy ia ib mi t me en = seqS (forS mi t (appS ia me)) (seqS (setN iy) (forS mi t (appS ib me))) (en.set iy none) := by
        unfold forAB
        rw [ha, hb]
        exact if_pos hc
      have e2 : EvS (forAB iy ia ib mi t me) en Q = EvS (seqS (forS mi t (appS ia me)) (seqS (setN iy) (forS mi t (appS ib me)))) (en.set iy none) Q := by unfold EvS; rw [e]
      rw [e2, EvS_seqS]
      exact propext ⟨fun h => ⟨hc, h⟩, fun h => h.2⟩
    · rw [EvS_no (show forAB iy ia ib mi t me en = none by unfold forAB; rw [ha, hb]; exact if_neg hc)]
      exact propext ⟨fun h => h.elim, fun h => hc h.1⟩
  · rename_i h1
    refine EvS_no ?_
    unfold forAB
    split
    · exact (h1 _ _ (by assumption) (by assumption)).elim
    · rfl
/-! C(..).m(), a written dict's item -/
def EvR (cs : Calls) (c m key : Str) (b : B) (Q : B → Prop) : Prop := match b with
  | .ins c' fs => (c' = c ∧ noF m fs = true) ∧ EvF cs key [.ins c' fs] fun r _ => Q r
  | _ => False
@[simp ↓] theorem EvR_ins {cs : Calls} {c m key c' : Str} {fs : List (Str × FB)} {Q : B → Prop} : EvR cs c m key (.ins c' fs) Q = ((c' = c ∧ noF m fs = true) ∧ EvF cs key [.ins c' fs] fun r _ => Q r) := rfl
@[simp ↓] theorem Ev_recvC {cs : Calls} {c m key : Str} {mk : M B} {en : Env} {Q : B → Env → Prop} : Ev (recvC cs c m key mk) en Q = Ev mk en fun b e => EvR cs c m key b fun r => Q r e := by
  cases h : mk en with
  | none => rw [Ev_no h, Ev_no (show recvC cs c m key mk en = none by unfold recvC; rw [h])]
  | some p =>
    obtain ⟨b, e⟩ := p
    rw [Ev_of h]
    cases b with
    | ins c' fs =>
      rw [EvR_ins]
      by_cases hc : c' = c ∧ noF m fs = true
      · cases e2 : cs key [.ins c' fs] with
        | none =>
          rw [Ev_no (show recvC cs c m key mk en = none by unfold recvC; rw [h]; dsimp only; rw [e2]; exact if_pos hc)]
          refine propext ⟨fun h => h.elim, ?_⟩
          rintro ⟨_, _, _, h, _⟩
          rw [e2] at h
          cases h
        | some p =>
          obtain ⟨r, bs⟩ := p
          rw [Ev_of (show recvC cs c m key mk en = some (r, e) by unfold recvC; rw [h]; dsimp only; rw [e2]; exact if_pos hc)]
          refine propext ⟨fun h => ⟨hc, _, _, e2, h⟩, ?_⟩
          rintro ⟨_, _, _, h, q⟩
          rw [e2] at h
          cases h
          exact q
      · rw [Ev_no (show recvC cs c m key mk en = none by unfold recvC; rw [h]; exact if_neg hc)]
        exact propext ⟨fun h => h.elim, fun h => hc h.1⟩
    | lst ds => exact Ev_no (by unfold recvC; rw [h])
    | val d => exact Ev_no (by unfold recvC; rw [h])
    | scr d => exact Ev_no (by unfold recvC; rw [h])
    | dk d => exact Ev_no (by unfold recvC; rw [h])
    | dt d => exact Ev_no (by unfold recvC; rw [h])
def dctS (x1 y1 x2 y2 : Str) (d : D) : Option B := match d with
  | .str z => if z = x1 then some (.val (.str y1)) else if z = x2 then some (.val (.str y2)) else none
  | _ => none
@[simp ↓] theorem Ev_dctE {x1 y1 x2 y2 : Str} {me : M D} {en : Env} {Q : B → Env → Prop} : Ev (dctE x1 y1 x2 y2 me) en Q = Ev me en fun d e => onB (dctS x1 y1 x2 y2 d) fun b => Q b e := by
  show Ev (bd me fun d => lift (dctS x1 y1 x2 y2 d)) en Q = _
  simp only [Ev_bd, Ev_lift]
section
variable {en : Env} {Q : List D → Env → Prop}
@[simp ↓] theorem Ev_seqT_list {ds : List D} : Ev (seqT (.val (.list ds))) en Q = Q ds en := Ev_ret
@[simp ↓] theorem Ev_seqT_tuple {ds : List D} : Ev (seqT (.val (.tuple ds))) en Q = Q ds en := Ev_ret
@[simp ↓] theorem Ev_seqT_lst {ds : List D} : Ev (seqT (.lst ds)) en Q = Q ds en := Ev_ret
@[simp ↓] theorem Ev_seqT_scr {ns : List Int} : Ev (seqT (.scr ns)) en Q = Q (ns.map .int) en := Ev_ret
@[simp ↓] theorem Ev_seqT_str {x : Str} : Ev (seqT (.val (.str x))) en Q = Q (strD x) en := Ev_ret
@[simp ↓] theorem Ev_enumT_l {ds : List D} : Ev (enumT [.list ds]) en Q = Q (enumD ds) en := Ev_of rfl
@[simp ↓] theorem Ev_enumT_t {ds : List D} : Ev (enumT [.tuple ds]) en Q = Q (enumD ds) en := Ev_of rfl
@[simp ↓] theorem Ev_enumT_s {x : Str} : Ev (enumT [.str x]) en Q = Q (enumD (strD x)) en := Ev_of rfl
end
section
variable {en : Env}
@[simp ↓] theorem EvT_tupT_list {n : Nat} {t : Tgs} {ds : List D} {P : Env → Prop} : EvT (tupT n t) (.val (.list ds)) en P = (ds.length = n ∧ EvTs t ds en P) := by
  by_cases h : ds.length = n
  · unfold EvT EvTs
    have e : tupT n t (.val (.list ds)) en = t ds en := by unfold tupT; dsimp only; rw [if_pos h]
    rw [e]
    exact propext ⟨fun q => ⟨h, q⟩, fun q => q.2⟩
  · rw [EvT_no (show tupT n t (.val (.list ds)) en = none by unfold tupT; dsimp only; rw [if_neg h])]
    exact propext ⟨fun q => q.elim, fun q => h q.1⟩
@[simp ↓] theorem EvT_tupT_lst {n : Nat} {t : Tgs} {ds : List D} {P : Env → Prop} : EvT (tupT n t) (.lst ds) en P = (ds.length = n ∧ EvTs t ds en P) := by
  by_cases h : ds.length = n
  · unfold EvT EvTs
    have e : tupT n t (.lst ds) en = t ds en := by unfold tupT; dsimp only; rw [if_pos h]
    rw [e]
    exact propext ⟨fun q => ⟨h, q⟩, fun q => q.2⟩
  · rw [EvT_no (show tupT n t (.lst ds) en = none by unfold tupT; dsimp only; rw [if_neg h])]
    exact propext ⟨fun q => q.elim, fun q => h q.1⟩
end
end DL

namespace LK
/-! ### plain dunes: what cuts and fills make -/
def cutO (s : Int) : Int → List Int → List Int
  | _, [] => []
  | p, h :: t => (if p + s < h then p + s else h) :: cutO s (if p + s < h then p + s else h) t
def cut1 (s : Int) : List Int → List Int
  | [] => []
  | h :: t => h :: cutO s h t
def cutD (s : Int) (ns : List Int) : List Int := (cut1 s (cut1 s ns).reverse).reverse
theorem cutO_len {s : Int} : ∀ {p : Int} {ns : List Int}, (cutO s p ns).length = ns.length
  | _, [] => rfl
  | _, _ :: _ => congrArg Nat.succ cutO_len
@[simp] theorem cut1_len {s : Int} {ns : List Int} : (cut1 s ns).length = ns.length := by
  cases ns with
  | nil => rfl
  | cons h t => exact congrArg Nat.succ cutO_len
@[simp] theorem cutD_len {s : Int} {ns : List Int} : (cutD s ns).length = ns.length := by simp [cutD]
def blow (w : Bool × Int) (ns : List Int) : List Int := if w.1 then cutD w.2 ns else (cutD w.2 (ns.map fun i => -i)).map fun i => -i
@[simp] theorem blow_len {w : Bool × Int} {ns : List Int} : (blow w ns).length = ns.length := by
  unfold blow
  split <;> simp
/-- all dunes, one behind another -/
def dunes : List Int → List (Bool × Int) → List (List Int)
  | ns, [] => [ns]
  | ns, w :: ws => ns :: dunes (blow w ns) ws
def behind (ns : List Int) (ws : List (Bool × Int)) : List Int := ws.foldl (fun ns w => blow w ns) ns
@[simp] theorem behind_len {ws : List (Bool × Int)} : ∀ {ns : List Int}, (behind ns ws).length = ns.length := by
  induction ws with
  | nil => intro ns; rfl
  | cons w ws ih => intro ns; exact (ih (ns := blow w ns)).trans blow_len
@[simp] theorem dunes_len {ws : List (Bool × Int)} : ∀ {ns : List Int}, (dunes ns ws).length = ws.length + 1 := by
  induction ws with
  | nil => intro ns; rfl
  | cons w ws ih => intro ns; exact congrArg Nat.succ (ih (ns := blow w ns))
theorem dunes_last {ws : List (Bool × Int)} : ∀ {ns : List Int}, (dunes ns ws).getLast? = some (behind ns ws) := by
  induction ws with
  | nil => intro ns; rfl
  | cons w ws ih =>
    intro ns
    show (ns :: dunes (blow w ns) ws).getLast? = _
    rw [List.getLast?_cons, ih]
    rfl
theorem behind_cons {w : Bool × Int} {ws : List (Bool × Int)} {a : List Int} : behind a (w :: ws) = behind (blow w a) ws := rfl
theorem behind_append {ws us : List (Bool × Int)} {a : List Int} : behind a (ws ++ us) = behind (behind a ws) us := List.foldl_append
@[simp] theorem behind_nil {a : List Int} : behind a [] = a := rfl
/-! ### the plain law: cuts are monotone, and move with what is added -/
def LeP : List Int → List Int → Prop
  | [], [] => True
  | x :: a, y :: b => x ≤ y ∧ LeP a b
  | _, _ => False
theorem LeP.len : ∀ {a b : List Int}, LeP a b → a.length = b.length
  | [], [], _ => rfl
  | x :: a, y :: b, h => congrArg Nat.succ (LeP.len h.2)
  | [], _ :: _, h => h.elim
  | _ :: _, [], h => h.elim
theorem LeP.refl : ∀ a : List Int, LeP a a
  | [] => trivial
  | x :: a => ⟨Int.le_refl x, LeP.refl a⟩
theorem LeP.trans : ∀ {a b c : List Int}, LeP a b → LeP b c → LeP a c
  | [], [], [], _, _ => trivial
  | x :: a, y :: b, z :: c, h, k => ⟨Int.le_trans h.1 k.1, h.2.trans k.2⟩
  | [], _ :: _, _, h, _ => h.elim
  | _ :: _, [], _, h, _ => h.elim
  | _, [], _ :: _, _, k => k.elim
  | _, _ :: _, [], _, k => k.elim
theorem LeP.append : ∀ {a b c d : List Int}, LeP a b → LeP c d → LeP (a ++ c) (b ++ d)
  | [], [], _, _, _, k => k
  | x :: a, y :: b, _, _, h, k => ⟨h.1, h.2.append k⟩
  | [], _ :: _, _, _, h, _ => h.elim
  | _ :: _, [], _, _, h, _ => h.elim
theorem LeP.reverse : ∀ {a b : List Int}, LeP a b → LeP a.reverse b.reverse
  | [], [], _ => trivial
  | x :: a, y :: b, h => by
    rw [List.reverse_cons, List.reverse_cons]
    exact h.2.reverse.append ⟨h.1, trivial⟩
  | [], _ :: _, h => h.elim
  | _ :: _, [], h => h.elim
theorem LeP.neg : ∀ {a b : List Int}, LeP a b → LeP (b.map fun i => -i) (a.map fun i => -i)
  | [], [], _ => trivial
  | x :: a, y :: b, h => ⟨by have := h.1; dsimp only; omega, h.2.neg⟩
  | [], _ :: _, h => h.elim
  | _ :: _, [], h => h.elim
theorem cutO_mono {s : Int} : ∀ {a b : List Int} {p q : Int}, LeP a b → p ≤ q → LeP (cutO s p a) (cutO s q b)
  | [], [], _, _, _, _ => trivial
  | x :: a, y :: b, p, q, h, k => by
    have h1 := h.1
    have e : (if p + s < x then p + s else x) ≤ (if q + s < y then q + s else y) := by
      split <;> split <;> omega
    exact ⟨e, cutO_mono h.2 e⟩
  | [], _ :: _, _, _, h, _ => h.elim
  | _ :: _, [], _, _, h, _ => h.elim
theorem cut1_mono {s : Int} : ∀ {a b : List Int}, LeP a b → LeP (cut1 s a) (cut1 s b)
  | [], [], _ => trivial
  | x :: a, y :: b, h => ⟨h.1, cutO_mono h.2 h.1⟩
  | [], _ :: _, h => h.elim
  | _ :: _, [], h => h.elim
theorem cutD_mono {s : Int} {a b : List Int} (h : LeP a b) : LeP (cutD s a) (cutD s b) := (cut1_mono (cut1_mono h).reverse).reverse
theorem blow_mono {w : Bool × Int} {a b : List Int} (h : LeP a b) : LeP (blow w a) (blow w b) := by
  unfold blow
  split
  · exact cutD_mono h
  · exact (cutD_mono h.neg).neg
def up (c : Int) (a : List Int) : List Int := a.map (· + c)
theorem cutO_up {s c : Int} : ∀ {a : List Int} {p : Int}, cutO s (p + c) (up c a) = up c (cutO s p a)
  | [], _ => rfl
  | x :: a, p => by
    have e : (if p + c + s < x + c then p + c + s else x + c) = (if p + s < x then p + s else x) + c := by
      split <;> split <;> omega
    show _ :: cutO s _ (up c a) = _ :: up c (cutO s _ a)
    rw [e, cutO_up]
theorem cut1_up {s c : Int} : ∀ {a : List Int}, cut1 s (up c a) = up c (cut1 s a)
  | [] => rfl
  | x :: a => congrArg (List.cons (x + c)) cutO_up
theorem up_rev {c : Int} {a : List Int} : (up c a).reverse = up c a.reverse := by simp [up]
theorem cutD_up {s c : Int} {a : List Int} : cutD s (up c a) = up c (cutD s a) := by
  unfold cutD
  rw [cut1_up, up_rev, cut1_up, up_rev]
theorem up_neg {c : Int} {a : List Int} : (up c a).map (fun i => -i) = up (-c) (a.map fun i => -i) := by
  simp [up]
  intro x _
  omega
theorem blow_up {w : Bool × Int} {c : Int} {a : List Int} : blow w (up c a) = up c (blow w a) := by
  unfold blow
  split
  · exact cutD_up
  · rw [up_neg, cutD_up, up_neg, Int.neg_neg]
theorem behind_mono {ws : List (Bool × Int)} : ∀ {a b : List Int}, LeP a b → LeP (behind a ws) (behind b ws) := by
  induction ws with
  | nil => intro a b h; exact h
  | cons w ws ih => intro a b h; exact ih (blow_mono h)
theorem behind_up {ws : List (Bool × Int)} {c : Int} : ∀ {a : List Int}, behind (up c a) ws = up c (behind a ws) := by
  induction ws with
  | nil => intro a; rfl
  | cons w ws ih =>
    intro a
    show behind (blow w (up c a)) ws = up c (behind (blow w a) ws)
    rw [blow_up, ih]
/-! ### both ways about: a cut of the mirrored is the cut mirrored -/
/-- nowhere more than s up from the one ahead -/
def Stp (s : Int) : List Int → Prop
  | [] => True
  | [_] => True
  | x :: y :: l => y ≤ x + s ∧ Stp s (y :: l)
theorem cutO_le {s : Int} : ∀ {a : List Int} {p : Int}, LeP (cutO s p a) a
  | [], _ => trivial
  | x :: a, p => ⟨by split <;> omega, cutO_le⟩
theorem cut1_le {s : Int} : ∀ {a : List Int}, LeP (cut1 s a) a
  | [] => trivial
  | x :: a => ⟨Int.le_refl x, cutO_le⟩
theorem cutO_stp {s : Int} : ∀ {a : List Int} {p : Int}, Stp s (p :: cutO s p a)
  | [], _ => trivial
  | x :: a, p => ⟨by split <;> omega, cutO_stp⟩
theorem cut1_stp {s : Int} : ∀ {a : List Int}, Stp s (cut1 s a)
  | [] => trivial
  | x :: a => cutO_stp
theorem cutO_most {s : Int} : ∀ {a b : List Int} {p q : Int}, LeP b a → q ≤ p → Stp s (q :: b) → LeP b (cutO s p a)
  | [], [], _, _, _, _, _ => trivial
  | x :: a, y :: b, p, q, h, hq, st => by
    have h1 := h.1
    have h2 := st.1
    exact ⟨by split <;> omega, cutO_most h.2 (by split <;> omega) st.2⟩
  | [], _ :: _, _, _, h, _, _ => h.elim
  | _ :: _, [], _, _, h, _, _ => h.elim
theorem cut1_most {s : Int} : ∀ {a b : List Int}, LeP b a → Stp s b → LeP b (cut1 s a)
  | [], [], _, _ => trivial
  | x :: a, y :: b, h, st => ⟨h.1, cutO_most h.2 h.1 st⟩
  | [], _ :: _, h, _ => h.elim
  | _ :: _, [], h, _ => h.elim
theorem LeP.anti : ∀ {a b : List Int}, LeP a b → LeP b a → a = b
  | [], [], _, _ => rfl
  | x :: a, y :: b, h, k => by
    have := h.1
    have := k.1
    rw [show x = y by omega, h.2.anti k.2]
  | [], _ :: _, h, _ => h.elim
  | _ :: _, [], h, _ => h.elim
/-- the walk from the end -/
def cutB (s : Int) (a : List Int) : List Int := (cut1 s a.reverse).reverse
theorem cutO_snoc {s : Int} : ∀ {a : List Int} {p x : Int}, ∃ q, (p :: cutO s p a).getLast? = some q ∧ cutO s p (a ++ [x]) = cutO s p a ++ [if q + s < x then q + s else x]
  | [], p, x => ⟨p, rfl, rfl⟩
  | y :: a, p, x => by
    obtain ⟨q, h1, h2⟩ := cutO_snoc (s := s) (a := a) (p := if p + s < y then p + s else y) (x := x)
    refine ⟨q, ?_, ?_⟩
    · show (p :: (if p + s < y then p + s else y) :: cutO s (if p + s < y then p + s else y) a).getLast? = some q
      rw [List.getLast?_cons_cons]
      exact h1
    · show _ :: cutO s _ (a ++ [x]) = _ :: cutO s _ a ++ [_]
      rw [h2]
      rfl
theorem cutB_cons {s x y : Int} {l : List Int} : ∃ q r, cutB s (y :: l) = q :: r ∧ cutB s (x :: y :: l) = (if q + s < x then q + s else x) :: q :: r := by
  unfold cutB
  rw [List.reverse_cons (a := x)]
  cases h : (y :: l).reverse with
  | nil => simp at h
  | cons z t =>
    obtain ⟨q, h1, h2⟩ := cutO_snoc (s := s) (a := t) (p := z) (x := x)
    have h3 : (cut1 s (z :: t)).getLast? = some q := h1
    have h4 : cut1 s (z :: t ++ [x]) = cut1 s (z :: t) ++ [if q + s < x then q + s else x] := congrArg (List.cons z) h2
    rw [h4, List.reverse_append]
    obtain ⟨r, hr⟩ : ∃ r, cut1 s (z :: t) = r ++ [q] := List.getLast?_eq_some_iff.mp h3
    rw [hr]
    simp
    exact ⟨q, r.reverse, ⟨rfl, rfl⟩, rfl, rfl, rfl⟩
theorem cutB_stp {s : Int} (hs : 0 ≤ s) : ∀ {a : List Int}, Stp s a → Stp s (cutB s a)
  | [], _ => trivial
  | [x], _ => trivial
  | x :: y :: l, st => by
    obtain ⟨q, r, e1, e2⟩ := cutB_cons (s := s) (x := x) (y := y) (l := l)
    have ih := cutB_stp hs (a := y :: l) st.2
    have h1 := st.1
    have le : LeP (cutB s (y :: l)) (y :: l) := by
      have := (cut1_le (s := s) (a := (y :: l).reverse)).reverse
      rwa [List.reverse_reverse] at this
    rw [e1] at ih le
    have h2 := le.1
    rw [e2]
    exact ⟨by split <;> omega, ih⟩
theorem cutB_le {s : Int} {a : List Int} : LeP (cutB s a) a := by
  have := (cut1_le (s := s) (a := a.reverse)).reverse
  rwa [List.reverse_reverse] at this
theorem cutB_most {s : Int} {a b : List Int} (h : LeP b a) (st : Stp s b.reverse) : LeP b (cutB s a) := by
  have := (cut1_most h.reverse st).reverse
  rwa [List.reverse_reverse] at this
theorem cutF_stpB {s : Int} (hs : 0 ≤ s) {a : List Int} (st : Stp s a.reverse) : Stp s (cut1 s a).reverse := by
  have := cutB_stp hs st
  unfold cutB at this
  rwa [List.reverse_reverse] at this
/-- forth and back, back and forth: the same -/
theorem cut_comm {s : Int} (hs : 0 ≤ s) {a : List Int} : cutB s (cut1 s a) = cut1 s (cutB s a) := by
  apply LeP.anti
  · refine cut1_most (cutB_most (cutB_le.trans cut1_le) ?_) (cutB_stp hs cut1_stp)
    unfold cutB
    rw [List.reverse_reverse]
    exact cut1_stp
  · refine cutB_most (cut1_most (cut1_le.trans cutB_le) cut1_stp) (cutF_stpB hs ?_)
    unfold cutB
    rw [List.reverse_reverse]
    exact cut1_stp
theorem cutD_rev {s : Int} (hs : 0 ≤ s) {a : List Int} : cutD s a.reverse = (cutD s a).reverse := by
  have e1 : cutD s a.reverse = cutB s (cut1 s a.reverse) := rfl
  have e2 : cutD s a = cutB s (cut1 s a) := rfl
  rw [e1, e2, cut_comm hs, cut_comm hs]
  show cut1 s (cut1 s a.reverse.reverse).reverse = (cut1 s (cut1 s a.reverse).reverse).reverse
  rw [List.reverse_reverse]
  have := cut_comm hs (a := a)
  have e3 : cutB s (cut1 s a) = (cut1 s (cut1 s a).reverse).reverse := rfl
  rw [e3] at this
  rw [show cut1 s (cut1 s a.reverse).reverse = cut1 s (cutB s a) from rfl, ← this, List.reverse_reverse]
theorem blow_rev {w : Bool × Int} (hs : 0 ≤ w.2) {a : List Int} : blow w a.reverse = (blow w a).reverse := by
  unfold blow
  split
  · exact cutD_rev hs
  · rw [List.map_reverse, cutD_rev hs, List.map_reverse]
theorem behind_rev {ws : List (Bool × Int)} : ∀ {a : List Int}, (∀ w ∈ ws, 0 ≤ w.2) → behind a.reverse ws = (behind a ws).reverse := by
  induction ws with
  | nil => intro a _; rfl
  | cons w ws ih =>
    intro a h
    show behind (blow w a.reverse) ws = (behind (blow w a) ws).reverse
    rw [blow_rev (h w (by simp)), ih fun x hx => h x (by simp [hx])]
theorem leP_of : ∀ {a b : List Int}, a.length = b.length → (∀ (i : Nat) x y, a[i]? = some x → b[i]? = some y → x ≤ y) → LeP a b
  | [], [], _, _ => trivial
  | x :: a, y :: b, l, h => ⟨h 0 x y rfl rfl, leP_of (by simpa using l) fun i u v h1 h2 => h (i + 1) u v (by simpa using h1) (by simpa using h2)⟩
  | [], _ :: _, l, _ => by cases l
  | _ :: _, [], l, _ => by cases l
theorem LeP.at' : ∀ {a b : List Int}, LeP a b → ∀ (i : Nat) x y, a[i]? = some x → b[i]? = some y → x ≤ y
  | [], [], _, i, x, y, h1, _ => by simp at h1
  | u :: a, v :: b, h, 0, x, y, h1, h2 => by
    simp at h1 h2
    have := h.1
    omega
  | u :: a, v :: b, h, i + 1, x, y, h1, h2 => h.2.at' i x y (by simpa using h1) (by simpa using h2)
  | [], _ :: _, h, _, _, _, _, _ => h.elim
  | _ :: _, [], h, _, _, _, _, _ => h.elim
end LK

namespace LK
/-! ### cuts as the greatest gentle dune below -/
theorem stp_iff {s : Int} : ∀ {a : List Int}, Stp s a ↔ ∀ (i : Nat) x y, a[i]? = some x → a[i + 1]? = some y → y ≤ x + s
  | [] => ⟨fun _ i x y h _ => by simp at h, fun _ => trivial⟩
  | [u] => ⟨fun _ i x y _ h => by simp at h, fun _ => trivial⟩
  | u :: v :: l => by
    refine ⟨fun h i x y h1 h2 => ?_, fun h => ⟨h 0 u v rfl rfl, stp_iff.mpr fun i x y h1 h2 => h (i + 1) x y (by simpa using h1) (by simpa using h2)⟩⟩
    cases i with
    | zero =>
      simp at h1 h2
      subst h1 h2
      exact h.1
    | succ i => exact stp_iff.mp h.2 i x y (by simpa using h1) (by simpa using h2)
def Lip (s : Int) (a : List Int) : Prop := ∀ (i : Nat) x y, a[i]? = some x → a[i + 1]? = some y → y ≤ x + s ∧ x ≤ y + s
theorem lip_iff {s : Int} {a : List Int} : Lip s a ↔ Stp s a ∧ Stp s a.reverse := by
  rw [stp_iff, stp_iff]
  constructor
  · intro h
    refine ⟨fun i x y h1 h2 => (h i x y h1 h2).1, fun i x y h1 h2 => ?_⟩
    have l1 : i + 1 < a.length := by
      have := (List.getElem?_eq_some_iff.mp h2).1
      simpa using this
    rw [List.getElem?_reverse (by omega)] at h1
    rw [List.getElem?_reverse (by omega)] at h2
    refine (h (a.length - 1 - (i + 1)) y x h2 ?_).2
    rw [← h1]
    congr 1
    omega
  · rintro ⟨h, k⟩ i x y h1 h2
    refine ⟨h i x y h1 h2, ?_⟩
    have l1 : i + 1 < a.length := (List.getElem?_eq_some_iff.mp h2).1
    refine k (a.length - 1 - (i + 1)) y x ?_ ?_
    · rw [List.getElem?_reverse (by omega), ← h2]
      congr 1
      omega
    · rw [List.getElem?_reverse (by omega), ← h1]
      congr 1
      omega
theorem Lip.mono {s t : Int} {a : List Int} (h : Lip s a) (l : s ≤ t) : Lip t a := fun i x y h1 h2 => by
  have := h i x y h1 h2
  omega
theorem Lip.neg {s : Int} {a : List Int} (h : Lip s a) : Lip s (a.map fun i => -i) := fun i x y h1 h2 => by
  rw [List.getElem?_map, Option.map_eq_some_iff] at h1 h2
  obtain ⟨u, h1, rfl⟩ := h1
  obtain ⟨v, h2, rfl⟩ := h2
  have := h i u v h1 h2
  omega
@[simp] theorem neg_neg' {a : List Int} : (a.map fun i => -i).map (fun i => -i) = a := by
  rw [List.map_map]
  exact (List.map_congr_left fun x _ => by show - -x = x; omega).trans (List.map_id a)
theorem Lip.rev {s : Int} {a : List Int} (h : Lip s a) : Lip s a.reverse := by
  rw [lip_iff] at h ⊢
  rw [List.reverse_reverse]
  exact ⟨h.2, h.1⟩
theorem cutD_lip {s : Int} (hs : 0 ≤ s) {a : List Int} : Lip s (cutD s a) := by
  rw [lip_iff]
  have e : cutD s a = cutB s (cut1 s a) := rfl
  rw [e]
  exact ⟨cutB_stp hs cut1_stp, by unfold cutB; rw [List.reverse_reverse]; exact cut1_stp⟩
theorem cutD_le {s : Int} {a : List Int} : LeP (cutD s a) a := by
  have e : cutD s a = cutB s (cut1 s a) := rfl
  rw [e]
  exact cutB_le.trans cut1_le
theorem cutD_most {s : Int} {a b : List Int} (h : LeP b a) (k : Lip s b) : LeP b (cutD s a) := by
  rw [lip_iff] at k
  exact cutB_most (cut1_most h k.1) k.2
theorem cutD_fix {s : Int} {a : List Int} (k : Lip s a) : cutD s a = a := cutD_le.anti (cutD_most (LeP.refl a) k)
theorem cutD_fix_iff {s : Int} (hs : 0 ≤ s) {a : List Int} : cutD s a = a ↔ Lip s a := ⟨fun h => by rw [← h]; exact cutD_lip hs, cutD_fix⟩
theorem cut_cut1 {s t : Int} (h : t ≤ s) {a : List Int} (ht : 0 ≤ t) : cutD t (cutD s a) = cutD t a :=
  (cutD_most (cutD_le.trans cutD_le) (cutD_lip ht)).anti (cutD_most (cutD_most cutD_le ((cutD_lip ht).mono h)) (cutD_lip ht))
theorem cut_cut2 {s t : Int} (h : s ≤ t) {a : List Int} (hs : 0 ≤ s) : cutD t (cutD s a) = cutD s a := cutD_fix ((cutD_lip hs).mono h)
theorem cutD_comm {s t : Int} (hs : 0 ≤ s) (ht : 0 ≤ t) {a : List Int} : cutD s (cutD t a) = cutD t (cutD s a) := by
  by_cases h : s ≤ t
  · rw [cut_cut1 h hs, cut_cut2 h hs]
  · rw [cut_cut1 (show t ≤ s by omega) ht, cut_cut2 (show t ≤ s by omega) ht]
theorem cutD_keep {s t : Int} (hs : 0 ≤ s) (ht : 0 ≤ t) {a : List Int} (k : Lip t a) : Lip t (cutD s a) := by
  rw [← cutD_fix_iff ht, cutD_comm ht hs, cutD_fix k]
/-! winds -/
theorem blow_lip {w : Bool × Int} (hs : 0 ≤ w.2) {a : List Int} : Lip w.2 (blow w a) := by
  unfold blow
  split
  · exact cutD_lip hs
  · exact (cutD_lip hs).neg
theorem blow_keep {w : Bool × Int} {t : Int} (hs : 0 ≤ w.2) (ht : 0 ≤ t) {a : List Int} (k : Lip t a) : Lip t (blow w a) := by
  unfold blow
  split
  · exact cutD_keep hs ht k
  · exact (cutD_keep hs ht k.neg).neg
theorem blow_fix {w : Bool × Int} {a : List Int} (k : Lip w.2 a) : blow w a = a := by
  unfold blow
  split
  · exact cutD_fix k
  · rw [cutD_fix k.neg, neg_neg']
theorem blow_fix_iff {w : Bool × Int} (hs : 0 ≤ w.2) {a : List Int} : blow w a = a ↔ Lip w.2 a := ⟨fun h => by rw [← h]; exact blow_lip hs, blow_fix⟩
theorem behind_keep {ws : List (Bool × Int)} {t : Int} (ht : 0 ≤ t) : ∀ {a : List Int}, (∀ w ∈ ws, 0 ≤ w.2) → Lip t a → Lip t (behind a ws) := by
  induction ws with
  | nil => intro a _ k; exact k
  | cons w ws ih => intro a h k; exact ih (fun x hx => h x (by simp [hx])) (blow_keep (h w (by simp)) ht k)
theorem behind_lip {ws : List (Bool × Int)} : ∀ {a : List Int}, (∀ w ∈ ws, 0 ≤ w.2) → ∀ w ∈ ws, Lip w.2 (behind a ws) := by
  induction ws with
  | nil => intro a _ w hw; simp at hw
  | cons u ws ih =>
    intro a h w hw
    rcases List.mem_cons.mp hw with rfl | hw
    · rw [behind_cons]
      exact behind_keep (h w (by simp)) (fun x hx => h x (by simp [hx])) (blow_lip (h w (by simp)))
    · exact ih (fun x hx => h x (by simp [hx])) w hw
theorem cut_le_blow {s : Int} {a : List Int} : LeP (blow (true, s) a) a := cutD_le
theorem le_fill {s : Int} {a : List Int} : LeP a (blow (false, s) a) := by
  have h := (cutD_le (s := s) (a := a.map fun i => -i)).neg
  rw [neg_neg'] at h
  exact h
/-- both ways: one word's winds exchanged -/
theorem blow_comm {b : Bool} {s t : Int} (hs : 0 ≤ s) (ht : 0 ≤ t) {a : List Int} : blow (b, s) (blow (b, t) a) = blow (b, t) (blow (b, s) a) := by
  unfold blow
  cases b with
  | true => exact cutD_comm hs ht
  | false =>
    simp only [Bool.false_eq_true, if_false, neg_neg']
    rw [cutD_comm hs ht]
/-- a fill brought ahead of a cut leaves no post lower -/
theorem fill_ahead {s t : Int} (hs : 0 ≤ s) (ht : 0 ≤ t) {a : List Int} : LeP (blow (false, t) (blow (true, s) a)) (blow (true, s) (blow (false, t) a)) := by
  by_cases h : s ≤ t
  · rw [blow_fix (w := (false, t)) (a := blow (true, s) a) ((blow_lip (w := (true, s)) hs).mono h)]
    exact blow_mono le_fill
  · rw [blow_fix (w := (true, s)) (a := blow (false, t) a) ((blow_lip (w := (false, t)) ht).mono (show t ≤ s by omega))]
    exact blow_mono cut_le_blow
end LK

namespace LK
/-! ### a wind by all posts -/
def lmin : List Int → Int
  | [] => 0
  | n :: ns => ns.foldl min n
def lmax : List Int → Int
  | [] => 0
  | n :: ns => ns.foldl max n
def absI (x : Int) : Int := if x < 0 then -x else x
theorem absI_nonneg {x : Int} : 0 ≤ absI x := by unfold absI; split <;> omega
theorem foldl_min_le : ∀ {ns : List Int} {n : Int}, ns.foldl min n ≤ n ∧ ∀ x ∈ ns, ns.foldl min n ≤ x
  | [], n => ⟨Int.le_refl _, fun x h => by simp at h⟩
  | m :: ns, n => by
    have ih := foldl_min_le (ns := ns) (n := min n m)
    refine ⟨?_, fun x hx => ?_⟩
    · show ns.foldl min (min n m) ≤ n
      omega
    · show ns.foldl min (min n m) ≤ x
      rcases List.mem_cons.mp hx with rfl | hx
      · omega
      · exact ih.2 x hx
theorem foldl_min_mem : ∀ {ns : List Int} {n : Int}, ns.foldl min n = n ∨ ns.foldl min n ∈ ns
  | [], n => .inl rfl
  | m :: ns, n => by
    show ns.foldl min (min n m) = n ∨ ns.foldl min (min n m) ∈ m :: ns
    rcases foldl_min_mem (ns := ns) (n := min n m) with h | h
    · rw [h]
      by_cases c : n ≤ m
      · left; omega
      · right; rw [show min n m = m by omega]; simp
    · right; simp [h]
theorem lmin_le {l : List Int} {x : Int} (h : x ∈ l) : lmin l ≤ x := by
  cases l with
  | nil => simp at h
  | cons n ns =>
    rcases List.mem_cons.mp h with rfl | h
    · exact foldl_min_le.1
    · exact foldl_min_le.2 x h
theorem lmin_mem {l : List Int} (h : l ≠ []) : lmin l ∈ l := by
  cases l with
  | nil => exact absurd rfl h
  | cons n ns =>
    show ns.foldl min n ∈ _
    rcases foldl_min_mem (ns := ns) (n := n) with h | h
    · rw [h]; simp
    · simp [h]
theorem foldl_neg : ∀ {ns : List Int} {n : Int}, (ns.map fun i => -i).foldl min (-n) = -(ns.foldl max n)
  | [], n => rfl
  | m :: ns, n => by
    show (ns.map fun i => -i).foldl min (min (-n) (-m)) = -(ns.foldl max (max n m))
    rw [show min (-n) (-m) = -(max n m) by omega, foldl_neg]
theorem lmax_neg {l : List Int} : lmax l = -(lmin (l.map fun i => -i)) := by
  cases l with
  | nil => rfl
  | cons n ns =>
    show ns.foldl max n = -((ns.map fun i => -i).foldl min (-n))
    rw [foldl_neg]
    omega
theorem le_lmax {l : List Int} {x : Int} (h : x ∈ l) : x ≤ lmax l := by
  rw [lmax_neg]
  have := lmin_le (l := l.map fun i => -i) (x := -x) (List.mem_map.mpr ⟨x, h, rfl⟩)
  omega
theorem lmax_mem {l : List Int} (h : l ≠ []) : lmax l ∈ l := by
  rw [lmax_neg]
  have := lmin_mem (l := l.map fun i => -i) (by simpa using h)
  obtain ⟨x, hx, e⟩ := List.mem_map.mp this
  rw [← e]
  simpa using hx
/-- far posts -/
theorem lip_up {s : Int} {a : List Int} (h : Lip s a) : ∀ (d i : Nat) x y, a[i]? = some x → a[i + d]? = some y → y ≤ x + s * d ∧ x ≤ y + s * d
  | 0, i, x, y, h1, h2 => by
    have : x = y := by simpa [h1] using h2
    subst this
    simp
  | d + 1, i, x, y, h1, h2 => by
    have l : i + (d + 1) < a.length := (List.getElem?_eq_some_iff.mp h2).1
    have h3 : a[i + d]? = some a[i + d] := List.getElem?_eq_getElem (by omega)
    have ih := lip_up h d i x _ h1 h3
    have k := h (i + d) _ y h3 h2
    rw [Int.natCast_add, Int.mul_add]
    simp
    omega
theorem lip_far {s : Int} {a : List Int} (h : Lip s a) {i j : Nat} {x y : Int} (h1 : a[i]? = some x) (h2 : a[j]? = some y) : x ≤ y + s * absI ((i : Int) - (j : Int)) := by
  by_cases c : i ≤ j
  · obtain ⟨d, rfl⟩ := Nat.exists_eq_add_of_le c
    have := (lip_up h d i x y h1 h2).2
    rw [show absI ((i : Int) - ((i + d : Nat) : Int)) = (d : Int) by unfold absI; split <;> omega]
    exact this
  · obtain ⟨d, rfl⟩ := Nat.exists_eq_add_of_le (show j ≤ i by omega)
    have := (lip_up h d j y x h2 h1).1
    rw [show absI (((j + d : Nat) : Int) - (j : Int)) = (d : Int) by unfold absI; split <;> omega]
    exact this
def lcut (s : Int) (a : List Int) (i : Nat) : Int := lmin ((List.range a.length).map fun j => a.getD j 0 + s * absI ((i : Int) - (j : Int)))
def lfill (s : Int) (a : List Int) (i : Nat) : Int := lmax ((List.range a.length).map fun j => a.getD j 0 - s * absI ((i : Int) - (j : Int)))
def lblow (w : Bool × Int) (a : List Int) : List Int := (List.range a.length).map fun i => if w.1 then lcut w.2 a i else lfill w.2 a i
def lbehind (a : List Int) (ws : List (Bool × Int)) : List Int := ws.foldl (fun a w => lblow w a) a
theorem lcut_le {s : Int} {a : List Int} {i j : Nat} {y : Int} (h : a[j]? = some y) : lcut s a i ≤ y + s * absI ((i : Int) - (j : Int)) := by
  have hl : j < a.length := (List.getElem?_eq_some_iff.mp h).1
  refine lmin_le (List.mem_map.mpr ⟨j, by simpa using hl, ?_⟩)
  rw [List.getD_eq_getElem?_getD, h]
  rfl
theorem lcut_mem {s : Int} {a : List Int} {i : Nat} (h : a ≠ []) : ∃ (j : Nat) (y : Int), a[j]? = some y ∧ lcut s a i = y + s * absI ((i : Int) - (j : Int)) := by
  have := lmin_mem (l := (List.range a.length).map fun j => a.getD j 0 + s * absI ((i : Int) - (j : Int))) (by simpa using h)
  obtain ⟨j, hj, e⟩ := List.mem_map.mp this
  have hl : j < a.length := by simpa using hj
  refine ⟨j, a[j], List.getElem?_eq_getElem hl, ?_⟩
  show lmin _ = _
  rw [← e, List.getD_eq_getElem?_getD, List.getElem?_eq_getElem hl]
  rfl
theorem lcut_eq {s : Int} (hs : 0 ≤ s) {a : List Int} : (List.range a.length).map (lcut s a) = cutD s a := by
  have hL : ∀ (i : Nat) x, ((List.range a.length).map (lcut s a))[i]? = some x → i < a.length ∧ x = lcut s a i := fun i x h => by
    rw [List.getElem?_map, Option.map_eq_some_iff] at h
    obtain ⟨j, h1, h2⟩ := h
    rw [List.getElem?_eq_some_iff] at h1
    obtain ⟨l, e⟩ := h1
    simp at l e
    subst e
    exact ⟨l, h2.symm⟩
  apply LeP.anti
  · apply cutD_most
    · refine leP_of (by simp) fun i x y h1 h2 => ?_
      obtain ⟨l, rfl⟩ := hL i x h1
      have := lcut_le (s := s) (i := i) h2
      rw [show (i : Int) - (i : Int) = 0 by omega] at this
      simpa [absI] using this
    · intro i x y h1 h2
      obtain ⟨l1, rfl⟩ := hL i x h1
      obtain ⟨l2, rfl⟩ := hL (i + 1) y h2
      have ne : a ≠ [] := fun z => by rw [z] at l1; simp at l1
      constructor
      · obtain ⟨j, z, hj, e⟩ := lcut_mem (s := s) (i := i) ne
        have := lcut_le (s := s) (i := i + 1) hj
        have m : s * absI (((i + 1 : Nat) : Int) - (j : Int)) ≤ s * (absI ((i : Int) - (j : Int)) + 1) := Int.mul_le_mul_of_nonneg_left (by unfold absI; split <;> split <;> omega) hs
        rw [Int.mul_add] at m
        omega
      · obtain ⟨j, z, hj, e⟩ := lcut_mem (s := s) (i := i + 1) ne
        have := lcut_le (s := s) (i := i) hj
        have m : s * absI ((i : Int) - (j : Int)) ≤ s * (absI (((i + 1 : Nat) : Int) - (j : Int)) + 1) := Int.mul_le_mul_of_nonneg_left (by unfold absI; split <;> split <;> omega) hs
        rw [Int.mul_add] at m
        omega
  · refine leP_of (by simp) fun i x y h1 h2 => ?_
    obtain ⟨l1, rfl⟩ := hL i y h2
    have ne : a ≠ [] := fun z => by rw [z] at l1; simp at l1
    obtain ⟨j, z, hj, e⟩ := lcut_mem (s := s) (i := i) ne
    have hjl : j < a.length := (List.getElem?_eq_some_iff.mp hj).1
    obtain ⟨c, hc⟩ : ∃ c, (cutD s a)[j]? = some c := ⟨_, List.getElem?_eq_getElem (by simpa using hjl)⟩
    have h3 := lip_far (cutD_lip hs) h1 hc
    have h4 := LeP.at' (cutD_le (s := s) (a := a)) j _ _ hc hj
    omega
theorem lfill_neg {s : Int} {a : List Int} {i : Nat} : lfill s a i = -(lcut s (a.map fun i => -i) i) := by
  unfold lfill lcut
  rw [lmax_neg, List.map_map, List.length_map]
  congr 2
  refine List.map_congr_left fun j hj => ?_
  show -(a.getD j 0 - s * _) = (a.map fun i => -i).getD j 0 + s * _
  rw [List.getD_eq_getElem?_getD, List.getD_eq_getElem?_getD, List.getElem?_map]
  cases a[j]? <;> simp <;> omega
theorem lblow_eq {w : Bool × Int} (hs : 0 ≤ w.2) {a : List Int} : lblow w a = blow w a := by
  unfold lblow blow
  split
  · exact lcut_eq hs
  · rw [← lcut_eq hs, List.map_map, List.length_map]
    exact List.map_congr_left fun i _ => lfill_neg
theorem lbehind_eq {ws : List (Bool × Int)} : ∀ {a : List Int}, (∀ w ∈ ws, 0 ≤ w.2) → lbehind a ws = behind a ws := by
  induction ws with
  | nil => intro a _; rfl
  | cons w ws ih =>
    intro a h
    show lbehind (lblow w a) ws = behind (blow w a) ws
    rw [lblow_eq (h w (by simp)), ih fun x hx => h x (by simp [hx])]
@[simp] theorem lblow_len {w : Bool × Int} {a : List Int} : (lblow w a).length = a.length := by simp [lblow]
end LK

namespace LK
/-! ### winds exchanged -/
abbrev W := Bool × Int
def cutsOf (ws : List W) : List W := ws.filter fun w => w.1
def fillsOf (ws : List W) : List W := ws.filter fun w => !w.1
def Pos (ws : List W) : Prop := ∀ w ∈ ws, 0 ≤ w.2
theorem Pos.tail {w : W} {ws : List W} (h : Pos (w :: ws)) : Pos ws := fun x hx => h x (by simp [hx])
theorem Pos.head {w : W} {ws : List W} (h : Pos (w :: ws)) : 0 ≤ w.2 := h w (by simp)
theorem Pos.append {ws us : List W} (h : Pos ws) (k : Pos us) : Pos (ws ++ us) := fun x hx => by
  rcases List.mem_append.mp hx with q | q
  · exact h x q
  · exact k x q
theorem Pos.perm {ws us : List W} (h : Pos ws) (p : us.Perm ws) : Pos us := fun x hx => h x (p.mem_iff.mp hx)
theorem Pos.cuts {ws : List W} (h : Pos ws) : Pos (cutsOf ws) := fun x hx => h x (List.mem_filter.mp hx).1
theorem Pos.fills {ws : List W} (h : Pos ws) : Pos (fillsOf ws) := fun x hx => h x (List.mem_filter.mp hx).1
theorem fill_past {t : Int} (ht : 0 ≤ t) : ∀ {cs : List W} {a : List Int}, (∀ c ∈ cs, c.1 = true) → Pos cs → LeP (blow (false, t) (behind a cs)) (behind (blow (false, t) a) cs)
  | [], a, _, _ => LeP.refl _
  | (b, s) :: cs, a, h, p => by
    have hb : b = true := h (b, s) (by simp)
    subst hb
    rw [behind_cons, behind_cons]
    refine (fill_past ht (fun c hc => h c (by simp [hc])) p.tail).trans (behind_mono ?_)
    exact fill_ahead p.head ht
theorem cut_past {s : Int} (hs : 0 ≤ s) : ∀ {fs : List W} {a : List Int}, (∀ c ∈ fs, c.1 = false) → Pos fs → LeP (behind (blow (true, s) a) fs) (blow (true, s) (behind a fs))
  | [], a, _, _ => LeP.refl _
  | (b, t) :: fs, a, h, p => by
    have hb : b = false := h (b, t) (by simp)
    subst hb
    rw [behind_cons, behind_cons]
    exact (behind_mono (fill_ahead hs p.head)).trans (cut_past hs (fun c hc => h c (by simp [hc])) p.tail)
theorem cutsOf_all {ws : List W} : ∀ c ∈ cutsOf ws, c.1 = true := fun c h => by simpa using (List.mem_filter.mp h).2
theorem fillsOf_all {ws : List W} : ∀ c ∈ fillsOf ws, c.1 = false := fun c h => by simpa using (List.mem_filter.mp h).2
theorem low_le : ∀ {ws : List W} {a : List Int}, Pos ws → LeP (behind a (cutsOf ws ++ fillsOf ws)) (behind a ws)
  | [], a, _ => LeP.refl _
  | (true, s) :: ws, a, p => by
    have e1 : cutsOf ((true, s) :: ws) = (true, s) :: cutsOf ws := rfl
    have e2 : fillsOf ((true, s) :: ws) = fillsOf ws := rfl
    rw [e1, e2]
    exact low_le p.tail
  | (false, t) :: ws, a, p => by
    have e1 : cutsOf ((false, t) :: ws) = cutsOf ws := rfl
    have e2 : fillsOf ((false, t) :: ws) = (false, t) :: fillsOf ws := rfl
    rw [e1, e2, behind_append, behind_cons, behind_cons]
    refine LeP.trans ?_ (low_le p.tail)
    rw [behind_append]
    exact behind_mono (fill_past p.head cutsOf_all p.tail.cuts)
theorem le_high : ∀ {ws : List W} {a : List Int}, Pos ws → LeP (behind a ws) (behind a (fillsOf ws ++ cutsOf ws))
  | [], a, _ => LeP.refl _
  | (false, s) :: ws, a, p => by
    have e1 : cutsOf ((false, s) :: ws) = cutsOf ws := rfl
    have e2 : fillsOf ((false, s) :: ws) = (false, s) :: fillsOf ws := rfl
    rw [e1, e2, List.cons_append, behind_cons, behind_cons]
    exact le_high p.tail
  | (true, t) :: ws, a, p => by
    have e1 : cutsOf ((true, t) :: ws) = (true, t) :: cutsOf ws := rfl
    have e2 : fillsOf ((true, t) :: ws) = fillsOf ws := rfl
    rw [e1, e2, behind_append, behind_cons, behind_cons]
    refine LeP.trans (le_high p.tail) ?_
    rw [behind_append]
    exact behind_mono (cut_past p.head fillsOf_all p.tail.fills)
theorem behind_perm {b : Bool} {ws us : List W} {a : List Int} (p : ws.Perm us) (h : ∀ w ∈ ws, w.1 = b) (hp : Pos ws) : behind a ws = behind a us :=
  p.foldl_eq' (fun x hx y hy z => by
    obtain ⟨b1, s⟩ := x
    obtain ⟨b2, t⟩ := y
    have e1 : b1 = b := h (b1, s) hx
    have e2 : b2 = b := h (b2, t) hy
    subst e1 e2
    exact blow_comm (hp _ hy) (hp _ hx)) a
theorem low_perm {ws us : List W} {a : List Int} (p : us.Perm ws) (hp : Pos ws) : LeP (behind a (cutsOf ws ++ fillsOf ws)) (behind a us) := by
  have := low_le (a := a) (hp.perm p)
  rw [behind_append] at this ⊢
  have pc : (cutsOf us).Perm (cutsOf ws) := p.filter _
  have pf : (fillsOf us).Perm (fillsOf ws) := p.filter _
  rw [behind_perm pc cutsOf_all (hp.perm p).cuts, behind_perm pf fillsOf_all (hp.perm p).fills] at this
  exact this
theorem perm_high {ws us : List W} {a : List Int} (p : us.Perm ws) (hp : Pos ws) : LeP (behind a us) (behind a (fillsOf ws ++ cutsOf ws)) := by
  have := le_high (a := a) (hp.perm p)
  rw [behind_append] at this ⊢
  have pc : (cutsOf us).Perm (cutsOf ws) := p.filter _
  have pf : (fillsOf us).Perm (fillsOf ws) := p.filter _
  rw [behind_perm pf fillsOf_all (hp.perm p).fills, behind_perm pc cutsOf_all (hp.perm p).cuts] at this
  exact this
/-- two neighbours exchanged -/
theorem swap_same {l r : List W} {x y : W} {a : List Int} (hx : 0 ≤ x.2) (hy : 0 ≤ y.2) (e : x.1 = y.1) : behind a (l ++ [y, x] ++ r) = behind a (l ++ [x, y] ++ r) := by
  obtain ⟨b, s⟩ := x
  obtain ⟨b2, t⟩ := y
  have e : b = b2 := e
  subst e
  simp only [behind_append, behind_cons, behind_nil]
  rw [blow_comm hx hy]
theorem swap_cf {l r : List W} {s t : Int} {a : List Int} (hs : 0 ≤ s) (ht : 0 ≤ t) : LeP (behind a (l ++ [(true, s), (false, t)] ++ r)) (behind a (l ++ [(false, t), (true, s)] ++ r)) := by
  simp only [behind_append, behind_cons, behind_nil]
  exact behind_mono (fill_ahead hs ht)
end LK

namespace LK
/-! ### plays -/
def reachP (a : List Int) (w : W) (i j : Nat) : Int := if w.1 then a.getD j 0 + w.2 * absI ((i : Int) - (j : Int)) else a.getD j 0 - w.2 * absI ((i : Int) - (j : Int))
def srcOf (a : List Int) (w : W) (i : Nat) (h : Int) : List Nat := (List.range a.length).filter fun j => decide (reachP a w i j = h)
def srcs (a : List Int) (w : W) : List Nat := (blow w a).mapIdx fun i h => (srcOf a w i h).headD 0
@[simp] theorem srcs_len {a : List Int} {w : W} : (srcs a w).length = a.length := by simp [srcs]
theorem blow_reach {a : List Int} {w : W} (hs : 0 ≤ w.2) {i : Nat} {h : Int} (hi : (blow w a)[i]? = some h) : ∃ j < a.length, reachP a w i j = h := by
  have hl : i < a.length := by
    have := (List.getElem?_eq_some_iff.mp hi).1
    simpa using this
  have ne : a ≠ [] := fun z => by rw [z] at hl; simp at hl
  rw [← lblow_eq hs] at hi
  unfold lblow at hi
  rw [List.getElem?_map, List.getElem?_range hl] at hi
  have hi : (if w.1 then lcut w.2 a i else lfill w.2 a i) = h := Option.some.inj hi
  unfold reachP
  split at hi
  · rename_i hw
    obtain ⟨j, y, hj, e⟩ := lcut_mem (s := w.2) (i := i) ne
    refine ⟨j, (List.getElem?_eq_some_iff.mp hj).1, ?_⟩
    rw [if_pos hw, List.getD_eq_getElem?_getD, hj, ← hi, e]
    rfl
  · rename_i hw
    rw [lfill_neg] at hi
    obtain ⟨j, y, hj, e⟩ := lcut_mem (s := w.2) (a := a.map fun i => -i) (i := i) (by simpa using ne)
    rw [List.getElem?_map, Option.map_eq_some_iff] at hj
    obtain ⟨z, hz, rfl⟩ := hj
    refine ⟨j, (List.getElem?_eq_some_iff.mp hz).1, ?_⟩
    rw [if_neg hw, List.getD_eq_getElem?_getD, hz, ← hi, e]
    show z - _ = -(-z + _)
    omega
theorem srcOf_ne {a : List Int} {w : W} (hs : 0 ≤ w.2) {i : Nat} {h : Int} (hi : (blow w a)[i]? = some h) : ∃ j l, srcOf a w i h = j :: l ∧ j < a.length ∧ reachP a w i j = h := by
  obtain ⟨j, hj, e⟩ := blow_reach hs hi
  have hm : j ∈ srcOf a w i h := List.mem_filter.mpr ⟨by simpa using hj, decide_eq_true e⟩
  cases hsrc : srcOf a w i h with
  | nil => rw [hsrc] at hm; simp at hm
  | cons k l =>
    have : k ∈ srcOf a w i h := by rw [hsrc]; simp
    obtain ⟨h1, h2⟩ := List.mem_filter.mp this
    exact ⟨k, l, rfl, by simpa using h1, of_decide_eq_true h2⟩
theorem srcs_at {a : List Int} {w : W} (hs : 0 ≤ w.2) {i j : Nat} (h : (srcs a w)[i]? = some j) : j < a.length ∧ (blow w a)[i]? = some (reachP a w i j) := by
  unfold srcs at h
  rw [List.getElem?_mapIdx, Option.map_eq_some_iff] at h
  obtain ⟨x, hx, rfl⟩ := h
  obtain ⟨k, l, e, h1, h2⟩ := srcOf_ne hs hx
  rw [e, hx]
  exact ⟨h1, by rw [← h2]; rfl⟩
def heldStep (a : List Int) (w : W) (word : Bool) (ps : List Nat) : List Int := if w.1 = word then ps.mapIdx fun i j => reachP a w i j else blow w a
def heldP (a : List Int) : List W → Bool → List (List Nat) → List Int
  | w :: ws, word, ps :: play => heldP (heldStep a w word ps) ws word play
  | _, _, _ => a
def bestP (a : List Int) : List W → Bool → List (List Nat)
  | [], _ => []
  | w :: ws, word => (if w.1 = word then srcs a w else []) :: bestP (blow w a) ws word
@[simp] theorem bestP_len {word : Bool} : ∀ {ws : List W} {a : List Int}, (bestP a ws word).length = ws.length
  | [], _ => rfl
  | _ :: _, _ => congrArg Nat.succ bestP_len
theorem held_srcs {a : List Int} {w : W} (hs : 0 ≤ w.2) : ((srcs a w).mapIdx fun i j => reachP a w i j) = blow w a := by
  apply List.ext_getElem?
  intro i
  rw [List.getElem?_mapIdx]
  cases h : (srcs a w)[i]? with
  | none =>
    rw [List.getElem?_eq_none_iff] at h
    simp at h
    rw [List.getElem?_eq_none (by simpa using h)]
    rfl
  | some j => exact (srcs_at hs h).2.symm
theorem held_best {word : Bool} : ∀ {ws : List W} {a : List Int}, Pos ws → heldP a ws word (bestP a ws word) = behind a ws
  | [], _, _ => rfl
  | w :: ws, a, hp => by
    show heldP (heldStep a w word _) ws word _ = behind (blow w a) ws
    have : heldStep a w word (if w.1 = word then srcs a w else []) = blow w a := by
      unfold heldStep
      split
      · exact held_srcs hp.head
      · rfl
    rw [this]
    exact held_best hp.tail
def stepOk (n : Nat) (w : W) (word : Bool) (ps : List Nat) : Bool := if w.1 = word then decide (ps.length = n) && ps.all (fun j => decide (j < n)) else decide (ps = [])
def playOk (n : Nat) : List W → Bool → List (List Nat) → Bool
  | w :: ws, word, ps :: play => stepOk n w word ps && playOk n ws word play
  | [], _, [] => true
  | _, _, _ => false
theorem best_ok {word : Bool} {n : Nat} : ∀ {ws : List W} {a : List Int}, a.length = n → Pos ws → playOk n ws word (bestP a ws word) = true
  | [], _, _, _ => rfl
  | w :: ws, a, hn, hp => by
    show (stepOk n w word _ && playOk n ws word _) = true
    rw [best_ok (a := blow w a) (by simpa using hn) hp.tail, Bool.and_true]
    unfold stepOk
    split
    · rename_i h
      rw [srcs_len, hn, decide_eq_true rfl, Bool.true_and]
      refine List.all_eq_true.mpr fun j hj => decide_eq_true ?_
      obtain ⟨i, hi⟩ := List.getElem?_of_mem hj
      rw [← hn]
      exact (srcs_at hp.head hi).1
    · rfl
theorem best_not {word : Bool} {n : Nat} {ws : List W} {a : List Int} (hn : a.length = n) (h0 : 0 < n) (hw : ws ≠ []) : playOk n ws (!word) (bestP a ws word) = false := by
  cases ws with
  | nil => exact absurd rfl hw
  | cons w ws =>
    show (stepOk n w (!word) _ && playOk n ws (!word) _) = false
    have : stepOk n w (!word) (if w.1 = word then srcs a w else []) = false := by
      unfold stepOk
      by_cases h : w.1 = word
      · rw [if_pos h, if_neg (by rw [h]; cases word <;> simp)]
        refine decide_eq_false fun z => ?_
        have := congrArg List.length z
        simp at this
        rw [this] at hn
        simp at hn
        omega
      · rw [if_neg h, if_pos (by cases hw : w.1 <;> cases word <;> simp_all)]
        rw [decide_eq_false (show ¬ ([] : List Nat).length = n by simp; omega)]
        rfl
    rw [this]
    rfl
theorem heldP_len {word : Bool} {n : Nat} : ∀ {ws : List W} {play : List (List Nat)} {a : List Int}, a.length = n → playOk n ws word play = true → (heldP a ws word play).length = n
  | [], [], _, h, _ => h
  | [], _ :: _, _, _, h => by cases h
  | _ :: _, [], _, _, h => by cases h
  | w :: ws, ps :: play, a, hn, h => by
    have h' : (stepOk n w word ps && playOk n ws word play) = true := h
    rw [Bool.and_eq_true] at h'
    refine heldP_len (a := heldStep a w word ps) ?_ h'.2
    have h1 := h'.1
    unfold stepOk at h1
    unfold heldStep
    split
    · rename_i hw
      rw [if_pos hw, Bool.and_eq_true] at h1
      simpa using of_decide_eq_true h1.1
    · simpa using hn
/-! the game's worth -/
def worth (a : List Int) (ws : List W) (i : Nat) : Int := (behind a ws).getD i 0
theorem worth_snoc {a : List Int} {ws : List W} {w : W} (hs : 0 ≤ w.2) {i : Nat} (hi : i < a.length) :
    worth a (ws ++ [w]) i = if w.1 then lmin ((List.range a.length).map fun j => worth a ws j + w.2 * absI ((i : Int) - (j : Int))) else lmax ((List.range a.length).map fun j => worth a ws j - w.2 * absI ((i : Int) - (j : Int))) := by
  unfold worth
  rw [behind_append, behind_cons, behind_nil, ← lblow_eq hs]
  unfold lblow
  rw [List.getD_eq_getElem?_getD, List.getElem?_map, List.getElem?_range (by simpa using hi)]
  show (if w.1 then lcut w.2 (behind a ws) i else lfill w.2 (behind a ws) i) = _
  unfold lcut lfill
  rw [behind_len]
end LK

namespace LK
/-! ### no play does better -/
def neg (a : List Int) : List Int := a.map fun i => -i
def con (w : W) : W := (!w.1, w.2)
@[simp] theorem neg_len {a : List Int} : (neg a).length = a.length := by simp [neg]
theorem con_pos {ws : List W} (h : Pos ws) : Pos (ws.map con) := fun w hw => by
  obtain ⟨v, hv, rfl⟩ := List.mem_map.mp hw
  exact h v hv
theorem neg_neg {a : List Int} : neg (neg a) = a := neg_neg'
theorem blow_con {w : W} {a : List Int} : blow (con w) (neg a) = neg (blow w a) := by
  obtain ⟨b, s⟩ := w
  unfold blow con
  cases b with
  | true =>
    show (cutD s ((neg a).map fun i => -i)).map (fun i => -i) = neg (cutD s a)
    rw [show (neg a).map (fun i => -i) = a from neg_neg]
    rfl
  | false =>
    show cutD s (neg a) = neg ((cutD s (a.map fun i => -i)).map fun i => -i)
    exact neg_neg.symm
theorem behind_con : ∀ {ws : List W} {a : List Int}, behind (neg a) (ws.map con) = neg (behind a ws)
  | [], _ => rfl
  | w :: ws, a => by
    show behind (blow (con w) (neg a)) (ws.map con) = neg (behind (blow w a) ws)
    rw [blow_con, behind_con]
theorem neg_getD {a : List Int} {j : Nat} : (neg a).getD j 0 = -(a.getD j 0) := by
  unfold neg
  rw [List.getD_eq_getElem?_getD, List.getElem?_map, List.getD_eq_getElem?_getD]
  cases a[j]? <;> rfl
theorem reach_con {a : List Int} {w : W} {i j : Nat} : reachP (neg a) (con w) i j = -(reachP a w i j) := by
  obtain ⟨b, s⟩ := w
  unfold reachP con
  rw [neg_getD]
  cases b with
  | true => show -_ - s * absI ((i : Int) - (j : Int)) = -(_ + s * absI ((i : Int) - (j : Int))); omega
  | false => show -_ + s * absI ((i : Int) - (j : Int)) = -(_ - s * absI ((i : Int) - (j : Int))); omega
theorem con_if {α : Type} {w : W} {word : Bool} {x y : α} : (if (con w).1 = !word then x else y) = if w.1 = word then x else y := by
  obtain ⟨b, s⟩ := w
  cases b <;> cases word <;> rfl
theorem heldStep_con {a : List Int} {w : W} {word : Bool} {ps : List Nat} : heldStep (neg a) (con w) (!word) ps = neg (heldStep a w word ps) := by
  unfold heldStep
  rw [con_if]
  split
  · unfold neg
    apply List.ext_getElem?
    intro i
    rw [List.getElem?_mapIdx, List.getElem?_map, List.getElem?_mapIdx]
    cases ps[i]? with
    | none => rfl
    | some j => exact congrArg some reach_con
  · exact blow_con
theorem held_con {word : Bool} : ∀ {ws : List W} {play : List (List Nat)} {a : List Int}, heldP (neg a) (ws.map con) (!word) play = neg (heldP a ws word play)
  | [], [], _ => rfl
  | [], _ :: _, _ => rfl
  | _ :: _, [], _ => rfl
  | w :: ws, ps :: play, a => by
    show heldP (heldStep (neg a) (con w) (!word) ps) (ws.map con) (!word) play = neg (heldP (heldStep a w word ps) ws word play)
    rw [heldStep_con, held_con]
theorem stepOk_con {n : Nat} {w : W} {word : Bool} {ps : List Nat} : stepOk n (con w) (!word) ps = stepOk n w word ps := by
  unfold stepOk
  exact con_if
theorem play_con {n : Nat} {word : Bool} : ∀ {ws : List W} {play : List (List Nat)}, playOk n (ws.map con) (!word) play = playOk n ws word play
  | [], [] => rfl
  | [], _ :: _ => rfl
  | _ :: _, [] => rfl
  | w :: ws, ps :: play => by
    show (stepOk n (con w) (!word) ps && playOk n (ws.map con) (!word) play) = _
    rw [stepOk_con, play_con]
    rfl
theorem step_least {a b : List Int} {w : W} {ps : List Nat} (hs : 0 ≤ w.2) (h : LeP a b) (hok : stepOk b.length w true ps = true) : LeP (blow w a) (heldStep b w true ps) := by
  unfold heldStep
  unfold stepOk at hok
  split
  · rename_i hw
    rw [if_pos hw, Bool.and_eq_true] at hok
    have hl := of_decide_eq_true hok.1
    refine leP_of (by rw [blow_len, List.length_mapIdx, hl, h.len]) fun i x y hx hy => ?_
    rw [List.getElem?_mapIdx, Option.map_eq_some_iff] at hy
    obtain ⟨j, hj, rfl⟩ := hy
    have hjl : j < b.length := of_decide_eq_true (List.all_eq_true.mp hok.2 j (List.mem_of_getElem? hj))
    have hi : i < a.length := by
      have := (List.getElem?_eq_some_iff.mp hx).1
      simpa using this
    rw [← lblow_eq hs] at hx
    unfold lblow at hx
    rw [List.getElem?_map, List.getElem?_range hi] at hx
    have hx : lcut w.2 a i = x := by
      have := Option.some.inj hx
      rw [hw] at this
      exact this
    obtain ⟨y, hy⟩ : ∃ y, b[j]? = some y := ⟨_, List.getElem?_eq_getElem hjl⟩
    obtain ⟨z, hz⟩ : ∃ z, a[j]? = some z := ⟨_, List.getElem?_eq_getElem (by rw [h.len]; exact hjl)⟩
    have h1 := lcut_le (s := w.2) (i := i) hz
    have h2 := h.at' j z y hz hy
    unfold reachP
    rw [if_pos hw, List.getD_eq_getElem?_getD, hy]
    show x ≤ y + _
    omega
  · exact blow_mono h
theorem held_least : ∀ {ws : List W} {play : List (List Nat)} {a b : List Int}, Pos ws → LeP a b → playOk b.length ws true play = true → LeP (behind a ws) (heldP b ws true play)
  | [], [], _, _, _, h, _ => h
  | [], _ :: _, _, _, _, _, h => by cases h
  | _ :: _, [], _, _, _, _, h => by cases h
  | w :: ws, ps :: play, a, b, hp, h, hok => by
    have h' : (stepOk b.length w true ps && playOk b.length ws true play) = true := hok
    rw [Bool.and_eq_true] at h'
    have hs := step_least hp.head h h'.1
    refine held_least (a := blow w a) (b := heldStep b w true ps) hp.tail hs ?_
    rw [← hs.len, blow_len, h.len]
    exact h'.2
theorem held_most {ws : List W} {play : List (List Nat)} {a : List Int} (hp : Pos ws) (hok : playOk a.length ws false play = true) : LeP (heldP a ws false play) (behind a ws) := by
  have h := held_least (a := neg a) (b := neg a) (con_pos hp) (LeP.refl _) (play := play) (by rw [neg_len, show true = !false from rfl, play_con]; exact hok)
  rw [behind_con, show true = !false from rfl, held_con] at h
  have h2 := h.neg
  rw [show (neg (heldP a ws false play)).map (fun i => -i) = _ from neg_neg, show (neg (behind a ws)).map (fun i => -i) = _ from neg_neg] at h2
  exact h2
end LK

namespace LK
def mirP (n : Nat) (ps : List Nat) : List Nat := ps.reverse.map fun j => n - 1 - j
theorem stepOk_lt {n : Nat} {w : W} {word : Bool} {ps : List Nat} (h : stepOk n w word ps = true) : (ps.length = n ∨ ps = []) ∧ ∀ j ∈ ps, j < n := by
  unfold stepOk at h
  split at h
  · rw [Bool.and_eq_true] at h
    exact ⟨.inl (of_decide_eq_true h.1), fun j hj => of_decide_eq_true (List.all_eq_true.mp h.2 j hj)⟩
  · have := of_decide_eq_true h
    subst this
    exact ⟨.inr rfl, by simp⟩
theorem stepOk_mir {n : Nat} {w : W} {word : Bool} {ps : List Nat} (h : stepOk n w word ps = true) : stepOk n w word (mirP n ps) = true := by
  have hl := (stepOk_lt h).2
  unfold stepOk at h ⊢
  split
  · rename_i hw
    rw [if_pos hw, Bool.and_eq_true] at h
    have h1 := of_decide_eq_true h.1
    rw [Bool.and_eq_true]
    refine ⟨decide_eq_true (by simp [mirP, h1]), List.all_eq_true.mpr fun j hj => decide_eq_true ?_⟩
    obtain ⟨k, hk, rfl⟩ := List.mem_map.mp hj
    have := hl k (by simpa using hk)
    omega
  · rename_i hw
    rw [if_neg hw] at h
    have := of_decide_eq_true h
    subst this
    rfl
theorem play_mir {n : Nat} {word : Bool} : ∀ {ws : List W} {play : List (List Nat)}, playOk n ws word play = true → playOk n ws word (play.map (mirP n)) = true
  | [], [], _ => rfl
  | [], _ :: _, h => by cases h
  | _ :: _, [], h => by cases h
  | w :: ws, ps :: play, h => by
    have h' : (stepOk n w word ps && playOk n ws word play) = true := h
    rw [Bool.and_eq_true] at h'
    show (stepOk n w word (mirP n ps) && playOk n ws word (play.map (mirP n))) = true
    rw [stepOk_mir h'.1, play_mir h'.2]
    rfl
theorem getD_rev {a : List Int} {j : Nat} (h : j < a.length) : a.reverse.getD (a.length - 1 - j) 0 = a.getD j 0 := by
  rw [List.getD_eq_getElem?_getD, List.getD_eq_getElem?_getD, List.getElem?_reverse (by omega), show a.length - 1 - (a.length - 1 - j) = j by omega]
theorem absI_neg {x : Int} : absI (-x) = absI x := by unfold absI; split <;> split <;> omega
theorem reach_rev {a : List Int} {w : W} {i j : Nat} (hi : i < a.length) (hj : j < a.length) : reachP a.reverse w i (a.length - 1 - j) = reachP a w (a.length - 1 - i) j := by
  unfold reachP
  rw [getD_rev hj]
  have : absI ((i : Int) - ((a.length - 1 - j : Nat) : Int)) = absI (((a.length - 1 - i : Nat) : Int) - (j : Int)) := by
    rw [← absI_neg]
    congr 1
    omega
  rw [this]
theorem step_rev {n : Nat} {a : List Int} {w : W} {word : Bool} {ps : List Nat} (hn : a.length = n) (hs : 0 ≤ w.2) (h : stepOk n w word ps = true) : heldStep a.reverse w word (mirP n ps) = (heldStep a w word ps).reverse := by
  subst hn
  unfold heldStep
  unfold stepOk at h
  split
  · rename_i hw
    rw [if_pos hw, Bool.and_eq_true] at h
    have h1 := of_decide_eq_true h.1
    apply List.ext_getElem?
    intro i
    rw [List.getElem?_mapIdx]
    unfold mirP
    rw [List.getElem?_map]
    by_cases hi : i < ps.length
    · rw [List.getElem?_reverse hi, List.getElem?_reverse (by simpa using hi), List.getElem?_mapIdx, List.length_mapIdx]
      obtain ⟨j, hj⟩ : ∃ j, ps[ps.length - 1 - i]? = some j := ⟨_, List.getElem?_eq_getElem (by omega)⟩
      rw [hj]
      have hjl : j < a.length := of_decide_eq_true (List.all_eq_true.mp h.2 j (List.mem_of_getElem? hj))
      show some (reachP a.reverse w i (a.length - 1 - j)) = some (reachP a w (ps.length - 1 - i) j)
      rw [reach_rev (by omega) hjl, h1]
    · rw [List.getElem?_eq_none (by simpa using hi), List.getElem?_eq_none (by simpa using hi)]
      rfl
  · exact blow_rev hs
theorem step_len {n : Nat} {a : List Int} {w : W} {word : Bool} {ps : List Nat} (hn : a.length = n) (h : stepOk n w word ps = true) : (heldStep a w word ps).length = n := by
  unfold heldStep
  unfold stepOk at h
  split
  · rename_i hw
    rw [if_pos hw, Bool.and_eq_true] at h
    simpa using of_decide_eq_true h.1
  · simpa using hn
theorem held_rev {n : Nat} {word : Bool} : ∀ {ws : List W} {play : List (List Nat)} {a : List Int}, a.length = n → Pos ws → playOk n ws word play = true → heldP a.reverse ws word (play.map (mirP n)) = (heldP a ws word play).reverse
  | [], [], _, _, _, _ => rfl
  | [], _ :: _, _, _, _, h => by cases h
  | _ :: _, [], _, _, _, h => by cases h
  | w :: ws, ps :: play, a, hn, hp, h => by
    have h' : (stepOk n w word ps && playOk n ws word play) = true := h
    rw [Bool.and_eq_true] at h'
    show heldP (heldStep a.reverse w word (mirP n ps)) ws word (play.map (mirP n)) = (heldP (heldStep a w word ps) ws word play).reverse
    rw [step_rev hn hp.head h'.1, held_rev (step_len hn h'.1) hp.tail h'.2]
theorem step_up {n : Nat} {a : List Int} {w : W} {word : Bool} {ps : List Nat} {c : Int} (hn : a.length = n) (h : stepOk n w word ps = true) : heldStep (up c a) w word ps = up c (heldStep a w word ps) := by
  subst hn
  unfold heldStep
  unfold stepOk at h
  split
  · rename_i hw
    rw [if_pos hw, Bool.and_eq_true] at h
    unfold up
    apply List.ext_getElem?
    intro i
    rw [List.getElem?_mapIdx, List.getElem?_map, List.getElem?_mapIdx]
    cases hj : ps[i]? with
    | none => rfl
    | some j =>
      have hjl : j < a.length := of_decide_eq_true (List.all_eq_true.mp h.2 j (List.mem_of_getElem? hj))
      show some (reachP (a.map (· + c)) w i j) = some (reachP a w i j + c)
      unfold reachP
      rw [List.getD_eq_getElem?_getD, List.getElem?_map, List.getElem?_eq_getElem hjl, List.getD_eq_getElem?_getD, List.getElem?_eq_getElem hjl]
      show some (if w.1 = true then a[j] + c + _ else a[j] + c - _) = some ((if w.1 = true then a[j] + _ else a[j] - _) + c)
      split
      · exact congrArg some (by omega)
      · exact congrArg some (by omega)
  · exact blow_up
theorem held_up {n : Nat} {word : Bool} {c : Int} : ∀ {ws : List W} {play : List (List Nat)} {a : List Int}, a.length = n → playOk n ws word play = true → heldP (up c a) ws word play = up c (heldP a ws word play)
  | [], [], _, _, _ => rfl
  | [], _ :: _, _, _, h => by cases h
  | _ :: _, [], _, _, h => by cases h
  | w :: ws, ps :: play, a, hn, h => by
    have h' : (stepOk n w word ps && playOk n ws word play) = true := h
    rw [Bool.and_eq_true] at h'
    show heldP (heldStep (up c a) w word ps) ws word play = up c (heldP (heldStep a w word ps) ws word play)
    rw [step_up hn h'.1, held_up (step_len hn h'.1) h'.2]
theorem held_split {word : Bool} : ∀ {i : Nat} {ws : List W} {play : List (List Nat)} {a : List Int}, play.length = ws.length → heldP (heldP a (ws.take i) word (play.take i)) (ws.drop i) word (play.drop i) = heldP a ws word play
  | 0, ws, play, a, _ => by
    have : ∀ a : List Int, heldP a [] word [] = a := fun a => rfl
    simp [this]
  | i + 1, [], [], a, _ => rfl
  | i + 1, [], _ :: _, _, h => by cases h
  | i + 1, _ :: _, [], _, h => by cases h
  | i + 1, w :: ws, ps :: play, a, h => held_split (i := i) (ws := ws) (play := play) (a := heldStep a w word ps) (by simpa using h)
theorem play_take {n : Nat} {word : Bool} : ∀ {i : Nat} {ws : List W} {play : List (List Nat)}, playOk n ws word play = true → playOk n (ws.take i) word (play.take i) = true ∧ playOk n (ws.drop i) word (play.drop i) = true
  | 0, ws, play, h => ⟨by simp [playOk], by simpa using h⟩
  | i + 1, [], [], h => ⟨rfl, rfl⟩
  | i + 1, [], _ :: _, h => by cases h
  | i + 1, _ :: _, [], h => by cases h
  | i + 1, w :: ws, ps :: play, h => by
    have h' : (stepOk n w word ps && playOk n ws word play) = true := h
    rw [Bool.and_eq_true] at h'
    obtain ⟨h1, h2⟩ := play_take (i := i) h'.2
    exact ⟨by
      show (stepOk n w word ps && playOk n (ws.take i) word (play.take i)) = true
      rw [h'.1, h1]
      rfl, h2⟩
theorem playOk_len {n : Nat} {word : Bool} : ∀ {ws : List W} {play : List (List Nat)}, playOk n ws word play = true → play.length = ws.length
  | [], [], _ => rfl
  | [], _ :: _, h => by cases h
  | _ :: _, [], h => by cases h
  | w :: ws, ps :: play, h => by
    have h' : (stepOk n w word ps && playOk n ws word play) = true := h
    rw [Bool.and_eq_true] at h'
    exact congrArg Nat.succ (playOk_len h'.2)
theorem playOk_mem {n : Nat} {word : Bool} : ∀ {ws : List W} {play : List (List Nat)}, playOk n ws word play = true → ∀ ps ∈ play, (ps.length = n ∨ ps = []) ∧ ∀ j ∈ ps, j < n
  | [], [], _ => by simp
  | [], _ :: _, h => by cases h
  | _ :: _, [], h => by cases h
  | w :: ws, qs :: play, h => fun ps hp => by
    have h' : (stepOk n w word qs && playOk n ws word play) = true := h
    rw [Bool.and_eq_true] at h'
    rcases List.mem_cons.mp hp with rfl | hp
    · exact stepOk_lt h'.1
    · exact playOk_mem h'.2 ps hp
theorem srcs_con {a : List Int} {w : W} : srcs (neg a) (con w) = srcs a w := by
  unfold srcs
  rw [blow_con]
  apply List.ext_getElem?
  intro i
  unfold neg
  rw [List.getElem?_mapIdx, List.getElem?_map, List.getElem?_mapIdx]
  cases (blow w a)[i]? with
  | none => rfl
  | some h =>
    show some ((srcOf (neg a) (con w) i (-h)).headD 0) = some ((srcOf a w i h).headD 0)
    have : srcOf (neg a) (con w) i (-h) = srcOf a w i h := by
      unfold srcOf
      rw [neg_len]
      congr 1
      funext j
      rw [reach_con]
      by_cases c : reachP a w i j = h
      · rw [decide_eq_true c, decide_eq_true (by rw [c])]
      · rw [decide_eq_false c, decide_eq_false (by omega)]
    rw [this]
theorem best_con {word : Bool} : ∀ {ws : List W} {a : List Int}, bestP (neg a) (ws.map con) (!word) = bestP a ws word
  | [], _ => rfl
  | w :: ws, a => by
    show (if (con w).1 = !word then srcs (neg a) (con w) else []) :: bestP (blow (con w) (neg a)) (ws.map con) (!word) = _
    rw [con_if, srcs_con, blow_con, best_con]
    rfl
end LK

namespace LK
/-! ### orders of two books -/
def mkW (b : Bool) (l : List Int) : List W := l.map fun s => (b, s)
/-- the winds of the order with so many cuts ahead of each fill, d done -/
def almN (cs : List Int) : Nat → List Int → List Nat → List W
  | d, f :: fs, a :: as => mkW true ((cs.drop d).take (a - d)) ++ (false, f) :: almN cs a fs as
  | d, _, _ => mkW true (cs.drop d)
/-- nondecreasing from d on -/
def Nd : Nat → List Nat → Prop
  | _, [] => True
  | d, a :: as => d ≤ a ∧ Nd a as
def LeN : List Nat → List Nat → Prop
  | [], [] => True
  | a :: as, b :: bs => a ≤ b ∧ LeN as bs
  | _, _ => False
theorem LeN.refl : ∀ a : List Nat, LeN a a
  | [] => trivial
  | _ :: as => ⟨Nat.le_refl _, LeN.refl as⟩
theorem Nd.mono {d e : Nat} (h : d ≤ e) : ∀ {a : List Nat}, Nd e a → Nd d a
  | [], _ => trivial
  | _ :: _, ⟨x, y⟩ => ⟨Nat.le_trans h x, y⟩
theorem pos_mk {b : Bool} {l : List Int} (h : ∀ s ∈ l, 0 ≤ s) : Pos (mkW b l) := fun w hw => by
  unfold mkW at hw
  rw [List.mem_map] at hw
  obtain ⟨s, hs, rfl⟩ := hw
  exact h s hs
theorem almN_split {cs : List Int} {d e : Nat} (h : d ≤ e) : ∀ {fs : List Int} {as : List Nat}, Nd e as → almN cs d fs as = mkW true ((cs.drop d).take (e - d)) ++ almN cs e fs as := by
  have base : mkW true (cs.drop d) = mkW true ((cs.drop d).take (e - d)) ++ mkW true (cs.drop e) := by
    unfold mkW
    rw [← List.map_append]
    congr 1
    have : cs.drop e = (cs.drop d).drop (e - d) := by rw [List.drop_drop]; congr 1; omega
    rw [this, List.take_append_drop]
  intro fs as ha
  cases fs with
  | nil => simpa [almN] using base
  | cons f fs =>
    cases as with
    | nil => simpa [almN] using base
    | cons a as =>
      unfold almN
      rw [← List.append_assoc]
      congr 1
      unfold mkW
      rw [← List.map_append]
      congr 1
      have h1 : a - d = (e - d) + (a - e) := by have := ha.1; omega
      rw [h1, List.take_add, List.drop_drop]
      congr 3
      omega
theorem almN_pos {cs : List Int} (hc : ∀ s ∈ cs, 0 ≤ s) : ∀ {fs : List Int} {as : List Nat} {d : Nat}, (∀ s ∈ fs, 0 ≤ s) → Pos (almN cs d fs as) := by
  intro fs
  induction fs with
  | nil =>
    intro as d _
    have : almN cs d [] as = mkW true (cs.drop d) := by cases as <;> rfl
    rw [this]
    exact pos_mk fun s hs => hc s (List.mem_of_mem_drop hs)
  | cons f fs ih =>
    intro as d hf
    cases as with
    | nil => exact pos_mk fun s hs => hc s (List.mem_of_mem_drop hs)
    | cons a as =>
      unfold almN
      refine (pos_mk fun s hs => hc s (List.mem_of_mem_drop (List.mem_of_mem_take hs))).append fun w hw => ?_
      rw [List.mem_cons] at hw
      rcases hw with rfl | hw
      · exact hf f (by simp)
      · exact ih (fun s hs => hf s (by simp [hs])) w hw
/-- more cuts ahead of the fills: nowhere higher -/
theorem almN_anti {cs : List Int} (hc : ∀ s ∈ cs, 0 ≤ s) : ∀ {fs : List Int} {as bs : List Nat} {d : Nat} {x : List Int}, (∀ s ∈ fs, 0 ≤ s) → LeN as bs → Nd d as → Nd d bs → LeP (behind x (almN cs d fs bs)) (behind x (almN cs d fs as)) := by
  intro fs
  induction fs with
  | nil =>
    intro as bs d x _ _ _ _
    have : ∀ as, almN cs d [] as = mkW true (cs.drop d) := fun as => by cases as <;> rfl
    rw [this, this]
    exact LeP.refl _
  | cons f fs ih =>
    intro as bs d x hf hl ha hb
    cases as with
    | nil => cases bs with
      | nil => exact LeP.refl _
      | cons b bs => exact hl.elim
    | cons a as => cases bs with
      | nil => exact hl.elim
      | cons b bs =>
        have hf' : ∀ s ∈ fs, 0 ≤ s := fun s hs => hf s (by simp [hs])
        have h1 : LeP (behind x (almN cs d (f :: fs) (b :: bs))) (behind x (mkW true ((cs.drop d).take (a - d)) ++ (false, f) :: almN cs a fs bs)) := by
          show LeP (behind x (mkW true ((cs.drop d).take (b - d)) ++ (false, f) :: almN cs b fs bs)) _
          have e1 : mkW true ((cs.drop d).take (b - d)) = mkW true ((cs.drop d).take (a - d)) ++ mkW true ((cs.drop a).take (b - a)) := by
            unfold mkW
            rw [← List.map_append]
            congr 1
            have h1 : b - d = (a - d) + (b - a) := by have := ha.1; have := hl.1; omega
            rw [h1, List.take_add, List.drop_drop]
            congr 3
            have := ha.1
            omega
          rw [e1, List.append_assoc, behind_append, behind_append, behind_append, behind_cons, behind_cons, almN_split hl.1 hb.2, behind_append]
          refine behind_mono (fill_past (hf f (by simp)) (fun c h => ?_) (pos_mk fun s hs => hc s (List.mem_of_mem_drop (List.mem_of_mem_take hs))))
          unfold mkW at h
          rw [List.mem_map] at h
          obtain ⟨_, _, rfl⟩ := h
          rfl
        refine h1.trans ?_
        show LeP _ (behind x (mkW true ((cs.drop d).take (a - d)) ++ (false, f) :: almN cs a fs as))
        rw [behind_append, behind_append, behind_cons, behind_cons]
        exact ih hf' hl.2 ha.2 (hb.2.mono hl.1)
/-! words -/
/-- (is a cut's word, cut, fill) -/
abbrev Wo := Bool × Nat × Nat
def wOk (a : List Nat) (w : Wo) : Prop := ∃ v, a[w.2.2]? = some v ∧ (if w.1 then w.2.1 < v else v ≤ w.2.1)
def loL (ws : List Wo) (f : Nat) : List Nat := (ws.filter fun w => w.1 && decide (w.2.2 ≤ f)).map fun w => w.2.1 + 1
def hiL (ws : List Wo) (f : Nat) : List Nat := (ws.filter fun w => !w.1 && decide (f ≤ w.2.2)).map fun w => w.2.1
def loP (ws : List Wo) (f : Nat) : Nat := (loL ws f).foldl max 0
def hiP (m : Nat) (ws : List Wo) (f : Nat) : Nat := match hiL ws f with
  | [] => m
  | x :: xs => xs.foldl min x
def bnds (m n : Nat) (ws : List Wo) : List (Nat × Nat) := (List.range n).map fun f => (loP ws f, hiP m ws f)
theorem fmax_le {b : Nat} : ∀ {l : List Nat} {a : Nat}, l.foldl max a ≤ b ↔ a ≤ b ∧ ∀ x ∈ l, x ≤ b
  | [], a => by simp
  | y :: l, a => by
    rw [List.foldl_cons, fmax_le]
    simp only [List.mem_cons, forall_eq_or_imp]
    rw [Nat.max_le, and_assoc]
theorem le_fmin {b : Nat} : ∀ {l : List Nat} {a : Nat}, b ≤ l.foldl min a ↔ b ≤ a ∧ ∀ x ∈ l, b ≤ x
  | [], a => by simp
  | y :: l, a => by
    rw [List.foldl_cons, le_fmin]
    simp only [List.mem_cons, forall_eq_or_imp]
    rw [Nat.le_min, and_assoc]
theorem lo_le {ws : List Wo} {f b : Nat} : loP ws f ≤ b ↔ ∀ c g, (true, c, g) ∈ ws → g ≤ f → c + 1 ≤ b := by
  unfold loP
  rw [fmax_le]
  simp only [Nat.zero_le, true_and]
  unfold loL
  constructor
  · intro h c g hm hg
    exact h (c + 1) (List.mem_map.mpr ⟨(true, c, g), List.mem_filter.mpr ⟨hm, by simpa using hg⟩, rfl⟩)
  · intro h x hx
    obtain ⟨⟨t, c, g⟩, hm, rfl⟩ := List.mem_map.mp hx
    obtain ⟨hm, hc⟩ := List.mem_filter.mp hm
    simp at hc
    obtain ⟨rfl, hc⟩ := hc
    exact h c g hm hc
theorem le_hi {m : Nat} {ws : List Wo} {f b : Nat} (hw : ∀ w ∈ ws, w.2.1 < m) : b ≤ hiP m ws f ↔ b ≤ m ∧ ∀ c g, (false, c, g) ∈ ws → f ≤ g → b ≤ c := by
  have key : (∀ x ∈ hiL ws f, b ≤ x) ↔ ∀ c g, (false, c, g) ∈ ws → f ≤ g → b ≤ c := by
    unfold hiL
    constructor
    · intro h c g hm hg
      exact h c (List.mem_map.mpr ⟨(false, c, g), List.mem_filter.mpr ⟨hm, by simpa using hg⟩, rfl⟩)
    · intro h x hx
      obtain ⟨⟨t, c, g⟩, hm, rfl⟩ := List.mem_map.mp hx
      obtain ⟨hm, hc⟩ := List.mem_filter.mp hm
      simp at hc
      obtain ⟨rfl, hc⟩ := hc
      exact h c g hm hc
  have hlt : ∀ x ∈ hiL ws f, x < m := by
    intro x hx
    unfold hiL at hx
    obtain ⟨⟨t, c, g⟩, hm, rfl⟩ := List.mem_map.mp hx
    exact hw _ (List.mem_filter.mp hm).1
  rw [← key]
  unfold hiP
  cases e : hiL ws f with
  | nil => simp
  | cons x xs =>
    rw [e] at hlt
    dsimp only
    rw [le_fmin]
    have := hlt x (by simp)
    simp only [List.mem_cons, forall_eq_or_imp]
    constructor
    · rintro ⟨h1, h2⟩
      exact ⟨by omega, h1, h2⟩
    · rintro ⟨_, h1, h2⟩
      exact ⟨h1, h2⟩
theorem bnds_len {m n : Nat} {ws : List Wo} : (bnds m n ws).length = n := by simp [bnds]
/-- words of a set and a wider one -/
theorem lo_mono {ws us : List Wo} (h : ∀ w ∈ ws, w ∈ us) {f g : Nat} (hf : f ≤ g) : loP ws f ≤ loP us g := by
  rw [lo_le]
  intro c k hm hk
  exact lo_le.mp (Nat.le_refl (loP us g)) c k (h _ hm) (by omega)
theorem hi_mono {m : Nat} {ws us : List Wo} (hu : ∀ w ∈ us, w.2.1 < m) (h : ∀ w ∈ ws, w ∈ us) {f : Nat} : hiP m us f ≤ hiP m ws f := by
  have h1 := (le_hi hu (f := f)).mp (Nat.le_refl _)
  exact (le_hi fun w hw => hu w (h w hw)).mpr ⟨h1.1, fun c g hm hg => h1.2 c g (h _ hm) hg⟩
theorem hi_up {m : Nat} {ws : List Wo} (hw : ∀ w ∈ ws, w.2.1 < m) {f g : Nat} (hf : f ≤ g) : hiP m ws f ≤ hiP m ws g := by
  have h1 := (le_hi hw (f := f)).mp (Nat.le_refl _)
  exact (le_hi hw).mpr ⟨h1.1, fun c k hm hk => h1.2 c k hm (by omega)⟩
theorem hi_le {m : Nat} {ws : List Wo} (hw : ∀ w ∈ ws, w.2.1 < m) {f : Nat} : hiP m ws f ≤ m := ((le_hi hw).mp (Nat.le_refl _)).1
theorem nd_at : ∀ {a : List Nat} {d : Nat}, Nd d a → (∀ (i : Nat) v, a[i]? = some v → d ≤ v) ∧ ∀ (i j : Nat) v w, i ≤ j → a[i]? = some v → a[j]? = some w → v ≤ w
  | [], _, _ => ⟨fun i v h => by simp at h, fun i j v w _ h => by simp at h⟩
  | x :: a, d, h => by
    obtain ⟨i1, i2⟩ := nd_at h.2
    refine ⟨fun i v hv => ?_, fun i j v w hij hv hw => ?_⟩
    · cases i with
      | zero => cases hv; exact h.1
      | succ i => exact Nat.le_trans h.1 (i1 i v hv)
    · cases j with
      | zero =>
        have : i = 0 := by omega
        subst this
        rw [hv] at hw
        cases hw
        exact Nat.le_refl _
      | succ j =>
        cases i with
        | zero => cases hv; exact i1 j w hw
        | succ i => exact i2 i j v w (by omega) hv hw
/-- the order that the words are of lies between -/
theorem lo_ok {ws : List Wo} {a : List Nat} (nd : Nd 0 a) (h : ∀ w ∈ ws, wOk a w) {f v : Nat} (hv : a[f]? = some v) : loP ws f ≤ v := by
  rw [lo_le]
  intro c g hm hg
  obtain ⟨u, hu, hc⟩ := h _ hm
  have := (nd_at nd).2 g f u v hg hu hv
  simp at hc
  omega
theorem hi_ok {m : Nat} {ws : List Wo} {a : List Nat} (nd : Nd 0 a) (hm : ∀ x ∈ a, x ≤ m) (hw : ∀ w ∈ ws, w.2.1 < m) (h : ∀ w ∈ ws, wOk a w) {f v : Nat} (hv : a[f]? = some v) : v ≤ hiP m ws f := by
  rw [le_hi hw]
  refine ⟨hm v (List.mem_of_getElem? hv), fun c g hm hg => ?_⟩
  obtain ⟨u, hu, hc⟩ := h _ hm
  have := (nd_at nd).2 f g v u hg hv hu
  simp at hc
  omega
/-- no two words of one order clash -/
theorem no_clash {a : List Nat} (nd : Nd 0 a) {c f c' f' : Nat} (h1 : wOk a (true, c, f)) (h2 : wOk a (false, c', f')) : ¬ (f ≤ f' ∧ c' ≤ c) := by
  rintro ⟨h3, h4⟩
  obtain ⟨u, hu, hc⟩ := h1
  obtain ⟨v, hv, hd⟩ := h2
  have := (nd_at nd).2 f f' u v h3 hu hv
  simp at hc hd
  omega
/-- all words of the order -/
theorem lo_all {ws : List Wo} {a : List Nat} (nd : Nd 0 a) (h : ∀ w ∈ ws, wOk a w) {f v : Nat} (hv : a[f]? = some v) (hall : ∀ c, c < v → (true, c, f) ∈ ws) : loP ws f = v := by
  refine Nat.le_antisymm (lo_ok nd h hv) ?_
  cases v with
  | zero => exact Nat.zero_le _
  | succ c => exact lo_le.mp (Nat.le_refl _) c f (hall c (by omega)) (Nat.le_refl _)
theorem hi_all {m : Nat} {ws : List Wo} {a : List Nat} (nd : Nd 0 a) (hm : ∀ x ∈ a, x ≤ m) (hw : ∀ w ∈ ws, w.2.1 < m) (h : ∀ w ∈ ws, wOk a w) {f v : Nat} (hv : a[f]? = some v) (hall : ∀ c, v ≤ c → c < m → (false, c, f) ∈ ws) : hiP m ws f = v := by
  refine Nat.le_antisymm ?_ (hi_ok nd hm hw h hv)
  have h1 := (le_hi hw (f := f)).mp (Nat.le_refl _)
  have h2 := hm v (List.mem_of_getElem? hv)
  rcases Nat.lt_or_ge v m with h3 | h3
  · exact h1.2 v f (hall v (Nat.le_refl _) h3) (Nat.le_refl _)
  · omega
/-! how many orders -/
def sumF (f : Nat → Nat) : Nat → Nat → Nat
  | _, 0 => 0
  | lo, n + 1 => f lo + sumF f (lo + 1) n
theorem sumF_add {f : Nat → Nat} : ∀ {n k lo : Nat}, sumF f lo (n + k) = sumF f lo n + sumF f (lo + n) k
  | 0, k, lo => by simp [sumF]
  | n + 1, k, lo => by
    have : n + 1 + k = (n + k) + 1 := by omega
    rw [this]
    show f lo + sumF f (lo + 1) (n + k) = f lo + sumF f (lo + 1) n + _
    rw [sumF_add]
    have : lo + 1 + n = lo + (n + 1) := by omega
    rw [this]
    omega
theorem sumF_le {f g : Nat → Nat} : ∀ {n lo : Nat}, (∀ c, lo ≤ c → c < lo + n → f c ≤ g c) → sumF f lo n ≤ sumF g lo n
  | 0, _, _ => Nat.le_refl _
  | n + 1, lo, h => Nat.add_le_add (h lo (by omega) (by omega)) (sumF_le fun c h1 h2 => h c (by omega) (by omega))
theorem sumF_eq {f g : Nat → Nat} : ∀ {n lo : Nat}, (∀ c, lo ≤ c → c < lo + n → f c ≤ g c) → sumF f lo n = sumF g lo n → ∀ c, lo ≤ c → c < lo + n → f c = g c
  | 0, lo, _, _, c, h1, h2 => by omega
  | n + 1, lo, h, e, c, h1, h2 => by
    have h3 := h lo (by omega) (by omega)
    have h4 : sumF f (lo + 1) n ≤ sumF g (lo + 1) n := sumF_le fun c h1 h2 => h c (by omega) (by omega)
    have e : f lo + sumF f (lo + 1) n = g lo + sumF g (lo + 1) n := e
    rcases Nat.eq_or_lt_of_le h1 with h5 | h5
    · subst h5
      omega
    · exact sumF_eq (n := n) (lo := lo + 1) (fun c h1 h2 => h c (by omega) (by omega)) (by omega) c h5 (by omega)
theorem sumF_pos {f : Nat → Nat} : ∀ {n lo : Nat}, (∀ c, lo ≤ c → c < lo + n → 0 < f c) → n ≤ sumF f lo n
  | 0, _, _ => Nat.le_refl _
  | n + 1, lo, h => by
    have h1 := h lo (by omega) (by omega)
    have h2 := sumF_pos (n := n) (lo := lo + 1) (f := f) fun c h1 h2 => h c (by omega) (by omega)
    show n + 1 ≤ f lo + sumF f (lo + 1) n
    omega
/-- orders of fills with these bounds, d cuts done -/
def nP : List (Nat × Nat) → Nat → Nat
  | [], _ => 1
  | p :: ps, d => sumF (nP ps) (max d p.1) (p.2 + 1 - max d p.1)
/-- bounds that a row of numbers has: rising, the lesser not above the greater -/
def Bd : Nat → Nat → List (Nat × Nat) → Prop
  | _, _, [] => True
  | d, e, p :: ps => d ≤ p.1 ∧ e ≤ p.2 ∧ p.1 ≤ p.2 ∧ Bd p.1 p.2 ps
/-- bounds within bounds -/
def In : List (Nat × Nat) → List (Nat × Nat) → Prop
  | [], [] => True
  | p :: ps, q :: qs => q.1 ≤ p.1 ∧ p.2 ≤ q.2 ∧ In ps qs
  | _, _ => False
theorem nP_pos : ∀ {ps : List (Nat × Nat)} {d e c : Nat}, Bd d e ps → c ≤ e → 0 < nP ps c
  | [], _, _, _, _, _ => Nat.zero_lt_one
  | p :: ps, d, e, c, h, hc => by
    have h0 := h
    obtain ⟨h1, h2, h3, h4⟩ := h0
    have h5 : max c p.1 ≤ p.2 := Nat.max_le.mpr ⟨by omega, h3⟩
    have := sumF_pos (f := nP ps) (lo := max c p.1) (n := p.2 + 1 - max c p.1) fun x hx hy => nP_pos h4 (by omega)
    show 0 < sumF (nP ps) (max c p.1) (p.2 + 1 - max c p.1)
    omega
theorem nP_le : ∀ {ps qs : List (Nat × Nat)} {d : Nat}, In ps qs → nP ps d ≤ nP qs d
  | [], [], _, _ => Nat.le_refl _
  | [], _ :: _, _, h => h.elim
  | _ :: _, [], _, h => h.elim
  | p :: ps, q :: qs, d, ⟨h1, h2, h3⟩ => by
    show sumF (nP ps) (max d p.1) (p.2 + 1 - max d p.1) ≤ sumF (nP qs) (max d q.1) (q.2 + 1 - max d q.1)
    rcases Nat.lt_or_ge p.2 (max d p.1) with h4 | h4
    · have : p.2 + 1 - max d p.1 = 0 := by omega
      rw [this]
      exact Nat.zero_le _
    · have h5 : max d q.1 ≤ max d p.1 := by omega
      have e1 : q.2 + 1 - max d q.1 = (max d p.1 - max d q.1) + ((p.2 + 1 - max d p.1) + (q.2 - p.2)) := by omega
      have e2 : max d q.1 + (max d p.1 - max d q.1) = max d p.1 := by omega
      rw [e1, sumF_add, sumF_add, e2]
      have : sumF (nP ps) (max d p.1) (p.2 + 1 - max d p.1) ≤ sumF (nP qs) (max d p.1) (p.2 + 1 - max d p.1) := sumF_le fun c _ _ => nP_le h3
      omega
theorem nP_eq : ∀ {ps qs : List (Nat × Nat)} {d e e' : Nat}, In ps qs → Bd d e ps → Bd d e' qs → nP ps d = nP qs d → ps = qs
  | [], [], _, _, _, _, _, _, _ => rfl
  | [], _ :: _, _, _, _, h, _, _, _ => h.elim
  | _ :: _, [], _, _, _, h, _, _, _ => h.elim
  | p :: ps, q :: qs, d, e, e', ⟨h1, h2, h3⟩, ⟨p1, p2, p3, p4⟩, ⟨q1, q2, q3, q4⟩, he => by
    have he : sumF (nP ps) (max d p.1) (p.2 + 1 - max d p.1) = sumF (nP qs) (max d q.1) (q.2 + 1 - max d q.1) := he
    rw [Nat.max_eq_right p1, Nat.max_eq_right q1] at he
    have e1 : q.2 + 1 - q.1 = (p.1 - q.1) + ((p.2 + 1 - p.1) + (q.2 - p.2)) := by omega
    have e2 : q.1 + (p.1 - q.1) = p.1 := by omega
    rw [e1, sumF_add, sumF_add, e2] at he
    have s1 : sumF (nP ps) p.1 (p.2 + 1 - p.1) ≤ sumF (nP qs) p.1 (p.2 + 1 - p.1) := sumF_le fun c _ _ => nP_le h3
    have s2 := sumF_pos (f := nP qs) (lo := q.1) (n := p.1 - q.1) fun c hc hd => nP_pos q4 (by omega)
    have s3 := sumF_pos (f := nP qs) (lo := p.1 + (p.2 + 1 - p.1)) (n := q.2 - p.2) fun c hc hd => nP_pos q4 (by omega)
    have a1 : p.1 = q.1 := by omega
    have a2 : p.2 = q.2 := by omega
    have s4 : sumF (nP ps) p.1 (p.2 + 1 - p.1) = sumF (nP qs) p.1 (p.2 + 1 - p.1) := by omega
    have s5 := sumF_eq (fun c _ _ => nP_le h3) s4 p.1 (Nat.le_refl _) (by omega)
    have s6 : ps = qs := nP_eq h3 p4 (a1 ▸ q4) s5
    rw [s6]
    congr 1
    exact Prod.ext a1 a2
theorem nP_one : ∀ {a : List Nat} {d : Nat}, Nd d a → nP (a.map fun v => (v, v)) d = 1
  | [], _, _ => rfl
  | v :: a, d, ⟨h1, h2⟩ => by
    show sumF (nP (a.map fun v => (v, v))) (max d v) (v + 1 - max d v) = 1
    rw [Nat.max_eq_right h1]
    have : v + 1 - v = 1 := by omega
    rw [this]
    show nP (a.map fun v => (v, v)) v + 0 = 1
    rw [nP_one h2]
theorem bd_of : ∀ {l : List (Nat × Nat)} {d e : Nat}, (∀ (i : Nat) p, l[i]? = some p → d ≤ p.1 ∧ e ≤ p.2 ∧ p.1 ≤ p.2) → (∀ (i : Nat) p q, l[i]? = some p → l[i + 1]? = some q → p.1 ≤ q.1 ∧ p.2 ≤ q.2) → Bd d e l
  | [], _, _, _, _ => trivial
  | p :: l, d, e, h, k => by
    obtain ⟨h1, h2, h3⟩ := h 0 p rfl
    refine ⟨h1, h2, h3, bd_of (fun i q hq => ?_) fun i p q h1 h2 => k (i + 1) p q h1 h2⟩
    have mono : ∀ (i : Nat) q, l[i]? = some q → p.1 ≤ q.1 ∧ p.2 ≤ q.2 := by
      intro i
      induction i with
      | zero => intro q hq; exact k 0 p q rfl hq
      | succ i ih =>
        intro q hq
        have hi : i < l.length := by
          have := (List.getElem?_eq_some_iff.mp hq).1
          omega
        have h1 := ih l[i] (List.getElem?_eq_getElem hi)
        have h2 := k (i + 1) l[i] q (List.getElem?_eq_getElem hi) hq
        exact ⟨Nat.le_trans h1.1 h2.1, Nat.le_trans h1.2 h2.2⟩
    exact ⟨(mono i q hq).1, (mono i q hq).2, (h (i + 1) q hq).2.2⟩
theorem bnds_at {m n : Nat} {ws : List Wo} {i : Nat} {p : Nat × Nat} (h : (bnds m n ws)[i]? = some p) : i < n ∧ p = (loP ws i, hiP m ws i) := by
  unfold bnds at h
  rw [List.getElem?_map] at h
  rcases Nat.lt_or_ge i n with hi | hi
  · rw [List.getElem?_range hi] at h
    cases h
    exact ⟨hi, rfl⟩
  · rw [List.getElem?_eq_none (by simpa using hi)] at h
    cases h
theorem in_of : ∀ {ps qs : List (Nat × Nat)}, ps.length = qs.length → (∀ (i : Nat) p q, ps[i]? = some p → qs[i]? = some q → q.1 ≤ p.1 ∧ p.2 ≤ q.2) → In ps qs
  | [], [], _, _ => trivial
  | [], _ :: _, h, _ => by cases h
  | _ :: _, [], h, _ => by cases h
  | p :: ps, q :: qs, hl, h => ⟨(h 0 p q rfl rfl).1, (h 0 p q rfl rfl).2, in_of (by simpa using hl) fun i p q h1 h2 => h (i + 1) p q h1 h2⟩
/-- all that holds of words that one order has -/
structure Told (m n : Nat) (a : List Nat) (ws : List Wo) : Prop where
  len : a.length = n
  nd : Nd 0 a
  le : ∀ x ∈ a, x ≤ m
  lt : ∀ w ∈ ws, w.2.1 < m
  ok : ∀ w ∈ ws, wOk a w
theorem Told.sub {m n : Nat} {a : List Nat} {ws us : List Wo} (h : Told m n a us) (hs : ∀ w ∈ ws, w ∈ us) : Told m n a ws := ⟨h.len, h.nd, h.le, fun w hw => h.lt w (hs w hw), fun w hw => h.ok w (hs w hw)⟩
theorem Told.get {m n : Nat} {a : List Nat} {ws : List Wo} (h : Told m n a ws) {i : Nat} (hi : i < n) : ∃ v, a[i]? = some v := ⟨_, List.getElem?_eq_getElem (by rw [h.len]; exact hi)⟩
theorem Told.bd {m n : Nat} {a : List Nat} {ws : List Wo} (h : Told m n a ws) : Bd 0 0 (bnds m n ws) := bd_of (fun i p hp => by
    obtain ⟨hi, rfl⟩ := bnds_at hp
    obtain ⟨v, hv⟩ := h.get hi
    exact ⟨Nat.zero_le _, Nat.zero_le _, Nat.le_trans (lo_ok h.nd h.ok hv) (hi_ok h.nd h.le h.lt h.ok hv)⟩)
  fun i p q hp hq => by
    obtain ⟨_, rfl⟩ := bnds_at hp
    obtain ⟨_, rfl⟩ := bnds_at hq
    exact ⟨lo_mono (fun w hw => hw) (Nat.le_succ i), hi_up h.lt (Nat.le_succ i)⟩
theorem Told.in_ {m n : Nat} {a : List Nat} {ws us : List Wo} (h : Told m n a us) (hs : ∀ w ∈ ws, w ∈ us) : In (bnds m n us) (bnds m n ws) := in_of (by simp [bnds]) fun i p q hp hq => by
  obtain ⟨_, rfl⟩ := bnds_at hp
  obtain ⟨_, rfl⟩ := bnds_at hq
  exact ⟨lo_mono hs (Nat.le_refl _), hi_mono h.lt hs⟩
theorem bnds_same {m n : Nat} {ws us : List Wo} (h1 : ∀ w ∈ us, w.2.1 < m) (h : ∀ w, w ∈ ws ↔ w ∈ us) : bnds m n ws = bnds m n us := by
  have h2 : ∀ w ∈ ws, w.2.1 < m := fun w hw => h1 w ((h w).mp hw)
  unfold bnds
  refine List.map_congr_left fun f _ => ?_
  exact Prod.ext (Nat.le_antisymm (lo_mono (fun w hw => (h w).mp hw) (Nat.le_refl _)) (lo_mono (fun w hw => (h w).mpr hw) (Nat.le_refl _)))
    (Nat.le_antisymm (hi_mono h2 fun w hw => (h w).mpr hw) (hi_mono h1 fun w hw => (h w).mp hw))
theorem bd_fst : ∀ {ps : List (Nat × Nat)} {d e : Nat}, Bd d e ps → Nd d (ps.map (·.1))
  | [], _, _, _ => trivial
  | _ :: _, _, _, ⟨h1, _, _, h4⟩ => ⟨h1, bd_fst h4⟩
theorem bd_snd : ∀ {ps : List (Nat × Nat)} {d e : Nat}, Bd d e ps → Nd e (ps.map (·.2))
  | [], _, _, _ => trivial
  | _ :: _, _, _, ⟨_, h2, _, h4⟩ => ⟨h2, bd_snd h4⟩
theorem bd_le : ∀ {ps : List (Nat × Nat)} {d e : Nat}, Bd d e ps → LeN (ps.map (·.1)) (ps.map (·.2))
  | [], _, _, _ => trivial
  | _ :: _, _, _, ⟨_, _, h3, h4⟩ => ⟨h3, bd_le h4⟩
theorem in_fst : ∀ {ps qs : List (Nat × Nat)}, In ps qs → LeN (qs.map (·.1)) (ps.map (·.1))
  | [], [], _ => trivial
  | [], _ :: _, h => h.elim
  | _ :: _, [], h => h.elim
  | _ :: _, _ :: _, ⟨h1, _, h3⟩ => ⟨h1, in_fst h3⟩
theorem in_snd : ∀ {ps qs : List (Nat × Nat)}, In ps qs → LeN (ps.map (·.2)) (qs.map (·.2))
  | [], [], _ => trivial
  | [], _ :: _, h => h.elim
  | _ :: _, [], h => h.elim
  | _ :: _, _ :: _, ⟨_, h2, h3⟩ => ⟨h2, in_snd h3⟩
theorem leN_of : ∀ {a b : List Nat}, a.length = b.length → (∀ (i : Nat) v w, a[i]? = some v → b[i]? = some w → v ≤ w) → LeN a b
  | [], [], _, _ => trivial
  | [], _ :: _, h, _ => by cases h
  | _ :: _, [], h, _ => by cases h
  | v :: a, w :: b, hl, h => ⟨h 0 v w rfl rfl, leN_of (by simpa using hl) fun i v w h1 h2 => h (i + 1) v w h1 h2⟩
/-! what is told of a dune -/
def lowP (x : List Int) (cs fs : List Int) (B : List (Nat × Nat)) : List Int := behind x (almN cs 0 fs (B.map (·.2)))
def highP (x : List Int) (cs fs : List Int) (B : List (Nat × Nat)) : List Int := behind x (almN cs 0 fs (B.map (·.1)))
def sureP (l h : List Int) : List Nat := (List.range l.length).filter fun i => decide (l[i]? = h[i]?)
theorem low_high {x cs fs : List Int} (hc : ∀ s ∈ cs, 0 ≤ s) (hf : ∀ s ∈ fs, 0 ≤ s) {B : List (Nat × Nat)} (h : Bd 0 0 B) : LeP (lowP x cs fs B) (highP x cs fs B) := almN_anti hc hf (bd_le h) (bd_fst h) (bd_snd h)
theorem low_in {x cs fs : List Int} (hc : ∀ s ∈ cs, 0 ≤ s) (hf : ∀ s ∈ fs, 0 ≤ s) {B C : List (Nat × Nat)} (h : Bd 0 0 B) (k : Bd 0 0 C) (i : In C B) : LeP (lowP x cs fs B) (lowP x cs fs C) := almN_anti hc hf (in_snd i) (bd_snd k) (bd_snd h)
theorem high_in {x cs fs : List Int} (hc : ∀ s ∈ cs, 0 ≤ s) (hf : ∀ s ∈ fs, 0 ≤ s) {B C : List (Nat × Nat)} (h : Bd 0 0 B) (k : Bd 0 0 C) (i : In C B) : LeP (highP x cs fs C) (highP x cs fs B) := almN_anti hc hf (in_fst i) (bd_fst h) (bd_fst k)
theorem sure_in {x cs fs : List Int} (hc : ∀ s ∈ cs, 0 ≤ s) (hf : ∀ s ∈ fs, 0 ≤ s) {B C : List (Nat × Nat)} (h : Bd 0 0 B) (k : Bd 0 0 C) (i : In C B) :
    ∀ p ∈ sureP (lowP x cs fs B) (highP x cs fs B), p ∈ sureP (lowP x cs fs C) (highP x cs fs C) := by
  intro p hp
  unfold sureP at hp ⊢
  rw [List.mem_filter] at hp ⊢
  have l1 := low_in hc hf h k i (x := x)
  have l2 := low_high hc hf k (x := x)
  have l3 := high_in hc hf h k i (x := x)
  have e1 : (lowP x cs fs B).length = x.length := behind_len
  have e2 : (lowP x cs fs C).length = x.length := behind_len
  have e3 : (highP x cs fs B).length = x.length := behind_len
  have e4 : (highP x cs fs C).length = x.length := behind_len
  obtain ⟨h1, h2⟩ := hp
  have h1 : p < x.length := by rw [e1] at h1; simpa using h1
  refine ⟨by rw [e2]; simpa using h1, ?_⟩
  simp only [decide_eq_true_eq] at h2 ⊢
  have g1 := List.getElem?_eq_getElem (l := lowP x cs fs B) (i := p) (by omega)
  have g2 := List.getElem?_eq_getElem (l := lowP x cs fs C) (i := p) (by omega)
  have g3 := List.getElem?_eq_getElem (l := highP x cs fs B) (i := p) (by omega)
  have g4 := List.getElem?_eq_getElem (l := highP x cs fs C) (i := p) (by omega)
  rw [g1, g3] at h2
  rw [g2, g4]
  have q1 := l1.at' p _ _ g1 g2
  have q2 := l2.at' p _ _ g2 g4
  have q3 := l3.at' p _ _ g4 g3
  have h2 : (lowP x cs fs B)[p]'(by omega) = (highP x cs fs B)[p]'(by omega) := by simpa using h2
  congr 1
  omega
theorem Told.low {m n : Nat} {a : List Nat} {ws : List Wo} {x cs fs : List Int} (hc : ∀ s ∈ cs, 0 ≤ s) (hf : ∀ s ∈ fs, 0 ≤ s) (h : Told m n a ws) : LeP (lowP x cs fs (bnds m n ws)) (behind x (almN cs 0 fs a)) :=
  almN_anti hc hf (leN_of (by rw [h.len]; simp [bnds]) fun i v w hv hw => by
    rw [List.getElem?_map] at hw
    cases e : (bnds m n ws)[i]? with
    | none => rw [e] at hw; cases hw
    | some p =>
      rw [e] at hw
      cases hw
      obtain ⟨_, rfl⟩ := bnds_at e
      exact hi_ok h.nd h.le h.lt h.ok hv) h.nd (bd_snd h.bd)
theorem Told.high {m n : Nat} {a : List Nat} {ws : List Wo} {x cs fs : List Int} (hc : ∀ s ∈ cs, 0 ≤ s) (hf : ∀ s ∈ fs, 0 ≤ s) (h : Told m n a ws) : LeP (behind x (almN cs 0 fs a)) (highP x cs fs (bnds m n ws)) :=
  almN_anti hc hf (leN_of (by rw [h.len]; simp [bnds]) fun i w v hw hv => by
    rw [List.getElem?_map] at hw
    cases e : (bnds m n ws)[i]? with
    | none => rw [e] at hw; cases hw
    | some p =>
      rw [e] at hw
      cases hw
      obtain ⟨_, rfl⟩ := bnds_at e
      exact lo_ok h.nd h.ok hv) (bd_fst h.bd) h.nd
theorem Told.all {m n : Nat} {a : List Nat} {ws : List Wo} (h : Told m n a ws) (hall : ∀ f v, a[f]? = some v → ∀ c, c < m → (decide (c < v), c, f) ∈ ws) : bnds m n ws = a.map fun v => (v, v) := by
  refine List.ext_getElem? fun i => ?_
  unfold bnds
  rw [List.getElem?_map, List.getElem?_map]
  rcases Nat.lt_or_ge i n with hi | hi
  · obtain ⟨v, hv⟩ := h.get hi
    rw [List.getElem?_range hi, hv]
    have hm := h.le v (List.mem_of_getElem? hv)
    show some _ = some _
    congr 1
    refine Prod.ext (lo_all (v := v) h.nd h.ok hv fun c hc => ?_) (hi_all (v := v) h.nd h.le h.lt h.ok hv fun c hc hd => ?_)
    · have := hall i v hv c (by omega)
      rwa [decide_eq_true hc] at this
    · have := hall i v hv c hd
      rwa [decide_eq_false (by omega)] at this
  · rw [List.getElem?_eq_none (by simpa using hi), List.getElem?_eq_none (by rw [h.len]; exact hi)]
    rfl
end LK

namespace LK
/-! ### an order as letters -/
def ordB (m : Nat) : Nat → List Nat → List Bool
  | d, a :: as => List.replicate (a - d) true ++ false :: ordB m a as
  | d, [] => List.replicate (m - d) true
def almB : List Int → List Int → List Bool → List W
  | cs, fs, true :: l => (true, cs.headD 0) :: almB cs.tail fs l
  | cs, fs, false :: l => (false, fs.headD 0) :: almB cs fs.tail l
  | _, _, [] => []
def numsB : Nat → List Bool → List Nat
  | d, true :: l => numsB (d + 1) l
  | d, false :: l => d :: numsB d l
  | _, [] => []
def posB (b : Bool) : Nat → List Bool → List Nat
  | k, x :: l => if x = b then k :: posB b (k + 1) l else posB b (k + 1) l
  | _, [] => []
theorem almB_len : ∀ {l : List Bool} {cs fs : List Int}, (almB cs fs l).length = l.length
  | [], _, _ => by unfold almB; rfl
  | true :: l, cs, fs => by
    show (almB cs.tail fs l).length + 1 = _
    rw [almB_len]
    rfl
  | false :: l, cs, fs => by
    show (almB cs fs.tail l).length + 1 = _
    rw [almB_len]
    rfl
theorem nums_len : ∀ {l : List Bool} {d : Nat}, (numsB d l).length = l.count false
  | [], _ => rfl
  | true :: l, d => by
    show (numsB (d + 1) l).length = _
    rw [nums_len]
    simp
  | false :: l, d => by
    show (numsB d l).length + 1 = _
    rw [nums_len]
    simp
theorem nums_nd : ∀ {l : List Bool} {d : Nat}, Nd d (numsB d l)
  | [], _ => trivial
  | true :: l, d => (nums_nd (l := l) (d := d + 1)).mono (Nat.le_succ d)
  | false :: l, d => ⟨Nat.le_refl d, nums_nd⟩
theorem nums_le : ∀ {l : List Bool} {d : Nat}, ∀ x ∈ numsB d l, x ≤ d + l.count true
  | [], _, x, h => by cases h
  | true :: l, d, x, h => by
    have := nums_le (l := l) (d := d + 1) x h
    simp
    omega
  | false :: l, d, x, h => by
    have h : x ∈ d :: numsB d l := h
    rw [List.mem_cons] at h
    rcases h with rfl | h
    · simp
    · have := nums_le (l := l) (d := d) x h
      simpa using this
theorem ord_nums : ∀ {l : List Bool} {d : Nat}, ordB (d + l.count true) d (numsB d l) = l
  | [], d => by simp [ordB, numsB]
  | false :: l, d => by
    show ordB (d + (false :: l).count true) d (d :: numsB d l) = _
    have e : (false :: l).count true = l.count true := by simp
    rw [e]
    show List.replicate (d - d) true ++ false :: ordB (d + l.count true) d (numsB d l) = _
    rw [ord_nums]
    simp
  | true :: l, d => by
    have e : d + (true :: l).count true = (d + 1) + l.count true := by simp; omega
    rw [e]
    show ordB (d + 1 + l.count true) d (numsB (d + 1) l) = _
    have ih := ord_nums (l := l) (d := d + 1)
    have nd := nums_nd (l := l) (d := d + 1)
    cases hq : numsB (d + 1) l with
    | nil =>
      rw [hq] at ih
      unfold ordB at ih ⊢
      have : d + 1 + l.count true - d = (d + 1 + l.count true - (d + 1)) + 1 := by omega
      rw [this, List.replicate_succ, ih]
    | cons a as =>
      rw [hq] at ih nd
      unfold ordB at ih ⊢
      have : a - d = (a - (d + 1)) + 1 := by have := nd.1; omega
      rw [this, List.replicate_succ, List.cons_append, ih]
theorem nums_ord {m : Nat} : ∀ {a : List Nat} {d : Nat}, Nd d a → numsB d (ordB m d a) = a
  | [], d, _ => by
    have : ∀ (n d : Nat), numsB d (List.replicate n true) = [] := by
      intro n
      induction n with
      | zero => intro d; rfl
      | succ n ih => intro d; rw [List.replicate_succ]; exact ih (d + 1)
    exact this _ _
  | v :: a, d, ⟨h1, h2⟩ => by
    have : ∀ (n d : Nat) (l : List Bool), numsB d (List.replicate n true ++ l) = numsB (d + n) l := by
      intro n
      induction n with
      | zero => intro d l; rfl
      | succ n ih =>
        intro d l
        rw [List.replicate_succ, List.cons_append]
        show numsB (d + 1) _ = _
        rw [ih]
        congr 1
        omega
    unfold ordB
    rw [this]
    have e : d + (v - d) = v := by omega
    rw [e]
    show v :: numsB v (ordB m v a) = _
    rw [nums_ord h2]
theorem ord_len {m : Nat} : ∀ {a : List Nat} {d : Nat}, Nd d a → (∀ x ∈ a, x ≤ m) → d ≤ m → (ordB m d a).length = m - d + a.length
  | [], d, _, _, _ => by simp [ordB]
  | v :: a, d, ⟨h1, h2⟩, h, hd => by
    have hv := h v (by simp)
    unfold ordB
    have := ord_len (m := m) h2 (fun x hx => h x (by simp [hx])) hv
    simp [this]
    omega
theorem ord_cuts {m : Nat} : ∀ {a : List Nat} {d : Nat}, Nd d a → (∀ x ∈ a, x ≤ m) → d ≤ m → (ordB m d a).count true = m - d
  | [], d, _, _, _ => by simp [ordB]
  | v :: a, d, ⟨h1, h2⟩, h, hd => by
    have hv := h v (by simp)
    unfold ordB
    have := ord_cuts (m := m) h2 (fun x hx => h x (by simp [hx])) hv
    rw [List.count_append, List.count_cons, this]
    simp
    omega
theorem ord_fills {m : Nat} : ∀ {a : List Nat} {d : Nat}, (ordB m d a).count false = a.length
  | [], d => by unfold ordB; exact List.count_eq_zero.mpr fun h => by simp at h
  | v :: a, d => by
    unfold ordB
    rw [List.count_append, List.count_cons, ord_fills]
    have : List.count false (List.replicate (v - d) true) = 0 := List.count_eq_zero.mpr fun h => by simp at h
    rw [this]
    simp
theorem almB_rep {fs : List Int} {l : List Bool} : ∀ {n : Nat} {cs : List Int}, n ≤ cs.length → almB cs fs (List.replicate n true ++ l) = mkW true (cs.take n) ++ almB (cs.drop n) fs l
  | 0, cs, _ => by simp [mkW]
  | n + 1, c :: cs, h => by
    rw [List.replicate_succ, List.cons_append]
    show (true, c) :: almB cs fs (List.replicate n true ++ l) = _
    rw [almB_rep (by simpa using h)]
    simp [mkW]
  | n + 1, [], h => by simp at h
theorem almB_ord {cs : List Int} : ∀ {a : List Nat} {fs : List Int} {d : Nat}, fs.length = a.length → Nd d a → (∀ x ∈ a, x ≤ cs.length) → d ≤ cs.length → almB (cs.drop d) fs (ordB cs.length d a) = almN cs d fs a
  | [], fs, d, hl, _, _, _ => by
    have : fs = [] := List.eq_nil_of_length_eq_zero (by simpa using hl)
    subst this
    unfold ordB almN
    have h1 := almB_rep (fs := []) (l := []) (n := cs.length - d) (cs := cs.drop d) (by simp)
    rw [List.append_nil] at h1
    rw [h1, List.take_of_length_le (by simp)]
    simp [almB]
  | v :: a, [], d, hl, _, _, _ => by cases hl
  | v :: a, f :: fs, d, hl, ⟨h1, h2⟩, h, hd => by
    have hv := h v (by simp)
    unfold ordB almN
    rw [almB_rep (by simp; omega), List.drop_drop]
    have e : d + (v - d) = v := by omega
    rw [e]
    congr 1
    show (false, f) :: almB (cs.drop v) fs (ordB cs.length v a) = _
    rw [almB_ord (by simpa using hl) h2 (fun x hx => h x (by simp [hx])) hv]
theorem almB_nums {cs fs : List Int} {l : List Bool} (h1 : l.count true = cs.length) (h2 : l.count false = fs.length) : almB cs fs l = almN cs 0 fs (numsB 0 l) := by
  have h := almB_ord (cs := cs) (a := numsB 0 l) (fs := fs) (d := 0) (by rw [nums_len, h2]) nums_nd (fun x hx => by have := nums_le x hx; omega) (Nat.zero_le _)
  have e := ord_nums (l := l) (d := 0)
  rw [Nat.zero_add, h1] at e
  rw [e, List.drop_zero] at h
  exact h
theorem posB_len {b : Bool} : ∀ {l : List Bool} {k : Nat}, (posB b k l).length = l.count b
  | [], _ => rfl
  | x :: l, k => by
    unfold posB
    by_cases h : x = b
    · rw [if_pos h, List.length_cons, posB_len]
      simp [h]
    · rw [if_neg h, posB_len]
      simp [h]
theorem posB_ge {b : Bool} : ∀ {l : List Bool} {k : Nat}, ∀ p ∈ posB b k l, k ≤ p
  | [], _, p, h => by cases h
  | x :: l, k, p, h => by
    unfold posB at h
    by_cases hx : x = b
    · rw [if_pos hx, List.mem_cons] at h
      rcases h with rfl | h
      · exact Nat.le_refl _
      · have := posB_ge p h; omega
    · rw [if_neg hx] at h
      have := posB_ge p h
      omega
/-- a cut lies ahead of a fill -/
theorem pos_lt : ∀ {l : List Bool} {d k c f p q v : Nat}, (posB true k l)[c]? = some p → (posB false k l)[f]? = some q → (numsB d l)[f]? = some v → (p < q ↔ c + d < v)
  | [], d, k, c, f, p, q, v, h, _, _ => by simp [posB] at h
  | true :: l, d, k, c, f, p, q, v, h1, h2, h3 => by
    have h1 : (k :: posB true (k + 1) l)[c]? = some p := h1
    have h2 : (posB false (k + 1) l)[f]? = some q := h2
    have h3 : (numsB (d + 1) l)[f]? = some v := h3
    cases c with
    | zero =>
      cases h1
      have a1 := posB_ge q (List.mem_of_getElem? h2)
      have a2 := (nd_at nums_nd).1 f v h3
      omega
    | succ c =>
      have ih := pos_lt (c := c) h1 h2 h3
      omega
  | false :: l, d, k, c, f, p, q, v, h1, h2, h3 => by
    have h1 : (posB true (k + 1) l)[c]? = some p := h1
    have h2 : (k :: posB false (k + 1) l)[f]? = some q := h2
    have h3 : (d :: numsB d l)[f]? = some v := h3
    cases f with
    | zero =>
      cases h2
      cases h3
      have a1 := posB_ge p (List.mem_of_getElem? h1)
      omega
    | succ f => exact pos_lt (f := f) h1 h2 h3
/-- whether an order has a word -/
def hasB (l : List Bool) (w : Wo) : Bool := match (numsB 0 l)[w.2.2]? with
  | some v => decide (w.2.1 < v) == w.1
  | none => false
theorem has_ok {l : List Bool} {w : Wo} (h : hasB l w = true) : wOk (numsB 0 l) w := by
  unfold hasB at h
  obtain ⟨b, c, f⟩ := w
  cases e : (numsB 0 l)[f]? with
  | none => simp [e] at h
  | some v =>
    rw [e] at h
    refine ⟨v, e, ?_⟩
    cases b with
    | true => simpa using h
    | false => simpa using h
theorem has_or {l : List Bool} {c f : Nat} (hf : f < l.count false) : hasB l (false, c, f) = !hasB l (true, c, f) := by
  unfold hasB
  have : f < (numsB 0 l).length := by rw [nums_len]; exact hf
  rw [List.getElem?_eq_getElem this]
  show (decide (c < (numsB 0 l)[f]) == false) = !(decide (c < (numsB 0 l)[f]) == true)
  cases decide (c < (numsB 0 l)[f]) <;> rfl
end LK

namespace LK
/-! ### the order of a number -/
theorem nP_step {p : Nat × Nat} {ps : List (Nat × Nat)} {c : Nat} : nP (p :: ps) c = nP (p :: ps) (c + 1) + (if p.1 ≤ c ∧ c ≤ p.2 then nP ps c else 0) := by
  show sumF (nP ps) (max c p.1) (p.2 + 1 - max c p.1) = sumF (nP ps) (max (c + 1) p.1) (p.2 + 1 - max (c + 1) p.1) + _
  rcases Nat.lt_or_ge c p.1 with h | h
  · rw [if_neg (by omega), show max c p.1 = max (c + 1) p.1 by omega]
    rfl
  · rw [show max c p.1 = c by omega, show max (c + 1) p.1 = c + 1 by omega]
    rcases Nat.lt_or_ge p.2 c with h2 | h2
    · rw [if_neg (by omega), show p.2 + 1 - c = 0 by omega, show p.2 + 1 - (c + 1) = 0 by omega]
      rfl
    · rw [if_pos ⟨h, h2⟩, show p.2 + 1 - c = (p.2 + 1 - (c + 1)) + 1 by omega]
      show nP ps c + sumF (nP ps) (c + 1) _ = _
      omega
theorem nums_c : ∀ {l : List Bool} {d : Nat}, numsB d (l ++ [true]) = numsB d l
  | [], d => rfl
  | true :: l, d => nums_c (l := l) (d := d + 1)
  | false :: l, d => by
    show d :: numsB d (l ++ [true]) = d :: numsB d l
    rw [nums_c]
theorem nums_f : ∀ {l : List Bool} {d : Nat}, numsB d (l ++ [false]) = numsB d l ++ [d + l.count true]
  | [], d => by simp [numsB]
  | true :: l, d => by
    show numsB (d + 1) (l ++ [false]) = numsB (d + 1) l ++ _
    rw [nums_f]
    simp
    omega
  | false :: l, d => by
    show d :: numsB d (l ++ [false]) = d :: (numsB d l ++ _)
    rw [nums_f]
    simp
/-- numbers between the bounds -/
def FitN (a : List Nat) (bs : List (Nat × Nat)) : Prop := ∀ (i : Nat) v p, a[i]? = some v → bs[i]? = some p → p.1 ≤ v ∧ v ≤ p.2
/-- a step of the search for the order of a number -/
theorem pick_step {bs : List (Nat × Nat)} {m : Nat} {l : List Bool} {left : Nat} (hb : ∀ p ∈ bs, p.2 ≤ m) (fit : FitN (numsB 0 l) bs) (hc : l.count true ≤ m) (hf : l.count false ≤ bs.length) (hl : left < nP (bs.drop (l.count false)) (l.count true)) (hlen : l.length < m + bs.length) (hct : l.count true + l.count false = l.length)
    {many : Nat} (hm : many = if l.count true < m then nP (bs.drop (l.count false)) (l.count true + 1) else 0) :
    (left < many → l.count true + 1 ≤ m) ∧ (¬ left < many → l.count false + 1 ≤ bs.length ∧ FitN (numsB 0 (l ++ [false])) bs ∧ left - many < nP (bs.drop (l.count false + 1)) (l.count true)) := by
  constructor
  · intro h
    rcases Nat.lt_or_ge (l.count true) m with h1 | h1
    · exact h1
    · rw [if_neg (by omega)] at hm
      omega
  · intro h
    have hf2 : l.count false < bs.length := by
      rcases Nat.lt_or_ge (l.count false) bs.length with h1 | h1
      · exact h1
      · rw [List.drop_of_length_le h1] at hl hm
        rw [if_pos (by omega)] at hm
        have e1 : nP [] (l.count true) = 1 := rfl
        have e2 : nP [] (l.count true + 1) = 1 := rfl
        omega
    rw [List.drop_eq_getElem_cons hf2] at hl hm
    have hst := nP_step (p := bs[l.count false]) (ps := bs.drop (l.count false + 1)) (c := l.count true)
    have hin : bs[l.count false].1 ≤ l.count true ∧ l.count true ≤ bs[l.count false].2 ∧ left - many < nP (bs.drop (l.count false + 1)) (l.count true) := by
      have hp := hb _ (List.getElem_mem hf2)
      have hmm : many = nP (bs[l.count false] :: bs.drop (l.count false + 1)) (l.count true + 1) := by
        rcases Nat.lt_or_ge (l.count true) m with h1 | h1
        · rw [if_pos h1] at hm
          exact hm
        · rw [if_neg (by omega)] at hm
          have e0 : bs[l.count false].2 + 1 - max (l.count true + 1) bs[l.count false].1 = 0 := by omega
          rw [hm]
          show 0 = sumF _ _ (bs[l.count false].2 + 1 - max (l.count true + 1) bs[l.count false].1)
          rw [e0]
          rfl
      by_cases hq : bs[l.count false].1 ≤ l.count true ∧ l.count true ≤ bs[l.count false].2
      · rw [if_pos hq] at hst
        exact ⟨hq.1, hq.2, by omega⟩
      · rw [if_neg hq] at hst
        omega
    refine ⟨hf2, fun i v p hv hp => ?_, hin.2.2⟩
    rw [nums_f] at hv
    rcases Nat.lt_or_ge i (numsB 0 l).length with h1 | h1
    · rw [List.getElem?_append_left h1] at hv
      exact fit i v p hv hp
    · rw [List.getElem?_append_right h1] at hv
      rw [nums_len] at h1 hv
      have hi : i = l.count false := by
        have := (List.getElem?_eq_some_iff.mp hv).1
        simp at this
        omega
      subst hi
      simp at hv
      rw [List.getElem?_eq_getElem hf2] at hp
      cases hp
      omega
theorem fit_between {x cs fs : List Int} (hc : ∀ s ∈ cs, 0 ≤ s) (hf : ∀ s ∈ fs, 0 ≤ s) {a : List Nat} {bs : List (Nat × Nat)} (h : Bd 0 0 bs) (nd : Nd 0 a) (hl : a.length = bs.length) (fit : FitN a bs) :
    LeP (lowP x cs fs bs) (behind x (almN cs 0 fs a)) ∧ LeP (behind x (almN cs 0 fs a)) (highP x cs fs bs) := by
  constructor
  · refine almN_anti hc hf (leN_of (by simp [hl]) fun i v w hv hw => ?_) nd (bd_snd h)
    rw [List.getElem?_map] at hw
    cases e : bs[i]? with
    | none => rw [e] at hw; cases hw
    | some p =>
      rw [e] at hw
      cases hw
      exact (fit i v p hv e).2
  · refine almN_anti hc hf (leN_of (by simp [hl]) fun i w v hw hv => ?_) (bd_fst h) nd
    rw [List.getElem?_map] at hw
    cases e : bs[i]? with
    | none => rw [e] at hw; cases hw
    | some p =>
      rw [e] at hw
      cases hw
      exact (fit i v p hv e).1
/-! ### upside down: the books exchanged -/
theorem posB_not {b : Bool} : ∀ {l : List Bool} {k : Nat}, posB b k (l.map not) = posB (!b) k l
  | [], _ => rfl
  | x :: l, k => by
    rw [List.map_cons]
    unfold posB
    rw [posB_not]
    cases x <;> cases b <;> simp
theorem posB_at {b : Bool} : ∀ {l : List Bool} {k : Nat}, ∀ p ∈ posB b k l, l[p - k]? = some b
  | [], _, p, h => by cases h
  | x :: l, k, p, h => by
    unfold posB at h
    by_cases hx : x = b
    · rw [if_pos hx, List.mem_cons] at h
      rcases h with rfl | h
      · simp [hx]
      · have h1 := posB_ge p h
        have h2 := posB_at p h
        rw [show p - k = (p - (k + 1)) + 1 by omega, List.getElem?_cons_succ]
        exact h2
    · rw [if_neg hx] at h
      have h1 := posB_ge p h
      have h2 := posB_at p h
      rw [show p - k = (p - (k + 1)) + 1 by omega, List.getElem?_cons_succ]
      exact h2
theorem dual_lt {l : List Bool} {c f v v' : Nat} (h1 : (numsB 0 l)[f]? = some v) (h2 : (numsB 0 (l.map not))[c]? = some v') : f < v' ↔ v ≤ c := by
  have hc : c < (posB true 0 l).length := by
    have := (List.getElem?_eq_some_iff.mp h2).1
    rw [nums_len] at this
    rw [posB_len]
    have e : (l.map not).count false = l.count true := by
      have := posB_len (b := false) (l := l.map not) (k := 0)
      rw [posB_not, posB_len] at this
      exact this.symm
    omega
  have hf : f < (posB false 0 l).length := by
    have := (List.getElem?_eq_some_iff.mp h1).1
    rw [nums_len] at this
    rw [posB_len]
    exact this
  have g1 := List.getElem?_eq_getElem hc
  have g2 := List.getElem?_eq_getElem hf
  have k1 := pos_lt g1 g2 h1
  have g3 : (posB true 0 (l.map not))[f]? = some (posB false 0 l)[f] := by rw [posB_not]; exact g2
  have g4 : (posB false 0 (l.map not))[c]? = some (posB true 0 l)[c] := by rw [posB_not]; exact g1
  have k2 := pos_lt g3 g4 h2
  have ne : (posB true 0 l)[c] ≠ (posB false 0 l)[f] := fun e => by
    have a1 := posB_at _ (List.mem_of_getElem? g1)
    have a2 := posB_at _ (List.mem_of_getElem? g2)
    rw [e, a2] at a1
    cases a1
  omega
def xW (w : Wo) : Wo := (!w.1, w.2.2, w.2.1)
theorem mem_xW {ws : List Wo} {b : Bool} {c f : Nat} : (b, c, f) ∈ ws.map xW ↔ ((!b), f, c) ∈ ws := by
  rw [List.mem_map]
  constructor
  · rintro ⟨⟨b', c', f'⟩, hm, e⟩
    unfold xW at e
    cases e
    simpa using hm
  · intro h
    exact ⟨_, h, by simp [xW]⟩
theorem count_not {b : Bool} {l : List Bool} : (l.map not).count b = l.count (!b) := by
  have := posB_len (b := b) (l := l.map not) (k := 0)
  rw [posB_not, posB_len] at this
  exact this.symm
theorem almB_not : ∀ {l : List Bool} {cs fs : List Int}, almB fs cs (l.map not) = (almB cs fs l).map con
  | [], cs, fs => by unfold almB; rfl
  | true :: l, cs, fs => by
    show (false, cs.headD 0) :: almB fs cs.tail (l.map not) = con (true, cs.headD 0) :: (almB cs.tail fs l).map con
    rw [almB_not]
    rfl
  | false :: l, cs, fs => by
    show (true, fs.headD 0) :: almB fs.tail cs (l.map not) = con (false, fs.headD 0) :: (almB cs fs.tail l).map con
    rw [almB_not]
    rfl
section
variable {m n : Nat} {a : List Nat} {ws : List Wo}
theorem told_fst_le (h : Told m n a ws) : ∀ v ∈ (bnds m n ws).map (·.1), v ≤ m := fun v hv => by
  obtain ⟨p, hp, rfl⟩ := List.mem_map.mp hv
  obtain ⟨i, hi⟩ := List.getElem?_of_mem hp
  obtain ⟨hn, rfl⟩ := bnds_at hi
  obtain ⟨v, hv⟩ := h.get hn
  exact Nat.le_trans (lo_ok h.nd h.ok hv) (h.le v (List.mem_of_getElem? hv))
theorem told_snd_le (h : Told m n a ws) : ∀ v ∈ (bnds m n ws).map (·.2), v ≤ m := fun v hv => by
  obtain ⟨p, hp, rfl⟩ := List.mem_map.mp hv
  obtain ⟨i, hi⟩ := List.getElem?_of_mem hp
  obtain ⟨hn, rfl⟩ := bnds_at hi
  exact hi_le h.lt
theorem told_fills (h : Told m n a ws) : ∀ w ∈ ws, w.2.2 < n := fun w hw => by
  obtain ⟨v, hv, _⟩ := h.ok w hw
  have := (List.getElem?_eq_some_iff.mp hv).1
  rw [h.len] at this
  exact this
theorem dual_low (h : Told m n a ws) : numsB 0 ((ordB m 0 ((bnds m n ws).map (·.1))).map not) = (bnds n m (ws.map xW)).map (·.2) := by
  have nd := bd_fst h.bd
  have ct := ord_cuts (m := m) nd (told_fst_le h) (Nat.zero_le _)
  have cf : (ordB m 0 ((bnds m n ws).map (·.1))).count false = n := by rw [ord_fills]; simp [bnds]
  have no := nums_ord (m := m) nd
  have hw' : ∀ w ∈ ws.map xW, w.2.1 < n := fun w hw => by
    obtain ⟨u, hu, rfl⟩ := List.mem_map.mp hw
    exact told_fills h u hu
  refine List.ext_getElem? fun c => ?_
  rw [List.getElem?_map]
  rcases Nat.lt_or_ge c m with hc | hc
  · have hl : c < (numsB 0 ((ordB m 0 ((bnds m n ws).map (·.1))).map not)).length := by rw [nums_len, count_not]; show c < List.count true _; omega
    have hv := List.getElem?_eq_getElem hl
    have hvn : (numsB 0 ((ordB m 0 ((bnds m n ws).map (·.1))).map not))[c] ≤ n := by
      have := nums_le _ (List.mem_of_getElem? hv)
      rw [count_not] at this
      have e : (!true) = false := rfl
      rw [e, cf] at this
      omega
    revert hv hvn
    generalize (numsB 0 ((ordB m 0 ((bnds m n ws).map (·.1))).map not))[c] = v'
    intro hv hvn
    rw [hv]
    unfold bnds
    rw [List.getElem?_map, List.getElem?_range hc]
    show some v' = some (hiP n (ws.map xW) c)
    congr 1
    have lof : ∀ f, f < n → (f < v' ↔ loP ws f ≤ c) := fun f hf => by
      refine dual_lt (v := loP ws f) ?_ hv
      rw [no]
      unfold bnds
      rw [List.getElem?_map, List.getElem?_map, List.getElem?_range hf]
      rfl
    refine Nat.le_antisymm ((le_hi hw').mpr ⟨hvn, fun c0 g hm hg => ?_⟩) ?_
    · rcases Nat.lt_or_ge c0 v' with hlt | hge
      · have h1 := (lof c0 (by omega)).mp hlt
        have h2 := lo_le.mp h1 g c0 (mem_xW.mp hm) (Nat.le_refl _)
        omega
      · exact hge
    · rcases Nat.lt_or_ge v' (hiP n (ws.map xW) c) with hlt | hge
      · exfalso
        have hin : hiP n (ws.map xW) c ≤ n := hi_le hw'
        have h1 : ¬ loP ws v' ≤ c := fun z => by have := (lof v' (by omega)).mpr z; omega
        apply h1
        refine lo_le.mpr fun c0 g hm hg => ?_
        rcases Nat.lt_or_ge c0 c with h2 | h2
        · omega
        · have h3 := ((le_hi hw').mp (Nat.le_refl (hiP n (ws.map xW) c))).2 g c0 (mem_xW.mpr hm) h2
          omega
      · exact hge
  · rw [List.getElem?_eq_none (by rw [nums_len, count_not]; show List.count true _ ≤ c; omega), List.getElem?_eq_none (by simpa [bnds] using hc)]
    rfl
theorem dual_high (h : Told m n a ws) : numsB 0 ((ordB m 0 ((bnds m n ws).map (·.2))).map not) = (bnds n m (ws.map xW)).map (·.1) := by
  have nd := bd_snd h.bd
  have ct := ord_cuts (m := m) nd (told_snd_le h) (Nat.zero_le _)
  have cf : (ordB m 0 ((bnds m n ws).map (·.2))).count false = n := by rw [ord_fills]; simp [bnds]
  have no := nums_ord (m := m) nd
  refine List.ext_getElem? fun c => ?_
  rw [List.getElem?_map]
  rcases Nat.lt_or_ge c m with hc | hc
  · have hl : c < (numsB 0 ((ordB m 0 ((bnds m n ws).map (·.2))).map not)).length := by rw [nums_len, count_not]; show c < List.count true _; omega
    have hv := List.getElem?_eq_getElem hl
    have hvn : (numsB 0 ((ordB m 0 ((bnds m n ws).map (·.2))).map not))[c] ≤ n := by
      have := nums_le _ (List.mem_of_getElem? hv)
      rw [count_not] at this
      have e : (!true) = false := rfl
      rw [e, cf] at this
      omega
    revert hv hvn
    generalize (numsB 0 ((ordB m 0 ((bnds m n ws).map (·.2))).map not))[c] = v'
    intro hv hvn
    rw [hv]
    unfold bnds
    rw [List.getElem?_map, List.getElem?_range hc]
    show some v' = some (loP (ws.map xW) c)
    congr 1
    have hif : ∀ f, f < n → (f < v' ↔ hiP m ws f ≤ c) := fun f hf => by
      refine dual_lt (v := hiP m ws f) ?_ hv
      rw [no]
      unfold bnds
      rw [List.getElem?_map, List.getElem?_map, List.getElem?_range hf]
      rfl
    refine Nat.le_antisymm ?_ (lo_le.mpr fun c0 g hm hg => ?_)
    · rcases Nat.lt_or_ge (loP (ws.map xW) c) v' with hlt | hge
      · exfalso
        have h1 := (hif _ (by omega)).mp hlt
        have h2 : ¬ (c + 1 ≤ hiP m ws (loP (ws.map xW) c)) := by omega
        apply h2
        refine (le_hi h.lt).mpr ⟨hc, fun c0 g hm hg => ?_⟩
        rcases Nat.lt_or_ge c c0 with h3 | h3
        · exact h3
        · have h4 := lo_le.mp (Nat.le_refl (loP (ws.map xW) c)) g c0 (mem_xW.mpr hm) h3
          omega
      · exact hge
    · have hm2 := mem_xW.mp hm
      have h1 : hiP m ws c0 ≤ g := ((le_hi h.lt).mp (Nat.le_refl (hiP m ws c0))).2 g c0 hm2 (Nat.le_refl _)
      exact (hif c0 (told_fills h _ hm2)).mpr (by omega)
  · rw [List.getElem?_eq_none (by rw [nums_len, count_not]; show List.count true _ ≤ c; omega), List.getElem?_eq_none (by simpa [bnds] using hc)]
    rfl
end
theorem told_xW {m n : Nat} {a : List Nat} {ws : List Wo} (h : Told m n a ws) : Told n m (numsB 0 ((ordB m 0 a).map not)) (ws.map xW) := by
  have ct := ord_cuts (m := m) h.nd h.le (Nat.zero_le _)
  have cf : (ordB m 0 a).count false = n := by rw [ord_fills, h.len]
  have no := nums_ord (m := m) h.nd
  refine ⟨by rw [nums_len, count_not]; show List.count true _ = m; omega, nums_nd, fun x hx => ?_, fun w hw => ?_, fun w hw => ?_⟩
  · have := nums_le x hx
    rw [count_not, show (!true) = false from rfl, cf] at this
    omega
  · obtain ⟨u, hu, rfl⟩ := List.mem_map.mp hw
    exact told_fills h u hu
  · obtain ⟨⟨b, c, f⟩, hu, rfl⟩ := List.mem_map.mp hw
    have hc := h.lt _ hu
    obtain ⟨v, hv, hq⟩ := h.ok _ hu
    have hl : c < (numsB 0 ((ordB m 0 a).map not)).length := by rw [nums_len, count_not]; show c < List.count true _; dsimp only at hc; omega
    have hv' := List.getElem?_eq_getElem hl
    refine ⟨_, hv', ?_⟩
    have hd := dual_lt (l := ordB m 0 a) (f := f) (v := v) (by rw [no]; exact hv) hv'
    unfold xW
    cases b with
    | true =>
      simp at hq ⊢
      omega
    | false =>
      simp at hq ⊢
      omega
theorem alm_of {cs fs : List Int} {b : List Nat} (hn : b.length = fs.length) (nd : Nd 0 b) (hb : ∀ x ∈ b, x ≤ cs.length) : almB cs fs (ordB cs.length 0 b) = almN cs 0 fs b := by
  have := almB_ord (cs := cs) (a := b) (fs := fs) (d := 0) hn.symm nd hb (Nat.zero_le _)
  simpa using this
theorem up_low {x cs fs : List Int} {a : List Nat} {ws : List Wo} (h : Told cs.length fs.length a ws) : lowP (neg x) fs cs (bnds fs.length cs.length (ws.map xW)) = neg (highP x cs fs (bnds cs.length fs.length ws)) := by
  have h' := told_xW h
  unfold lowP highP
  rw [← dual_low h]
  have nd := bd_fst h.bd
  have hle := told_fst_le h
  have hl : ((bnds cs.length fs.length ws).map (·.1)).length = fs.length := by simp [bnds]
  have cf : (ordB cs.length 0 ((bnds cs.length fs.length ws).map (·.1))).count false = fs.length := by rw [ord_fills, hl]
  have ct := ord_cuts (m := cs.length) nd hle (Nat.zero_le _)
  have e1 := almB_nums (cs := fs) (fs := cs) (l := (ordB cs.length 0 ((bnds cs.length fs.length ws).map (·.1))).map not) (by rw [count_not]; exact cf) (by rw [count_not]; show List.count true _ = _; omega)
  rw [← e1, almB_not, behind_con, alm_of hl nd hle]
theorem up_high {x cs fs : List Int} {a : List Nat} {ws : List Wo} (h : Told cs.length fs.length a ws) : highP (neg x) fs cs (bnds fs.length cs.length (ws.map xW)) = neg (lowP x cs fs (bnds cs.length fs.length ws)) := by
  have h' := told_xW h
  unfold lowP highP
  rw [← dual_high h]
  have nd := bd_snd h.bd
  have hle := told_snd_le h
  have hl : ((bnds cs.length fs.length ws).map (·.2)).length = fs.length := by simp [bnds]
  have cf : (ordB cs.length 0 ((bnds cs.length fs.length ws).map (·.2))).count false = fs.length := by rw [ord_fills, hl]
  have ct := ord_cuts (m := cs.length) nd hle (Nat.zero_le _)
  have e1 := almB_nums (cs := fs) (fs := cs) (l := (ordB cs.length 0 ((bnds cs.length fs.length ws).map (·.2))).map not) (by rw [count_not]; exact cf) (by rw [count_not]; show List.count true _ = _; omega)
  rw [← e1, almB_not, behind_con, alm_of hl nd hle]
/-! ### mirrored, raised, wider -/
theorem low_rev {x cs fs : List Int} {bs : List (Nat × Nat)} (hc : ∀ s ∈ cs, 0 ≤ s) (hf : ∀ s ∈ fs, 0 ≤ s) : lowP x.reverse cs fs bs = (lowP x cs fs bs).reverse := behind_rev (almN_pos hc hf)
theorem high_rev {x cs fs : List Int} {bs : List (Nat × Nat)} (hc : ∀ s ∈ cs, 0 ≤ s) (hf : ∀ s ∈ fs, 0 ≤ s) : highP x.reverse cs fs bs = (highP x cs fs bs).reverse := behind_rev (almN_pos hc hf)
theorem low_up {x cs fs : List Int} {bs : List (Nat × Nat)} {c : Int} : lowP (up c x) cs fs bs = up c (lowP x cs fs bs) := behind_up
theorem high_up {x cs fs : List Int} {bs : List (Nat × Nat)} {c : Int} : highP (up c x) cs fs bs = up c (highP x cs fs bs) := behind_up
def sc (k : Int) (a : List Int) : List Int := a.map (· * k)
section
variable {k : Int} (hk : 0 < k)
include hk
theorem cutO_sc {s : Int} : ∀ {a : List Int} {p : Int}, cutO (s * k) (p * k) (sc k a) = sc k (cutO s p a)
  | [], _ => rfl
  | h :: t, p => by
    have e : (if p * k + s * k < h * k then p * k + s * k else h * k) = (if p + s < h then p + s else h) * k := by
      rw [← Int.add_mul]
      by_cases hh : p + s < h
      · rw [if_pos hh, if_pos (Int.mul_lt_mul_of_pos_right hh hk)]
      · rw [if_neg hh, if_neg (by
          have := Int.mul_le_mul_of_nonneg_right (show h ≤ p + s by omega) (Int.le_of_lt hk)
          omega)]
    show (if p * k + s * k < h * k then _ else _) :: cutO (s * k) (if p * k + s * k < h * k then _ else _) (sc k t) = _
    rw [e, cutO_sc]
    rfl
theorem cut1_sc {s : Int} {a : List Int} : cut1 (s * k) (sc k a) = sc k (cut1 s a) := by
  cases a with
  | nil => rfl
  | cons h t =>
    show h * k :: cutO (s * k) (h * k) (sc k t) = _
    rw [cutO_sc hk]
    rfl
theorem cutD_sc {s : Int} {a : List Int} : cutD (s * k) (sc k a) = sc k (cutD s a) := by
  unfold cutD
  rw [cut1_sc hk]
  have e : ∀ b : List Int, (sc k b).reverse = sc k b.reverse := fun b => by simp [sc]
  rw [e, cut1_sc hk, e]
def scW (k : Int) (w : W) : W := (w.1, w.2 * k)
omit hk in
theorem neg_sc {a : List Int} : (sc k a).map (fun i => -i) = sc k (a.map fun i => -i) := by
  unfold sc
  rw [List.map_map, List.map_map]
  refine List.map_congr_left fun i _ => ?_
  show -(i * k) = (-i) * k
  rw [Int.neg_mul]
theorem blow_sc {w : W} {a : List Int} : blow (scW k w) (sc k a) = sc k (blow w a) := by
  obtain ⟨b, s⟩ := w
  unfold blow scW
  cases b with
  | true => exact cutD_sc hk
  | false =>
    show (cutD (s * k) ((sc k a).map fun i => -i)).map (fun i => -i) = sc k ((cutD s (a.map fun i => -i)).map fun i => -i)
    rw [neg_sc, cutD_sc hk, neg_sc]
theorem behind_sc : ∀ {ws : List W} {a : List Int}, behind (sc k a) (ws.map (scW k)) = sc k (behind a ws)
  | [], _ => rfl
  | w :: ws, a => by
    show behind (blow (scW k w) (sc k a)) (ws.map (scW k)) = _
    rw [blow_sc hk, behind_sc]
    rfl
omit hk in
theorem mk_sc {b : Bool} {l : List Int} : mkW b (sc k l) = (mkW b l).map (scW k) := by
  unfold mkW sc
  rw [List.map_map, List.map_map]
  rfl
omit hk in
theorem almN_sc {cs : List Int} : ∀ {fs : List Int} {as : List Nat} {d : Nat}, almN (sc k cs) d (sc k fs) as = (almN cs d fs as).map (scW k)
  | [], as, d => by
    have : ∀ cs : List Int, almN cs d [] as = mkW true (cs.drop d) := fun cs => by cases as <;> rfl
    show almN (sc k cs) d [] as = _
    rw [this, this, ← mk_sc]
    unfold sc
    rw [List.map_drop]
  | f :: fs, [], d => by
    show mkW true ((sc k cs).drop d) = (mkW true (cs.drop d)).map (scW k)
    rw [← mk_sc]
    unfold sc
    rw [List.map_drop]
  | f :: fs, a :: as, d => by
    show mkW true (((sc k cs).drop d).take (a - d)) ++ (false, f * k) :: almN (sc k cs) a (sc k fs) as = (mkW true ((cs.drop d).take (a - d)) ++ (false, f) :: almN cs a fs as).map (scW k)
    rw [almN_sc, List.map_append, List.map_cons, ← mk_sc]
    unfold sc
    rw [List.map_take, List.map_drop]
    rfl
theorem low_sc {x cs fs : List Int} {bs : List (Nat × Nat)} : lowP (sc k x) (sc k cs) (sc k fs) bs = sc k (lowP x cs fs bs) := by
  unfold lowP
  rw [almN_sc, behind_sc hk]
theorem high_sc {x cs fs : List Int} {bs : List (Nat × Nat)} : highP (sc k x) (sc k cs) (sc k fs) bs = sc k (highP x cs fs bs) := by
  unfold highP
  rw [almN_sc, behind_sc hk]
end
/-! idle slopes left out -/
def idl : List Int → List Int → List Int
  | _, [] => []
  | pre, s :: l => if pre.all (fun t => decide (s < t)) then s :: idl (pre ++ [s]) l else idl (pre ++ [s]) l
theorem idl_sub : ∀ {l pre : List Int}, ∀ s ∈ idl pre l, s ∈ l
  | [], _, s, h => by cases h
  | t :: l, pre, s, h => by
    unfold idl at h
    split at h
    · rcases List.mem_cons.mp h with rfl | h
      · simp
      · exact List.mem_cons_of_mem _ (idl_sub s h)
    · exact List.mem_cons_of_mem _ (idl_sub s h)
theorem idl_len : ∀ {l pre : List Int}, (idl pre l).length ≤ l.length
  | [], _ => Nat.le_refl _
  | t :: l, pre => by
    have := idl_len (l := l) (pre := pre ++ [t])
    unfold idl
    split
    · simpa using this
    · simp
      omega
theorem idl_enum : ∀ {l pre : List Int}, ((l.mapIdx fun i s => (i + pre.length, s)).filter fun q : Nat × Int => ((pre ++ l).take q.1).all fun t => decide (q.2 < t)).map (·.2) = idl pre l
  | [], pre => rfl
  | s :: l, pre => by
    have ih := idl_enum (l := l) (pre := pre ++ [s])
    have e : (s :: l).mapIdx (fun i s => (i + pre.length, s)) = (pre.length, s) :: l.mapIdx fun i s' => (i + (pre ++ [s]).length, s') := by
      rw [List.mapIdx_cons]
      simp [Nat.add_comm, Nat.add_left_comm]
    rw [List.append_assoc] at ih
    have e2 : pre ++ ([s] ++ l) = pre ++ s :: l := rfl
    rw [e2] at ih
    rw [e]
    unfold idl
    have e3 : (pre ++ s :: l).take pre.length = pre := by simp
    by_cases h : pre.all (fun t => decide (s < t)) = true
    · rw [if_pos h, List.filter_cons_of_pos (by dsimp only; rw [e3]; exact h), List.map_cons, ih]
    · rw [if_neg h, List.filter_cons_of_neg (by dsimp only; rw [e3]; exact h), ih]
theorem idl_ok {b : Bool} : ∀ {l pre : List Int} {x : List Int}, (∀ s ∈ pre, 0 ≤ s) → (∀ s ∈ l, 0 ≤ s) → (∀ t ∈ pre, Lip t x) → behind x (mkW b (idl pre l)) = behind x (mkW b l)
  | [], _, _, _, _, _ => rfl
  | s :: l, pre, x, hp, hl, hx => by
    have hs := hl s (by simp)
    have hp2 : ∀ t ∈ pre ++ [s], 0 ≤ t := fun t ht => by
      rcases List.mem_append.mp ht with h | h
      · exact hp t h
      · rw [List.mem_singleton.mp h]
        exact hs
    have hl2 : ∀ t ∈ l, 0 ≤ t := fun t ht => hl t (by simp [ht])
    have hx2 : ∀ t ∈ pre ++ [s], Lip t (blow (b, s) x) := fun t ht => by
      rcases List.mem_append.mp ht with h | h
      · exact blow_keep (w := (b, s)) hs (hp t h) (hx t h)
      · rw [List.mem_singleton.mp h]
        exact blow_lip (w := (b, s)) hs
    have ih := idl_ok (b := b) (l := l) hp2 hl2 hx2
    have e : behind x (mkW b (s :: l)) = behind (blow (b, s) x) (mkW b l) := rfl
    unfold idl
    by_cases h : pre.all (fun t => decide (s < t)) = true
    · rw [if_pos h, e, ← ih]
      rfl
    · rw [if_neg h, e]
      have hfix : blow (b, s) x = x := by
        rw [List.all_eq_true] at h
        have : ∃ t ∈ pre, t ≤ s := Classical.byContradiction fun hn => h fun t ht => decide_eq_true (by
          by_cases h1 : s < t
          · exact h1
          · exact (hn ⟨t, ht, by omega⟩).elim)
        obtain ⟨t, ht, hts⟩ := this
        exact blow_fix (w := (b, s)) ((hx t ht).mono hts)
      rw [hfix] at ih ⊢
      exact ih
theorem almN_rep {cs : List Int} : ∀ {fs : List Int} {d : Nat}, almN cs d fs (List.replicate fs.length d) = mkW false fs ++ mkW true (cs.drop d)
  | [], d => rfl
  | f :: fs, d => by
    show mkW true ((cs.drop d).take (d - d)) ++ (false, f) :: almN cs d fs (List.replicate fs.length d) = _
    rw [almN_rep, Nat.sub_self, List.take_zero]
    rfl
theorem bnds_nil {m n : Nat} : bnds m n [] = List.replicate n (0, m) := by
  apply List.ext_getElem?
  intro i
  unfold bnds
  rw [List.getElem?_map, List.getElem?_replicate]
  by_cases h : i < n
  · rw [if_pos h, List.getElem?_range h]
    rfl
  · rw [if_neg h, List.getElem?_eq_none (by simpa using h)]
    rfl
theorem low_nil {x cs fs : List Int} : lowP x cs fs (bnds cs.length fs.length []) = behind x (mkW true cs ++ mkW false fs) := by
  unfold lowP
  rw [bnds_nil, List.map_replicate]
  cases fs with
  | nil => simp [almN, mkW]
  | cons f fs =>
    show behind x (mkW true ((cs.drop 0).take (cs.length - 0)) ++ (false, f) :: almN cs cs.length fs (List.replicate fs.length cs.length)) = _
    rw [almN_rep]
    simp [mkW]
theorem high_nil {x cs fs : List Int} : highP x cs fs (bnds cs.length fs.length []) = behind x (mkW false fs ++ mkW true cs) := by
  unfold highP
  rw [bnds_nil, List.map_replicate, almN_rep]
  rfl
theorem low_idl {x cs fs : List Int} (hc : ∀ s ∈ cs, 0 ≤ s) (hf : ∀ s ∈ fs, 0 ≤ s) : lowP x (idl [] cs) (idl [] fs) (bnds (idl [] cs).length (idl [] fs).length []) = lowP x cs fs (bnds cs.length fs.length []) := by
  rw [low_nil, low_nil, behind_append, behind_append, idl_ok (by simp) hc (by simp), idl_ok (by simp) hf (by simp)]
theorem high_idl {x cs fs : List Int} (hc : ∀ s ∈ cs, 0 ≤ s) (hf : ∀ s ∈ fs, 0 ≤ s) : highP x (idl [] cs) (idl [] fs) (bnds (idl [] cs).length (idl [] fs).length []) = highP x cs fs (bnds cs.length fs.length []) := by
  rw [high_nil, high_nil, behind_append, behind_append, idl_ok (by simp) hf (by simp), idl_ok (by simp) hc (by simp)]
theorem told_nil {m n : Nat} : Told m n (List.replicate n 0) [] := by
  refine ⟨by simp, ?_, fun x hx => ?_, by simp, by simp⟩
  · have : ∀ n : Nat, Nd 0 (List.replicate n 0) := fun n => by
      induction n with
      | zero => trivial
      | succ n ih => exact ⟨Nat.le_refl 0, ih⟩
    exact this n
  · rw [List.eq_of_mem_replicate hx]
    exact Nat.zero_le _
end LK

namespace LK
open PySem PySem.W PySem.Spec PyProof.Rows L2 DL
abbrev top (i : Nat) : Stmt := PySem.Challenge.pw_dunebooks_k76_whole_long_books_between.main.body.getD i (.Pass ⟨0, 0, 0, 0⟩)
def f_wall : FDef := ⟨top 0, "_wall", ["k"], ["k"], [false], [], "_wall", ("_wall", none), [], []⟩
def f_raised : FDef := ⟨top 5, "raised", ["dune", "by"], ["dune", "by", "height"], [false, false], [], "raised", ("raised", none), [], []⟩
def f_mirrored : FDef := ⟨top 6, "mirrored", ["dune"], ["dune"], [false], [], "mirrored", ("mirrored", none), [], []⟩
def f_upside : FDef := ⟨top 7, "upside", ["dune"], ["dune", "height"], [false], [], "upside", ("upside", none), [], []⟩
def f_cut_once : FDef := ⟨top 11, "cut_once", ["heights", "slope"], ["heights", "slope", "found", "height"], [false, false], [2], "cut_once", ("cut_once", none), [], []⟩
def f_cut_down : FDef := ⟨top 12, "cut_down", ["dune", "slope"], ["dune", "slope", "there", "back"], [false, false], [], "cut_down", ("cut_down", none), [], []⟩
def f_blown : FDef := ⟨top 13, "blown", ["dune", "wind"], ["dune", "wind", "word", "slope"], [false, false], [], "blown", ("blown", none), [], []⟩
def f_dunes_of : FDef := ⟨top 15, "dunes_of", ["dune", "almanac"], ["dune", "almanac", "found", "wind"], [false, false], [2], "dunes_of", ("dunes_of", none), [], []⟩
def f_behind : FDef := ⟨top 16, "behind", ["dune", "almanac"], ["dune", "almanac"], [false, false], [], "behind", ("behind", none), [], []⟩
def f_almanac_of : FDef := ⟨top 18, "almanac_of", ["cuts", "fills", "order"], ["cuts", "fills", "order", "letter", "found", "cut", "fill"], [false, false, false], [4, 5, 6], "almanac_of", ("almanac_of", none), [], []⟩
def f_order_by : FDef := ⟨top 19, "order_by", ["many", "numbers"], ["many", "numbers", "number", "found", "done"], [false, false], [3], "order_by", ("order_by", none), [], []⟩
def f_do_clash : FDef := ⟨top 20, "do_clash", ["one", "other"], ["one", "other", "cut", "fill"], [false, false], [], "do_clash", ("do_clash", none), [], []⟩
def f_look_words : FDef := ⟨top 21, "look_words", ["words"], ["words", "one", "other"], [false], [], "look_words", ("look_words", none), [], []⟩
def f_bounds : FDef := ⟨top 22, "bounds", ["cuts", "fills", "words"], ["cuts", "fills", "words", "found", "at", "least", "most", "kind", "cut", "fill"], [false, false, false], [3], "bounds", ("bounds", none), [], []⟩
def f_Ways___init__ : FDef := ⟨(clsBody (top 23)).getD 0 (.Pass ⟨0, 0, 0, 0⟩), "Ways.__init__", ["self", "cuts", "fills", "words"], ["self", "cuts", "fills", "words", "rows", "least", "most", "behind", "done"], [true, false, false, false], [4], "__init__", ("Ways", some "__init__"), [(0, "Ways")], []⟩
def f_Ways_all_ways : FDef := ⟨(clsBody (top 23)).getD 1 (.Pass ⟨0, 0, 0, 0⟩), "Ways.all_ways", ["self"], ["self"], [true], [], "all_ways", ("Ways", some "all_ways"), [(0, "Ways")], []⟩
def f_Ways_by_cut : FDef := ⟨(clsBody (top 23)).getD 2 (.Pass ⟨0, 0, 0, 0⟩), "Ways.by_cut", ["self", "cut", "fill"], ["self", "cut", "fill"], [true, false, false], [], "by_cut", ("Ways", some "by_cut"), [(0, "Ways")], []⟩
def f_Ways_by_fill : FDef := ⟨(clsBody (top 23)).getD 3 (.Pass ⟨0, 0, 0, 0⟩), "Ways.by_fill", ["self", "cut", "fill"], ["self", "cut", "fill"], [true, false, false], [], "by_fill", ("Ways", some "by_fill"), [(0, "Ways")], []⟩
def f_orders_many : FDef := ⟨top 24, "orders_many", ["cuts", "fills", "words"], ["cuts", "fills", "words"], [false, false, false], [], "orders_many", ("orders_many", none), [], []⟩
def f_order_at : FDef := ⟨top 25, "order_at", ["cuts", "fills", "words", "number"], ["cuts", "fills", "words", "number", "ways", "found", "left", "many", "cut", "fill"], [false, false, false, false], [4, 5, 6], "order_at", ("order_at", none), [(4, "Ways")], []⟩
def f_least_order : FDef := ⟨top 27, "least_order", ["cuts", "fills", "words"], ["cuts", "fills", "words", "least", "most"], [false, false, false], [], "least_order", ("least_order", none), [], []⟩
def f_greatest_order : FDef := ⟨top 28, "greatest_order", ["cuts", "fills", "words"], ["cuts", "fills", "words", "least", "most"], [false, false, false], [], "greatest_order", ("greatest_order", none), [], []⟩
def f_may_stand : FDef := ⟨top 29, "may_stand", ["dune", "cuts", "fills", "words"], ["dune", "cuts", "fills", "words", "low", "least", "greatest"], [false, false, false, false], [], "may_stand", ("may_stand", none), [], []⟩
def f_law_cell_at : FDef := ⟨top 31, "_law_cell_at", ["_law_script", "_law_k"], ["_law_script", "_law_k"], [false, false], [], "_law_cell_at", ("_law_cell_at", none), [], []⟩
def f_law_box : FDef := ⟨top 32, "_law_box", ["_law_script", "_law_k"], ["_law_script", "_law_k", "_law_cell"], [false, false], [], "_law_box", ("_law_box", none), [], []⟩
def f_law_take : FDef := ⟨top 33, "_law_take", ["_law_box_here", "_law_size"], ["_law_box_here", "_law_size", "_law_once", "_law_twice", "_law_told"], [true, false], [0, 4], "_law_take", ("_law_take", none), [], []⟩
def f_law_same : FDef := ⟨top 34, "_law_same", ["_law_told", "_law_due"], ["_law_told", "_law_due", "_law_one", "_law_two"], [false, false], [], "_law_same", ("_law_same", none), [], []⟩
def f_law_blown : FDef := ⟨top 35, "_law_blown", ["_law_dune_here", "_law_wind"], ["_law_dune_here", "_law_wind", "_law_told", "_law_i", "_law_word", "_law_slope_here", "_law_j"], [false, false], [2], "_law_blown", ("_law_blown", none), [], []⟩
def f_law_behind : FDef := ⟨top 36, "_law_behind", ["_law_dune_here", "_law_winds"], ["_law_dune_here", "_law_winds", "_law_wind"], [false, false], [], "_law_behind", ("_law_behind", none), [], []⟩
def f_law_dune : FDef := ⟨top 37, "_law_dune", ["_law_box_here", "_law_size"], ["_law_box_here", "_law_size", "_law_told", "_law_post", "_law_many", "_law_wide"], [true, false], [0, 2], "_law_dune", ("_law_dune", none), [], []⟩
def f_law_slope : FDef := ⟨top 38, "_law_slope", ["_law_box_here"], ["_law_box_here"], [true], [0], "_law_slope", ("_law_slope", none), [], []⟩
def f_law_books : FDef := ⟨top 39, "_law_books", ["_law_box_here", "_law_size"], ["_law_box_here", "_law_size", "_law_book", "_law_cuts", "_law_fills", "_law_way", "_law_slope_here", "_law_turn"], [true, false], [0, 2, 3, 4], "_law_books", ("_law_books", none), [], []⟩
def f_law_almanac : FDef := ⟨top 40, "_law_almanac", ["_law_cuts", "_law_fills", "_law_order_here"], ["_law_cuts", "_law_fills", "_law_order_here", "_law_letter", "_law_left", "_law_right_here", "_law_told"], [false, false, false], [4, 5, 6], "_law_almanac", ("_law_almanac", none), [], []⟩
def f_law_order : FDef := ⟨top 41, "_law_order", ["_law_box_here", "_law_cuts", "_law_fills"], ["_law_box_here", "_law_cuts", "_law_fills", "_law_turn", "_law_letters", "_law_told"], [true, false, false], [0, 4, 5], "_law_order", ("_law_order", none), [], []⟩
def f_law_has : FDef := ⟨top 42, "_law_has", ["_law_order_here", "_law_word"], ["_law_order_here", "_law_word", "_law_spots", "_law_others", "_law_kind", "_law_cut", "_law_fill", "_law_k", "_law_letter"], [false, false], [], "_law_has", ("_law_has", none), [], []⟩
def f_law_words : FDef := ⟨top 43, "_law_words", ["_law_box_here", "_law_order_here", "_law_size"], ["_law_box_here", "_law_order_here", "_law_size", "_law_turn", "_law_cuts", "_law_fills", "_law_told", "_law_astray", "_law_word"], [true, false, false], [0, 6], "_law_words", ("_law_words", none), [], []⟩
def f_law_below : FDef := ⟨top 44, "_law_below", ["_law_one", "_law_other"], ["_law_one", "_law_other", "_law_here", "_law_there"], [false, false], [], "_law_below", ("_law_below", none), [], []⟩
def f_law_exchanged : FDef := ⟨top 45, "_law_exchanged", ["_law_words_here"], ["_law_words_here", "_law_kind", "_law_cut", "_law_fill"], [false], [], "_law_exchanged", ("_law_exchanged", none), [], []⟩
def f_law_idle_out : FDef := ⟨top 46, "_law_idle_out", ["_law_slopes", "_law_by"], ["_law_slopes", "_law_by", "_law_k", "_law_slope_here", "_law_one"], [false, false], [], "_law_idle_out", ("_law_idle_out", none), [], []⟩
def f_law_right : FDef := ⟨top 47, "_law_right", ["_law_box_here"], ["_law_box_here", "_law_words_here", "_law_many", "_law_some", "_law_text", "_law_told", "_law_by", "_law_small", "_law_wide", "_law_due", "_law_bare", "_law_cuts", "_law_fills", "_law_dune_here", "_law_order_here", "_law_low", "_law_high", "_law_here", "_law_slim", "_law_thick", "_law_word", "_law_book", "_law_one", "_law_turn", "_law_height", "_law_slope_here"], [true], [0], "_law_right", ("_law_right", none), [], []⟩
def f_law : FDef := ⟨top 48, "law", ["_law_script"], ["_law_script", "_law_k", "_law_box_here", "_law_turn"], [false], [2], "law", ("law", none), [], []⟩
def mod : Mod := ⟨[f_wall, f_raised, f_mirrored, f_upside, f_cut_once, f_cut_down, f_blown, f_dunes_of, f_behind, f_almanac_of, f_order_by, f_do_clash, f_look_words, f_bounds, f_Ways___init__, f_Ways_all_ways, f_Ways_by_cut, f_Ways_by_fill, f_orders_many, f_order_at, f_least_order, f_greatest_order, f_may_stand, f_law_cell_at, f_law_box, f_law_take, f_law_same, f_law_blown, f_law_behind, f_law_dune, f_law_slope, f_law_books, f_law_almanac, f_law_order, f_law_has, f_law_words, f_law_below, f_law_exchanged, f_law_idle_out, f_law_right, f_law], [.str "CUT" "cut", .str "FILL" "fill"], ["abs", "all", "bool", "enumerate", "int", "isinstance", "len", "list", "max", "min", "range", "reversed", "str", "sum", "tuple", "zip"], 40, [⟨"Ways", ["most", "pairs", "rows"], [("__init__", "Ways.__init__", [true, false, false, false]), ("all_ways", "Ways.all_ways", [true]), ("by_cut", "Ways.by_cut", [true, false, false]), ("by_fill", "Ways.by_fill", [true, false, false])]⟩]⟩
theorem ok_wall : FOk f_wall := ⟨⟨rfl, rfl, rfl, by decide +kernel, rfl, by decide +kernel, by decide +kernel⟩, fun _ _ _ _ _ _ us hl => match us, hl with | [_], _ => rfl, rfl, fun _ => rfl⟩
theorem ok_raised : FOk f_raised := ⟨⟨rfl, rfl, rfl, by decide +kernel, rfl, by decide +kernel, by decide +kernel⟩, fun _ _ _ _ _ _ us hl => match us, hl with | [_, _], _ => rfl, rfl, fun _ => rfl⟩
theorem ok_mirrored : FOk f_mirrored := ⟨⟨rfl, rfl, rfl, by decide +kernel, rfl, by decide +kernel, by decide +kernel⟩, fun _ _ _ _ _ _ us hl => match us, hl with | [_], _ => rfl, rfl, fun _ => rfl⟩
theorem ok_upside : FOk f_upside := ⟨⟨rfl, rfl, rfl, by decide +kernel, rfl, by decide +kernel, by decide +kernel⟩, fun _ _ _ _ _ _ us hl => match us, hl with | [_], _ => rfl, rfl, fun _ => rfl⟩
theorem ok_cut_once : FOk f_cut_once := ⟨⟨rfl, rfl, rfl, by decide +kernel, rfl, by decide +kernel, by decide +kernel⟩, fun _ _ _ _ _ _ us hl => match us, hl with | [_, _], _ => rfl, rfl, fun _ => rfl⟩
theorem ok_cut_down : FOk f_cut_down := ⟨⟨rfl, rfl, rfl, by decide +kernel, rfl, by decide +kernel, by decide +kernel⟩, fun _ _ _ _ _ _ us hl => match us, hl with | [_, _], _ => rfl, rfl, fun _ => rfl⟩
theorem ok_blown : FOk f_blown := ⟨⟨rfl, rfl, rfl, by decide +kernel, rfl, by decide +kernel, by decide +kernel⟩, fun _ _ _ _ _ _ us hl => match us, hl with | [_, _], _ => rfl, rfl, fun _ => rfl⟩
theorem ok_dunes_of : FOk f_dunes_of := ⟨⟨rfl, rfl, rfl, by decide +kernel, rfl, by decide +kernel, by decide +kernel⟩, fun _ _ _ _ _ _ us hl => match us, hl with | [_, _], _ => rfl, rfl, fun _ => rfl⟩
theorem ok_behind : FOk f_behind := ⟨⟨rfl, rfl, rfl, by decide +kernel, rfl, by decide +kernel, by decide +kernel⟩, fun _ _ _ _ _ _ us hl => match us, hl with | [_, _], _ => rfl, rfl, fun _ => rfl⟩
theorem ok_almanac_of : FOk f_almanac_of := ⟨⟨rfl, rfl, rfl, by decide +kernel, rfl, by decide +kernel, by decide +kernel⟩, fun _ _ _ _ _ _ us hl => match us, hl with | [_, _, _], _ => rfl, rfl, fun _ => rfl⟩
theorem ok_order_by : FOk f_order_by := ⟨⟨rfl, rfl, rfl, by decide +kernel, rfl, by decide +kernel, by decide +kernel⟩, fun _ _ _ _ _ _ us hl => match us, hl with | [_, _], _ => rfl, rfl, fun _ => rfl⟩
theorem ok_do_clash : FOk f_do_clash := ⟨⟨rfl, rfl, rfl, by decide +kernel, rfl, by decide +kernel, by decide +kernel⟩, fun _ _ _ _ _ _ us hl => match us, hl with | [_, _], _ => rfl, rfl, fun _ => rfl⟩
theorem ok_look_words : FOk f_look_words := ⟨⟨rfl, rfl, rfl, by decide +kernel, rfl, by decide +kernel, by decide +kernel⟩, fun _ _ _ _ _ _ us hl => match us, hl with | [_], _ => rfl, rfl, fun _ => rfl⟩
theorem ok_bounds : FOk f_bounds := ⟨⟨rfl, rfl, rfl, by decide +kernel, rfl, by decide +kernel, by decide +kernel⟩, fun _ _ _ _ _ _ us hl => match us, hl with | [_, _, _], _ => rfl, rfl, fun _ => rfl⟩
theorem ok_Ways___init__ : FOk f_Ways___init__ := ⟨⟨rfl, rfl, rfl, by decide +kernel, rfl, by decide +kernel, by decide +kernel⟩, fun _ _ _ _ _ _ us hl => match us, hl with | [_, _, _, _], _ => rfl, rfl, fun h => nomatch h⟩
theorem ok_Ways_all_ways : FOk f_Ways_all_ways := ⟨⟨rfl, rfl, rfl, by decide +kernel, rfl, by decide +kernel, by decide +kernel⟩, fun _ _ _ _ _ _ us hl => match us, hl with | [_], _ => rfl, rfl, fun h => nomatch h⟩
theorem ok_Ways_by_cut : FOk f_Ways_by_cut := ⟨⟨rfl, rfl, rfl, by decide +kernel, rfl, by decide +kernel, by decide +kernel⟩, fun _ _ _ _ _ _ us hl => match us, hl with | [_, _, _], _ => rfl, rfl, fun h => nomatch h⟩
theorem ok_Ways_by_fill : FOk f_Ways_by_fill := ⟨⟨rfl, rfl, rfl, by decide +kernel, rfl, by decide +kernel, by decide +kernel⟩, fun _ _ _ _ _ _ us hl => match us, hl with | [_, _, _], _ => rfl, rfl, fun h => nomatch h⟩
theorem ok_orders_many : FOk f_orders_many := ⟨⟨rfl, rfl, rfl, by decide +kernel, rfl, by decide +kernel, by decide +kernel⟩, fun _ _ _ _ _ _ us hl => match us, hl with | [_, _, _], _ => rfl, rfl, fun _ => rfl⟩
theorem ok_order_at : FOk f_order_at := ⟨⟨rfl, rfl, rfl, by decide +kernel, rfl, by decide +kernel, by decide +kernel⟩, fun _ _ _ _ _ _ us hl => match us, hl with | [_, _, _, _], _ => rfl, rfl, fun _ => rfl⟩
theorem ok_least_order : FOk f_least_order := ⟨⟨rfl, rfl, rfl, by decide +kernel, rfl, by decide +kernel, by decide +kernel⟩, fun _ _ _ _ _ _ us hl => match us, hl with | [_, _, _], _ => rfl, rfl, fun _ => rfl⟩
theorem ok_greatest_order : FOk f_greatest_order := ⟨⟨rfl, rfl, rfl, by decide +kernel, rfl, by decide +kernel, by decide +kernel⟩, fun _ _ _ _ _ _ us hl => match us, hl with | [_, _, _], _ => rfl, rfl, fun _ => rfl⟩
theorem ok_may_stand : FOk f_may_stand := ⟨⟨rfl, rfl, rfl, by decide +kernel, rfl, by decide +kernel, by decide +kernel⟩, fun _ _ _ _ _ _ us hl => match us, hl with | [_, _, _, _], _ => rfl, rfl, fun _ => rfl⟩
theorem ok_law_cell_at : FOk f_law_cell_at := ⟨⟨rfl, rfl, rfl, by decide +kernel, rfl, by decide +kernel, by decide +kernel⟩, fun _ _ _ _ _ _ us hl => match us, hl with | [_, _], _ => rfl, rfl, fun _ => rfl⟩
theorem ok_law_box : FOk f_law_box := ⟨⟨rfl, rfl, rfl, by decide +kernel, rfl, by decide +kernel, by decide +kernel⟩, fun _ _ _ _ _ _ us hl => match us, hl with | [_, _], _ => rfl, rfl, fun _ => rfl⟩
theorem ok_law_take : FOk f_law_take := ⟨⟨rfl, rfl, rfl, by decide +kernel, rfl, by decide +kernel, by decide +kernel⟩, fun _ _ _ _ _ _ us hl => match us, hl with | [_, _], _ => rfl, rfl, fun _ => rfl⟩
theorem ok_law_same : FOk f_law_same := ⟨⟨rfl, rfl, rfl, by decide +kernel, rfl, by decide +kernel, by decide +kernel⟩, fun _ _ _ _ _ _ us hl => match us, hl with | [_, _], _ => rfl, rfl, fun _ => rfl⟩
theorem ok_law_blown : FOk f_law_blown := ⟨⟨rfl, rfl, rfl, by decide +kernel, rfl, by decide +kernel, by decide +kernel⟩, fun _ _ _ _ _ _ us hl => match us, hl with | [_, _], _ => rfl, rfl, fun _ => rfl⟩
theorem ok_law_behind : FOk f_law_behind := ⟨⟨rfl, rfl, rfl, by decide +kernel, rfl, by decide +kernel, by decide +kernel⟩, fun _ _ _ _ _ _ us hl => match us, hl with | [_, _], _ => rfl, rfl, fun _ => rfl⟩
theorem ok_law_dune : FOk f_law_dune := ⟨⟨rfl, rfl, rfl, by decide +kernel, rfl, by decide +kernel, by decide +kernel⟩, fun _ _ _ _ _ _ us hl => match us, hl with | [_, _], _ => rfl, rfl, fun _ => rfl⟩
theorem ok_law_slope : FOk f_law_slope := ⟨⟨rfl, rfl, rfl, by decide +kernel, rfl, by decide +kernel, by decide +kernel⟩, fun _ _ _ _ _ _ us hl => match us, hl with | [_], _ => rfl, rfl, fun _ => rfl⟩
theorem ok_law_books : FOk f_law_books := ⟨⟨rfl, rfl, rfl, by decide +kernel, rfl, by decide +kernel, by decide +kernel⟩, fun _ _ _ _ _ _ us hl => match us, hl with | [_, _], _ => rfl, rfl, fun _ => rfl⟩
theorem ok_law_almanac : FOk f_law_almanac := ⟨⟨rfl, rfl, rfl, by decide +kernel, rfl, by decide +kernel, by decide +kernel⟩, fun _ _ _ _ _ _ us hl => match us, hl with | [_, _, _], _ => rfl, rfl, fun _ => rfl⟩
theorem ok_law_order : FOk f_law_order := ⟨⟨rfl, rfl, rfl, by decide +kernel, rfl, by decide +kernel, by decide +kernel⟩, fun _ _ _ _ _ _ us hl => match us, hl with | [_, _, _], _ => rfl, rfl, fun _ => rfl⟩
theorem ok_law_has : FOk f_law_has := ⟨⟨rfl, rfl, rfl, by decide +kernel, rfl, by decide +kernel, by decide +kernel⟩, fun _ _ _ _ _ _ us hl => match us, hl with | [_, _], _ => rfl, rfl, fun _ => rfl⟩
theorem ok_law_words : FOk f_law_words := ⟨⟨rfl, rfl, rfl, by decide +kernel, rfl, by decide +kernel, by decide +kernel⟩, fun _ _ _ _ _ _ us hl => match us, hl with | [_, _, _], _ => rfl, rfl, fun _ => rfl⟩
theorem ok_law_below : FOk f_law_below := ⟨⟨rfl, rfl, rfl, by decide +kernel, rfl, by decide +kernel, by decide +kernel⟩, fun _ _ _ _ _ _ us hl => match us, hl with | [_, _], _ => rfl, rfl, fun _ => rfl⟩
theorem ok_law_exchanged : FOk f_law_exchanged := ⟨⟨rfl, rfl, rfl, by decide +kernel, rfl, by decide +kernel, by decide +kernel⟩, fun _ _ _ _ _ _ us hl => match us, hl with | [_], _ => rfl, rfl, fun _ => rfl⟩
theorem ok_law_idle_out : FOk f_law_idle_out := ⟨⟨rfl, rfl, rfl, by decide +kernel, rfl, by decide +kernel, by decide +kernel⟩, fun _ _ _ _ _ _ us hl => match us, hl with | [_, _], _ => rfl, rfl, fun _ => rfl⟩
theorem ok_law_right : FOk f_law_right := ⟨⟨rfl, rfl, rfl, by decide +kernel, rfl, by decide +kernel, by decide +kernel⟩, fun _ _ _ _ _ _ us hl => match us, hl with | [_], _ => rfl, rfl, fun _ => rfl⟩
theorem ok_law : FOk f_law := ⟨⟨rfl, rfl, rfl, by decide +kernel, rfl, by decide +kernel, by decide +kernel⟩, fun _ _ _ _ _ _ us hl => match us, hl with | [_], _ => rfl, rfl, fun _ => rfl⟩
theorem oks : ∀ f ∈ mod.defs, FOk f := by
  intro f hf
  simp only [mod, List.mem_cons, List.not_mem_nil, or_false] at hf
  rcases hf with rfl | rfl | rfl | rfl | rfl | rfl | rfl | rfl | rfl | rfl | rfl | rfl | rfl | rfl | rfl | rfl | rfl | rfl | rfl | rfl | rfl | rfl | rfl | rfl | rfl | rfl | rfl | rfl | rfl | rfl | rfl | rfl | rfl | rfl | rfl | rfl | rfl | rfl | rfl | rfl | rfl
  · exact ok_wall
  · exact ok_raised
  · exact ok_mirrored
  · exact ok_upside
  · exact ok_cut_once
  · exact ok_cut_down
  · exact ok_blown
  · exact ok_dunes_of
  · exact ok_behind
  · exact ok_almanac_of
  · exact ok_order_by
  · exact ok_do_clash
  · exact ok_look_words
  · exact ok_bounds
  · exact ok_Ways___init__
  · exact ok_Ways_all_ways
  · exact ok_Ways_by_cut
  · exact ok_Ways_by_fill
  · exact ok_orders_many
  · exact ok_order_at
  · exact ok_least_order
  · exact ok_greatest_order
  · exact ok_may_stand
  · exact ok_law_cell_at
  · exact ok_law_box
  · exact ok_law_take
  · exact ok_law_same
  · exact ok_law_blown
  · exact ok_law_behind
  · exact ok_law_dune
  · exact ok_law_slope
  · exact ok_law_books
  · exact ok_law_almanac
  · exact ok_law_order
  · exact ok_law_has
  · exact ok_law_words
  · exact ok_law_below
  · exact ok_law_exchanged
  · exact ok_law_idle_out
  · exact ok_law_right
  · exact ok_law
end LK

namespace LK
open PySem PySem.W PySem.Spec PyProof.Rows L2 DL
noncomputable section
def s_wall (cs : Calls) : Sm := (seqsS [(whileS stuck (seqsS [nextS]))])
theorem e_wall (cs : Calls) : bodyS mod cs f_wall = s_wall cs := by kernel_rfl
def s_raised (cs : Calls) : Sm := (seqsS [(retS (biC tupleS [(pkD (lcE [2] (bd (varE 0) seqT) (setE 2) (ret true) (mD (binE .Add (varE 2) (varE 1)))))]))])
theorem e_raised (cs : Calls) : bodyS mod cs f_raised = s_raised cs := by kernel_rfl
def s_mirrored (cs : Calls) : Sm := (seqsS [(retS (revC true (varE 0)))])
theorem e_mirrored (cs : Calls) : bodyS mod cs f_mirrored = s_mirrored cs := by kernel_rfl
def s_upside (cs : Calls) : Sm := (seqsS [(retS (biC tupleS [(pkD (lcE [1] (bd (varE 0) seqT) (setE 1) (ret true) (mD (negE (mD (varE 1))))))]))])
theorem e_upside (cs : Calls) : bodyS mod cs f_upside = s_upside cs := by kernel_rfl
def s_cut_once (cs : Calls) : Sm := (seqsS [(asgS (setE 2) (biC listS [(pkD (slE (pkE 0) (partM none) (partM (some (ret (.val (.int 1)))))))])), (forS (bd (slE (pkE 0) (partM (some (ret (.val (.int 1))))) (partM none)) seqT) (setE 3) (seqsS [(appS 2 (mD (biC minS [(pkE 3), (pkD (binE .Add (ixE (pkE 2) (pkD (negE (mD (ret (.val (.int 1))))))) (varE 1)))])))])), (retV 2)])
theorem e_cut_once (cs : Calls) : bodyS mod cs f_cut_once = s_cut_once cs := by kernel_rfl
def t_cut_once_0 (cs : Calls) : Sm := (asgS (setE 2) (biC listS [(pkD (slE (pkE 0) (partM none) (partM (some (ret (.val (.int 1)))))))]))
def t_cut_once_1 (cs : Calls) : Sm := (forS (bd (slE (pkE 0) (partM (some (ret (.val (.int 1))))) (partM none)) seqT) (setE 3) (seqsS [(appS 2 (mD (biC minS [(pkE 3), (pkD (binE .Add (ixE (pkE 2) (pkD (negE (mD (ret (.val (.int 1))))))) (varE 1)))])))]))
def t_cut_once_2 (cs : Calls) : Sm := (retV 2)
theorem z_cut_once (cs : Calls) : s_cut_once cs = (seqsS [t_cut_once_0 cs, t_cut_once_1 cs, t_cut_once_2 cs]) := rfl
def s_cut_down (cs : Calls) : Sm := (seqsS [(frzS 2 (asgS (setE 2) (fnC cs "cut_once" [argE (varE 0), argE (varE 1)]))), (frzS 3 (asgS (setE 3) (fnC cs "cut_once" [argE (revC false (varE 2)), argE (varE 1)]))), (retS (revC true (varE 3)))])
theorem e_cut_down (cs : Calls) : bodyS mod cs f_cut_down = s_cut_down cs := by kernel_rfl
def t_cut_down_0 (cs : Calls) : Sm := (frzS 2 (asgS (setE 2) (fnC cs "cut_once" [argE (varE 0), argE (varE 1)])))
def t_cut_down_1 (cs : Calls) : Sm := (frzS 3 (asgS (setE 3) (fnC cs "cut_once" [argE (revC false (varE 2)), argE (varE 1)])))
def t_cut_down_2 (cs : Calls) : Sm := (retS (revC true (varE 3)))
theorem z_cut_down (cs : Calls) : s_cut_down cs = (seqsS [t_cut_down_0 cs, t_cut_down_1 cs, t_cut_down_2 cs]) := rfl
def s_blown (cs : Calls) : Sm := (seqsS [(asgS (tupT 2 (tgsL [(setE 2), (setE 3)])) (varE 1)), (retS (iteE (tb (cmpE .Eq (pkE 2) (pkD (ret (.val (.str "cut")))))) (fnC cs "cut_down" [argE (varE 0), argE (varE 3)]) (fnC cs "upside" [argE (fnC cs "cut_down" [argE (fnC cs "upside" [argE (varE 0)]), argE (varE 3)])])))])
theorem e_blown (cs : Calls) : bodyS mod cs f_blown = s_blown cs := by kernel_rfl
def t_blown_0 (cs : Calls) : Sm := (asgS (tupT 2 (tgsL [(setE 2), (setE 3)])) (varE 1))
def t_blown_1 (cs : Calls) : Sm := (retS (iteE (tb (cmpE .Eq (pkE 2) (pkD (ret (.val (.str "cut")))))) (fnC cs "cut_down" [argE (varE 0), argE (varE 3)]) (fnC cs "upside" [argE (fnC cs "cut_down" [argE (fnC cs "upside" [argE (varE 0)]), argE (varE 3)])])))
theorem z_blown (cs : Calls) : s_blown cs = (seqsS [t_blown_0 cs, t_blown_1 cs]) := rfl
def s_dunes_of (cs : Calls) : Sm := (seqsS [(asgS (setE 2) (lstE [mD (biC tupleS [(pkE 0)])])), (forS (bd (varE 1) seqT) (setE 3) (seqsS [(appS 2 (mD (fnC cs "blown" [argE (ixE (pkE 2) (pkD (negE (mD (ret (.val (.int 1))))))), argE (varE 3)])))])), (retV 2)])
theorem e_dunes_of (cs : Calls) : bodyS mod cs f_dunes_of = s_dunes_of cs := by kernel_rfl
def t_dunes_of_0 (cs : Calls) : Sm := (asgS (setE 2) (lstE [mD (biC tupleS [(pkE 0)])]))
def t_dunes_of_1 (cs : Calls) : Sm := (forS (bd (varE 1) seqT) (setE 3) (seqsS [(appS 2 (mD (fnC cs "blown" [argE (ixE (pkE 2) (pkD (negE (mD (ret (.val (.int 1))))))), argE (varE 3)])))]))
def t_dunes_of_2 (cs : Calls) : Sm := (retV 2)
theorem z_dunes_of (cs : Calls) : s_dunes_of cs = (seqsS [t_dunes_of_0 cs, t_dunes_of_1 cs, t_dunes_of_2 cs]) := rfl
def s_behind (cs : Calls) : Sm := (seqsS [(retS (ixE (pkD (fnC cs "dunes_of" [argE (varE 0), argE (varE 1)])) (pkD (negE (mD (ret (.val (.int 1))))))))])
theorem e_behind (cs : Calls) : bodyS mod cs f_behind = s_behind cs := by kernel_rfl
def s_almanac_of (cs : Calls) : Sm := (seqsS [(parO3 4 5 6 (seqM [kM true (lstE []), kM true (ret (.val (.int 0))), kM true (ret (.val (.int 0)))])), (forS (bd (varE 2) seqT) (setE 3) (seqsS [(ifS (tb (cmpE .Eq (pkE 3) (pkD (ret (.val (.str "c")))))) (seqsS [(appS 4 (mD (tupE [mD (ret (.val (.str "cut"))), mD (ixE (pkE 0) (pkE 5))]))), (augS 5 .Add (mD (ret (.val (.int 1)))))]) (seqsS [(appS 4 (mD (tupE [mD (ret (.val (.str "fill"))), mD (ixE (pkE 1) (pkE 6))]))), (augS 6 .Add (mD (ret (.val (.int 1)))))]))])), (retV 4)])
theorem e_almanac_of (cs : Calls) : bodyS mod cs f_almanac_of = s_almanac_of cs := by kernel_rfl
def t_almanac_of_0 (cs : Calls) : Sm := (parO3 4 5 6 (seqM [kM true (lstE []), kM true (ret (.val (.int 0))), kM true (ret (.val (.int 0)))]))
def t_almanac_of_1_0 (cs : Calls) : Sm := (appS 4 (mD (tupE [mD (ret (.val (.str "cut"))), mD (ixE (pkE 0) (pkE 5))])))
def t_almanac_of_1_1 (cs : Calls) : Sm := (augS 5 .Add (mD (ret (.val (.int 1)))))
def t_almanac_of_1e_0 (cs : Calls) : Sm := (appS 4 (mD (tupE [mD (ret (.val (.str "fill"))), mD (ixE (pkE 1) (pkE 6))])))
def t_almanac_of_1e_1 (cs : Calls) : Sm := (augS 6 .Add (mD (ret (.val (.int 1)))))
def t_almanac_of_1 (cs : Calls) : Sm := (forS (bd (varE 2) seqT) (setE 3) (seqsS [(ifS (tb (cmpE .Eq (pkE 3) (pkD (ret (.val (.str "c")))))) (seqsS [t_almanac_of_1_0 cs, t_almanac_of_1_1 cs]) (seqsS [t_almanac_of_1e_0 cs, t_almanac_of_1e_1 cs]))]))
def t_almanac_of_2 (cs : Calls) : Sm := (retV 4)
theorem z_almanac_of (cs : Calls) : s_almanac_of cs = (seqsS [t_almanac_of_0 cs, t_almanac_of_1 cs, t_almanac_of_2 cs]) := rfl
def s_order_by (cs : Calls) : Sm := (seqsS [(asgO [3, 4] (seqM [kM true (ret (.val (.str ""))), kM false (ret (.val (.int 0)))])), (forS (bd (varE 1) seqT) (setE 2) (seqsS [(augS 3 .Add (mD (binE .Add (binE .Mult (ret (.val (.str "c"))) (binE .Sub (varE 2) (varE 4))) (ret (.val (.str "f")))))), (frzS 4 (asgS (setE 4) (varE 2)))])), (retS (binE .Add (varE 3) (binE .Mult (ret (.val (.str "c"))) (binE .Sub (varE 0) (varE 4)))))])
theorem e_order_by (cs : Calls) : bodyS mod cs f_order_by = s_order_by cs := by kernel_rfl
def t_order_by_0 (cs : Calls) : Sm := (asgO [3, 4] (seqM [kM true (ret (.val (.str ""))), kM false (ret (.val (.int 0)))]))
def t_order_by_1_0 (cs : Calls) : Sm := (augS 3 .Add (mD (binE .Add (binE .Mult (ret (.val (.str "c"))) (binE .Sub (varE 2) (varE 4))) (ret (.val (.str "f"))))))
def t_order_by_1_1 (cs : Calls) : Sm := (frzS 4 (asgS (setE 4) (varE 2)))
def t_order_by_1 (cs : Calls) : Sm := (forS (bd (varE 1) seqT) (setE 2) (seqsS [t_order_by_1_0 cs, t_order_by_1_1 cs]))
def t_order_by_2 (cs : Calls) : Sm := (retS (binE .Add (varE 3) (binE .Mult (ret (.val (.str "c"))) (binE .Sub (varE 0) (varE 4)))))
theorem z_order_by (cs : Calls) : s_order_by cs = (seqsS [t_order_by_0 cs, t_order_by_1 cs, t_order_by_2 cs]) := rfl
def s_do_clash (cs : Calls) : Sm := (seqsS [(ifS (tb (cmpE .Eq (pkD (ixE (pkE 0) (pkD (ret (.val (.int 0)))))) (pkD (ixE (pkE 1) (pkD (ret (.val (.int 0)))))))) (seqsS [(retS (ret (.val (.bool false))))]) (seqsS [])), (asgS (tupT 2 (tgsL [(setE 2), (setE 3)])) (iteE (tb (cmpE .Eq (pkD (ixE (pkE 0) (pkD (ret (.val (.int 0)))))) (pkD (ret (.val (.str "cut")))))) (tupE [mD (varE 0), mD (varE 1)]) (tupE [mD (varE 1), mD (varE 0)]))), (retS (andE [(cmpE .LtE (pkD (ixE (pkE 2) (pkD (ret (.val (.int 2)))))) (pkD (ixE (pkE 3) (pkD (ret (.val (.int 2))))))), (cmpE .GtE (pkD (ixE (pkE 2) (pkD (ret (.val (.int 1)))))) (pkD (ixE (pkE 3) (pkD (ret (.val (.int 1)))))))]))])
theorem e_do_clash (cs : Calls) : bodyS mod cs f_do_clash = s_do_clash cs := by kernel_rfl
def t_do_clash_0 (cs : Calls) : Sm := (ifS (tb (cmpE .Eq (pkD (ixE (pkE 0) (pkD (ret (.val (.int 0)))))) (pkD (ixE (pkE 1) (pkD (ret (.val (.int 0)))))))) (seqsS [(retS (ret (.val (.bool false))))]) (seqsS []))
def t_do_clash_1 (cs : Calls) : Sm := (asgS (tupT 2 (tgsL [(setE 2), (setE 3)])) (iteE (tb (cmpE .Eq (pkD (ixE (pkE 0) (pkD (ret (.val (.int 0)))))) (pkD (ret (.val (.str "cut")))))) (tupE [mD (varE 0), mD (varE 1)]) (tupE [mD (varE 1), mD (varE 0)])))
def t_do_clash_2 (cs : Calls) : Sm := (retS (andE [(cmpE .LtE (pkD (ixE (pkE 2) (pkD (ret (.val (.int 2)))))) (pkD (ixE (pkE 3) (pkD (ret (.val (.int 2))))))), (cmpE .GtE (pkD (ixE (pkE 2) (pkD (ret (.val (.int 1)))))) (pkD (ixE (pkE 3) (pkD (ret (.val (.int 1)))))))]))
theorem z_do_clash (cs : Calls) : s_do_clash cs = (seqsS [t_do_clash_0 cs, t_do_clash_1 cs, t_do_clash_2 cs]) := rfl
def s_look_words (cs : Calls) : Sm := (seqsS [(forS (bd (seqM [mD (biC lenS [(pkE 0)])]) rangeM1) (setE 1) (seqsS [(forS (bd (seqM [mD (binE .Add (varE 1) (ret (.val (.int 1)))), mD (biC lenS [(pkE 0)])]) rangeM2) (setE 2) (seqsS [(ifS (truE (fnC cs "do_clash" [argE (ixE (pkE 0) (pkE 1)), argE (ixE (pkE 0) (pkE 2))])) (seqsS [stuckS]) (seqsS []))]))]))])
theorem e_look_words (cs : Calls) : bodyS mod cs f_look_words = s_look_words cs := by kernel_rfl
def s_bounds (cs : Calls) : Sm := (seqsS [(dropS (fnC cs "look_words" [argE (varE 2)])), (asgS (setE 3) (lstE [])), (forS (bd (seqM [mD (biC lenS [(pkE 1)])]) rangeM1) (setE 4) (seqsS [(frzS 5 (asgS (setE 5) (dflE maxDS (pkD (lcE [7, 8, 9] (bd (varE 2) seqT) (tupT 3 (tgsL [(setE 7), (setE 8), (setE 9)])) (andT [(tb (cmpE .Eq (pkE 7) (pkD (ret (.val (.str "cut")))))), (tb (cmpE .LtE (pkE 9) (pkE 4)))]) (mD (binE .Add (varE 8) (ret (.val (.int 1))))))) (pkD (ret (.val (.int 0))))))), (frzS 6 (asgS (setE 6) (dflE minDS (pkD (lcE [7, 8, 9] (bd (varE 2) seqT) (tupT 3 (tgsL [(setE 7), (setE 8), (setE 9)])) (andT [(tb (cmpE .Eq (pkE 7) (pkD (ret (.val (.str "fill")))))), (tb (cmpE .GtE (pkE 9) (pkE 4)))]) (mD (varE 8)))) (pkD (biC lenS [(pkE 0)]))))), (appS 3 (mD (tupE [mD (varE 5), mD (varE 6)])))])), (retV 3)])
theorem e_bounds (cs : Calls) : bodyS mod cs f_bounds = s_bounds cs := by kernel_rfl
def t_bounds_0 (cs : Calls) : Sm := (dropS (fnC cs "look_words" [argE (varE 2)]))
def t_bounds_1 (cs : Calls) : Sm := (asgS (setE 3) (lstE []))
def t_bounds_2_0 (cs : Calls) : Sm := (frzS 5 (asgS (setE 5) (dflE maxDS (pkD (lcE [7, 8, 9] (bd (varE 2) seqT) (tupT 3 (tgsL [(setE 7), (setE 8), (setE 9)])) (andT [(tb (cmpE .Eq (pkE 7) (pkD (ret (.val (.str "cut")))))), (tb (cmpE .LtE (pkE 9) (pkE 4)))]) (mD (binE .Add (varE 8) (ret (.val (.int 1))))))) (pkD (ret (.val (.int 0)))))))
def t_bounds_2_1 (cs : Calls) : Sm := (frzS 6 (asgS (setE 6) (dflE minDS (pkD (lcE [7, 8, 9] (bd (varE 2) seqT) (tupT 3 (tgsL [(setE 7), (setE 8), (setE 9)])) (andT [(tb (cmpE .Eq (pkE 7) (pkD (ret (.val (.str "fill")))))), (tb (cmpE .GtE (pkE 9) (pkE 4)))]) (mD (varE 8)))) (pkD (biC lenS [(pkE 0)])))))
def t_bounds_2_2 (cs : Calls) : Sm := (appS 3 (mD (tupE [mD (varE 5), mD (varE 6)])))
def t_bounds_2 (cs : Calls) : Sm := (forS (bd (seqM [mD (biC lenS [(pkE 1)])]) rangeM1) (setE 4) (seqsS [t_bounds_2_0 cs, t_bounds_2_1 cs, t_bounds_2_2 cs]))
def t_bounds_3 (cs : Calls) : Sm := (retV 3)
theorem z_bounds (cs : Calls) : s_bounds cs = (seqsS [t_bounds_0 cs, t_bounds_1 cs, t_bounds_2 cs, t_bounds_3 cs]) := rfl
def s_Ways___init__ (cs : Calls) : Sm := (seqsS [(fstC "Ways" 0 "most" (mD (biC lenS [(pkE 1)]))), (fstC "Ways" 0 "pairs" (mD (fnC cs "bounds" [argE (varE 1), argE (varE 2), argE (varE 3)]))), (asgS (setE 4) (lstE [mD (binE .Mult (lstE [mD (ret (.val (.int 1)))]) (binE .Add (fldC "Ways" 0 "most") (ret (.val (.int 1)))))])), (forS (bd (revE (pkD (fldC "Ways" 0 "pairs"))) seqT) (tupT 2 (tgsL [(setE 5), (setE 6)])) (seqsS [(frzS 7 (asgS (setE 7) (ixE (pkE 4) (pkD (negE (mD (ret (.val (.int 1))))))))), (appS 4 (mD (lcE [8] (bd (seqM [mD (binE .Add (fldC "Ways" 0 "most") (ret (.val (.int 1))))]) rangeM1) (setE 8) (ret true) (mD (biC sumS [(pkD (slE (pkE 7) (partM (some (biC maxS [(pkE 8), (pkE 5)]))) (partM (some (binE .Add (varE 6) (ret (.val (.int 1))))))))])))))])), (fstC "Ways" 0 "rows" (mD (revE (pkE 4))))])
theorem e_Ways___init__ (cs : Calls) : bodyS mod cs f_Ways___init__ = s_Ways___init__ cs := by kernel_rfl
def t_Ways___init___0 (cs : Calls) : Sm := (fstC "Ways" 0 "most" (mD (biC lenS [(pkE 1)])))
def t_Ways___init___1 (cs : Calls) : Sm := (fstC "Ways" 0 "pairs" (mD (fnC cs "bounds" [argE (varE 1), argE (varE 2), argE (varE 3)])))
def t_Ways___init___2 (cs : Calls) : Sm := (asgS (setE 4) (lstE [mD (binE .Mult (lstE [mD (ret (.val (.int 1)))]) (binE .Add (fldC "Ways" 0 "most") (ret (.val (.int 1)))))]))
def t_Ways___init___3_0 (cs : Calls) : Sm := (frzS 7 (asgS (setE 7) (ixE (pkE 4) (pkD (negE (mD (ret (.val (.int 1)))))))))
def t_Ways___init___3_1 (cs : Calls) : Sm := (appS 4 (mD (lcE [8] (bd (seqM [mD (binE .Add (fldC "Ways" 0 "most") (ret (.val (.int 1))))]) rangeM1) (setE 8) (ret true) (mD (biC sumS [(pkD (slE (pkE 7) (partM (some (biC maxS [(pkE 8), (pkE 5)]))) (partM (some (binE .Add (varE 6) (ret (.val (.int 1))))))))])))))
def t_Ways___init___3 (cs : Calls) : Sm := (forS (bd (revE (pkD (fldC "Ways" 0 "pairs"))) seqT) (tupT 2 (tgsL [(setE 5), (setE 6)])) (seqsS [t_Ways___init___3_0 cs, t_Ways___init___3_1 cs]))
def t_Ways___init___4 (cs : Calls) : Sm := (fstC "Ways" 0 "rows" (mD (revE (pkE 4))))
theorem z_Ways___init__ (cs : Calls) : s_Ways___init__ cs = (seqsS [t_Ways___init___0 cs, t_Ways___init___1 cs, t_Ways___init___2 cs, t_Ways___init___3 cs, t_Ways___init___4 cs]) := rfl
def s_Ways_all_ways (cs : Calls) : Sm := (seqsS [(retS (ixE (pkD (ixE (pkD (fldC "Ways" 0 "rows")) (pkD (ret (.val (.int 0)))))) (pkD (ret (.val (.int 0))))))])
theorem e_Ways_all_ways (cs : Calls) : bodyS mod cs f_Ways_all_ways = s_Ways_all_ways cs := by kernel_rfl
def s_Ways_by_cut (cs : Calls) : Sm := (seqsS [(retS (iteE (tb (cmpE .Lt (pkE 1) (pkD (fldC "Ways" 0 "most")))) (ixE (pkD (ixE (pkD (fldC "Ways" 0 "rows")) (pkE 2))) (pkD (binE .Add (varE 1) (ret (.val (.int 1)))))) (ret (.val (.int 0)))))])
theorem e_Ways_by_cut (cs : Calls) : bodyS mod cs f_Ways_by_cut = s_Ways_by_cut cs := by kernel_rfl
def s_Ways_by_fill (cs : Calls) : Sm := (seqsS [(dropS (fnC cs "_wall" [argE (ret (.val (.int 0)))]))])
theorem e_Ways_by_fill (cs : Calls) : bodyS mod cs f_Ways_by_fill = s_Ways_by_fill cs := by kernel_rfl
def s_orders_many (cs : Calls) : Sm := (seqsS [(retS (recvC cs "Ways" "all_ways" "Ways.all_ways" (fnC cs "Ways" [argE (varE 0), argE (varE 1), argE (varE 2)])))])
theorem e_orders_many (cs : Calls) : bodyS mod cs f_orders_many = s_orders_many cs := by kernel_rfl
def s_order_at (cs : Calls) : Sm := (seqsS [(parO3 4 5 6 (seqM [kM true (fnC cs "Ways" [argE (varE 0), argE (varE 1), argE (varE 2)]), kM true (ret (.val (.str ""))), kM true (varE 3)])), (ifS (notT (tb (chainE .LtE .Lt (mD (ret (.val (.int 0)))) (mD (varE 3)) (mD (methC cs "Ways" "all_ways" "Ways.all_ways" 4 []))))) (seqsS [stuckS]) (seqsS [])), (whileS (tb (cmpE .Lt (pkD (biC lenS [(pkE 5)])) (pkD (binE .Add (biC lenS [(pkE 0)]) (biC lenS [(pkE 1)]))))) (seqsS [(parS 8 9 (seqM [mD (cntE 5 (mD (ret (.val (.str "c"))))), mD (cntE 5 (mD (ret (.val (.str "f")))))])), (frzS 7 (asgS (setE 7) (methC cs "Ways" "by_cut" "Ways.by_cut" 4 [argE (varE 8), argE (varE 9)]))), (augS 5 .Add (mD (iteE (tb (cmpE .Lt (pkE 6) (pkE 7))) (ret (.val (.str "c"))) (ret (.val (.str "f")))))), (augS 6 .Sub (mD (iteE (tb (cmpE .Lt (pkE 6) (pkE 7))) (ret (.val (.int 0))) (varE 7))))])), (retV 5)])
theorem e_order_at (cs : Calls) : bodyS mod cs f_order_at = s_order_at cs := by kernel_rfl
def t_order_at_0 (cs : Calls) : Sm := (parO3 4 5 6 (seqM [kM true (fnC cs "Ways" [argE (varE 0), argE (varE 1), argE (varE 2)]), kM true (ret (.val (.str ""))), kM true (varE 3)]))
def t_order_at_1 (cs : Calls) : Sm := (ifS (notT (tb (chainE .LtE .Lt (mD (ret (.val (.int 0)))) (mD (varE 3)) (mD (methC cs "Ways" "all_ways" "Ways.all_ways" 4 []))))) (seqsS [stuckS]) (seqsS []))
def t_order_at_2_0 (cs : Calls) : Sm := (parS 8 9 (seqM [mD (cntE 5 (mD (ret (.val (.str "c"))))), mD (cntE 5 (mD (ret (.val (.str "f")))))]))
def t_order_at_2_1 (cs : Calls) : Sm := (frzS 7 (asgS (setE 7) (methC cs "Ways" "by_cut" "Ways.by_cut" 4 [argE (varE 8), argE (varE 9)])))
def t_order_at_2_2 (cs : Calls) : Sm := (augS 5 .Add (mD (iteE (tb (cmpE .Lt (pkE 6) (pkE 7))) (ret (.val (.str "c"))) (ret (.val (.str "f"))))))
def t_order_at_2_3 (cs : Calls) : Sm := (augS 6 .Sub (mD (iteE (tb (cmpE .Lt (pkE 6) (pkE 7))) (ret (.val (.int 0))) (varE 7))))
def t_order_at_2 (cs : Calls) : Sm := (whileS (tb (cmpE .Lt (pkD (biC lenS [(pkE 5)])) (pkD (binE .Add (biC lenS [(pkE 0)]) (biC lenS [(pkE 1)]))))) (seqsS [t_order_at_2_0 cs, t_order_at_2_1 cs, t_order_at_2_2 cs, t_order_at_2_3 cs]))
def t_order_at_3 (cs : Calls) : Sm := (retV 5)
theorem z_order_at (cs : Calls) : s_order_at cs = (seqsS [t_order_at_0 cs, t_order_at_1 cs, t_order_at_2 cs, t_order_at_3 cs]) := rfl
def s_least_order (cs : Calls) : Sm := (seqsS [(retS (fnC cs "order_by" [argE (biC lenS [(pkE 0)]), argE (lcE [3, 4] (bd (fnC cs "bounds" [argE (varE 0), argE (varE 1), argE (varE 2)]) seqT) (tupT 2 (tgsL [(setE 3), (setE 4)])) (ret true) (mD (varE 4)))]))])
theorem e_least_order (cs : Calls) : bodyS mod cs f_least_order = s_least_order cs := by kernel_rfl
def s_greatest_order (cs : Calls) : Sm := (seqsS [(retS (fnC cs "order_by" [argE (biC lenS [(pkE 0)]), argE (lcE [3, 4] (bd (fnC cs "bounds" [argE (varE 0), argE (varE 1), argE (varE 2)]) seqT) (tupT 2 (tgsL [(setE 3), (setE 4)])) (ret true) (mD (varE 3)))]))])
theorem e_greatest_order (cs : Calls) : bodyS mod cs f_greatest_order = s_greatest_order cs := by kernel_rfl
def s_may_stand (cs : Calls) : Sm := (seqsS [(parS 5 6 (seqM [mD (fnC cs "least_order" [argE (varE 1), argE (varE 2), argE (varE 3)]), mD (fnC cs "greatest_order" [argE (varE 1), argE (varE 2), argE (varE 3)])])), (frzS 4 (asgS (setE 4) (fnC cs "behind" [argE (varE 0), argE (fnC cs "almanac_of" [argE (varE 1), argE (varE 2), argE (varE 5)])]))), (retS (tupE [mD (varE 4), mD (fnC cs "behind" [argE (varE 0), argE (fnC cs "almanac_of" [argE (varE 1), argE (varE 2), argE (varE 6)])])]))])
theorem e_may_stand (cs : Calls) : bodyS mod cs f_may_stand = s_may_stand cs := by kernel_rfl
def t_may_stand_0 (cs : Calls) : Sm := (parS 5 6 (seqM [mD (fnC cs "least_order" [argE (varE 1), argE (varE 2), argE (varE 3)]), mD (fnC cs "greatest_order" [argE (varE 1), argE (varE 2), argE (varE 3)])]))
def t_may_stand_1 (cs : Calls) : Sm := (frzS 4 (asgS (setE 4) (fnC cs "behind" [argE (varE 0), argE (fnC cs "almanac_of" [argE (varE 1), argE (varE 2), argE (varE 5)])])))
def t_may_stand_2 (cs : Calls) : Sm := (retS (tupE [mD (varE 4), mD (fnC cs "behind" [argE (varE 0), argE (fnC cs "almanac_of" [argE (varE 1), argE (varE 2), argE (varE 6)])])]))
theorem z_may_stand (cs : Calls) : s_may_stand cs = (seqsS [t_may_stand_0 cs, t_may_stand_1 cs, t_may_stand_2 cs]) := rfl
def s_law_cell_at (cs : Calls) : Sm := (seqsS [(ifS (tb (cmpE .Lt (pkE 1) (pkD (biC lenS [(pkE 0)])))) (seqsS [(retS (ixE (pkE 0) (pkE 1)))]) (seqsS [])), (retS (ret (.val (.int 0))))])
theorem e_law_cell_at (cs : Calls) : bodyS mod cs f_law_cell_at = s_law_cell_at cs := by kernel_rfl
def t_law_cell_at_0 (cs : Calls) : Sm := (ifS (tb (cmpE .Lt (pkE 1) (pkD (biC lenS [(pkE 0)])))) (seqsS [(retS (ixE (pkE 0) (pkE 1)))]) (seqsS []))
def t_law_cell_at_1 (cs : Calls) : Sm := (retS (ret (.val (.int 0))))
theorem z_law_cell_at (cs : Calls) : s_law_cell_at cs = (seqsS [t_law_cell_at_0 cs, t_law_cell_at_1 cs]) := rfl
def s_law_box (cs : Calls) : Sm := (seqsS [(frzS 2 (asgS (setE 2) (fnC cs "_law_cell_at" [argE (varE 0), argE (varE 1)]))), (retS (lstE [mD (binE .Mult (biC absS [(pkE 2)]) (biC intS [(pkD (cmpE .GtE (pkD (biC absS [(pkE 2)])) (pkD (binE .Pow (ret (.val (.int 10))) (ret (.val (.int 18)))))))])), mD (binE .Add (binE .Add (binE .Mod (varE 2) (ret (.val (.int 2305843009213693951)))) (binE .Mult (ret (.val (.int 39373))) (varE 1))) (ret (.val (.int 17)))), mD (ret (.val (.int 0)))]))])
theorem e_law_box (cs : Calls) : bodyS mod cs f_law_box = s_law_box cs := by kernel_rfl
def t_law_box_0 (cs : Calls) : Sm := (frzS 2 (asgS (setE 2) (fnC cs "_law_cell_at" [argE (varE 0), argE (varE 1)])))
def t_law_box_1 (cs : Calls) : Sm := (retS (lstE [mD (binE .Mult (biC absS [(pkE 2)]) (biC intS [(pkD (cmpE .GtE (pkD (biC absS [(pkE 2)])) (pkD (binE .Pow (ret (.val (.int 10))) (ret (.val (.int 18)))))))])), mD (binE .Add (binE .Add (binE .Mod (varE 2) (ret (.val (.int 2305843009213693951)))) (binE .Mult (ret (.val (.int 39373))) (varE 1))) (ret (.val (.int 17)))), mD (ret (.val (.int 0)))]))
theorem z_law_box (cs : Calls) : s_law_box cs = (seqsS [t_law_box_0 cs, t_law_box_1 cs]) := rfl
def s_law_take (cs : Calls) : Sm := (seqsS [(ifS (tb (cmpE .Gt (pkD (ixE (pkE 0) (pkD (ret (.val (.int 0)))))) (pkD (ret (.val (.int 0)))))) (seqsS [(asgS (setE 4) (binE .Mod (ixE (pkE 0) (pkD (ret (.val (.int 0))))) (varE 1))), (asgS (subT 0 (mD (ret (.val (.int 0))))) (binE .FloorDiv (ixE (pkE 0) (pkD (ret (.val (.int 0))))) (varE 1))), (retV 4)]) (seqsS [])), (ifS (tb (cmpE .Gt (pkE 1) (pkD (binE .Pow (ret (.val (.int 10))) (ret (.val (.int 7))))))) (seqsS [(retS (binE .Mod (binE .Add (fnC cs "_law_take" [ioE 0, argE (binE .Pow (ret (.val (.int 10))) (ret (.val (.int 7))))]) (binE .Mult (binE .Pow (ret (.val (.int 10))) (ret (.val (.int 7)))) (fnC cs "_law_take" [ioE 0, argE (binE .Add (binE .FloorDiv (binE .Sub (varE 1) (ret (.val (.int 1)))) (binE .Pow (ret (.val (.int 10))) (ret (.val (.int 7))))) (ret (.val (.int 1))))]))) (varE 1)))]) (seqsS [])), (asgS (subT 0 (mD (ret (.val (.int 2))))) (binE .Add (ixE (pkE 0) (pkD (ret (.val (.int 2))))) (ret (.val (.int 1))))), (frzS 2 (asgS (setE 2) (binE .Mod (binE .Mult (binE .Add (ixE (pkE 0) (pkD (ret (.val (.int 1))))) (binE .Mult (ret (.val (.int 48271))) (ixE (pkE 0) (pkD (ret (.val (.int 2))))))) (binE .Add (ret (.val (.int 39373))) (ixE (pkE 0) (pkD (ret (.val (.int 2))))))) (ret (.val (.int 2147483647)))))), (frzS 3 (asgS (setE 3) (binE .Mod (binE .Mult (binE .Add (binE .Add (varE 2) (ixE (pkE 0) (pkD (ret (.val (.int 2)))))) (binE .FloorDiv (ixE (pkE 0) (pkD (ret (.val (.int 1))))) (ret (.val (.int 1000003))))) (binE .Add (binE .Mod (varE 2) (ret (.val (.int 40009)))) (ret (.val (.int 7))))) (ret (.val (.int 2147483629)))))), (retS (binE .Mod (binE .FloorDiv (binE .Mod (binE .Add (binE .Mult (varE 3) (ret (.val (.int 48271)))) (varE 2)) (ret (.val (.int 2147483587)))) (ret (.val (.int 64)))) (varE 1)))])
theorem e_law_take (cs : Calls) : bodyS mod cs f_law_take = s_law_take cs := by kernel_rfl
def t_law_take_0_0 (cs : Calls) : Sm := (asgS (setE 4) (binE .Mod (ixE (pkE 0) (pkD (ret (.val (.int 0))))) (varE 1)))
def t_law_take_0_1 (cs : Calls) : Sm := (asgS (subT 0 (mD (ret (.val (.int 0))))) (binE .FloorDiv (ixE (pkE 0) (pkD (ret (.val (.int 0))))) (varE 1)))
def t_law_take_0_2 (cs : Calls) : Sm := (retV 4)
def t_law_take_0 (cs : Calls) : Sm := (ifS (tb (cmpE .Gt (pkD (ixE (pkE 0) (pkD (ret (.val (.int 0)))))) (pkD (ret (.val (.int 0)))))) (seqsS [t_law_take_0_0 cs, t_law_take_0_1 cs, t_law_take_0_2 cs]) (seqsS []))
def t_law_take_1 (cs : Calls) : Sm := (ifS (tb (cmpE .Gt (pkE 1) (pkD (binE .Pow (ret (.val (.int 10))) (ret (.val (.int 7))))))) (seqsS [(retS (binE .Mod (binE .Add (fnC cs "_law_take" [ioE 0, argE (binE .Pow (ret (.val (.int 10))) (ret (.val (.int 7))))]) (binE .Mult (binE .Pow (ret (.val (.int 10))) (ret (.val (.int 7)))) (fnC cs "_law_take" [ioE 0, argE (binE .Add (binE .FloorDiv (binE .Sub (varE 1) (ret (.val (.int 1)))) (binE .Pow (ret (.val (.int 10))) (ret (.val (.int 7))))) (ret (.val (.int 1))))]))) (varE 1)))]) (seqsS []))
def t_law_take_2 (cs : Calls) : Sm := (asgS (subT 0 (mD (ret (.val (.int 2))))) (binE .Add (ixE (pkE 0) (pkD (ret (.val (.int 2))))) (ret (.val (.int 1)))))
def t_law_take_3 (cs : Calls) : Sm := (frzS 2 (asgS (setE 2) (binE .Mod (binE .Mult (binE .Add (ixE (pkE 0) (pkD (ret (.val (.int 1))))) (binE .Mult (ret (.val (.int 48271))) (ixE (pkE 0) (pkD (ret (.val (.int 2))))))) (binE .Add (ret (.val (.int 39373))) (ixE (pkE 0) (pkD (ret (.val (.int 2))))))) (ret (.val (.int 2147483647))))))
def t_law_take_4 (cs : Calls) : Sm := (frzS 3 (asgS (setE 3) (binE .Mod (binE .Mult (binE .Add (binE .Add (varE 2) (ixE (pkE 0) (pkD (ret (.val (.int 2)))))) (binE .FloorDiv (ixE (pkE 0) (pkD (ret (.val (.int 1))))) (ret (.val (.int 1000003))))) (binE .Add (binE .Mod (varE 2) (ret (.val (.int 40009)))) (ret (.val (.int 7))))) (ret (.val (.int 2147483629))))))
def t_law_take_5 (cs : Calls) : Sm := (retS (binE .Mod (binE .FloorDiv (binE .Mod (binE .Add (binE .Mult (varE 3) (ret (.val (.int 48271)))) (varE 2)) (ret (.val (.int 2147483587)))) (ret (.val (.int 64)))) (varE 1)))
theorem z_law_take (cs : Calls) : s_law_take cs = (seqsS [t_law_take_0 cs, t_law_take_1 cs, t_law_take_2 cs, t_law_take_3 cs, t_law_take_4 cs, t_law_take_5 cs]) := rfl
def s_law_same (cs : Calls) : Sm := (seqsS [(ifS (truE (isaE ["list", "tuple"] (pkE 1))) (seqsS [(ifS (orT [(tb (cmpE .NotEq (pkD (isaE ["list"] (pkE 0))) (pkD (isaE ["list"] (pkE 1))))), (tb (cmpE .NotEq (pkD (isaE ["tuple"] (pkE 0))) (pkD (isaE ["tuple"] (pkE 1)))))]) (seqsS [(retS (ret (.val (.bool false))))]) (seqsS [])), (retS (andE [(cmpE .Eq (pkD (biC lenS [(pkE 0)])) (pkD (biC lenS [(pkE 1)]))), (biC allS [(pkD (lcE [2, 3] (bd (seqM [mD (varE 0), mD (varE 1)]) (zipM false)) (tupT 2 (tgsL [(setE 2), (setE 3)])) (ret true) (mD (fnC cs "_law_same" [argE (varE 2), argE (varE 3)]))))])]))]) (seqsS [])), (ifS (orT [(tb (cmpE .Is (pkE 1) (pkD (ret (.val .none))))), (truE (isaE ["bool", "str"] (pkE 1)))]) (seqsS [(retS (andE [(cmpE .Eq (pkE 0) (pkE 1)), (cmpE .Eq (pkD (isaE ["bool"] (pkE 0))) (pkD (isaE ["bool"] (pkE 1)))), (cmpE .Eq (pkD (cmpE .Is (pkE 0) (pkD (ret (.val .none))))) (pkD (cmpE .Is (pkE 1) (pkD (ret (.val .none))))))]))]) (seqsS [])), (retS (andE [(isaE ["int"] (pkE 0)), (notE (tb (isaE ["bool"] (pkE 0)))), (cmpE .Eq (pkE 0) (pkE 1))]))])
theorem e_law_same (cs : Calls) : bodyS mod cs f_law_same = s_law_same cs := by kernel_rfl
def t_law_same_0_0 (cs : Calls) : Sm := (ifS (orT [(tb (cmpE .NotEq (pkD (isaE ["list"] (pkE 0))) (pkD (isaE ["list"] (pkE 1))))), (tb (cmpE .NotEq (pkD (isaE ["tuple"] (pkE 0))) (pkD (isaE ["tuple"] (pkE 1)))))]) (seqsS [(retS (ret (.val (.bool false))))]) (seqsS []))
def t_law_same_0_1 (cs : Calls) : Sm := (retS (andE [(cmpE .Eq (pkD (biC lenS [(pkE 0)])) (pkD (biC lenS [(pkE 1)]))), (biC allS [(pkD (lcE [2, 3] (bd (seqM [mD (varE 0), mD (varE 1)]) (zipM false)) (tupT 2 (tgsL [(setE 2), (setE 3)])) (ret true) (mD (fnC cs "_law_same" [argE (varE 2), argE (varE 3)]))))])]))
def t_law_same_0 (cs : Calls) : Sm := (ifS (truE (isaE ["list", "tuple"] (pkE 1))) (seqsS [t_law_same_0_0 cs, t_law_same_0_1 cs]) (seqsS []))
def t_law_same_1 (cs : Calls) : Sm := (ifS (orT [(tb (cmpE .Is (pkE 1) (pkD (ret (.val .none))))), (truE (isaE ["bool", "str"] (pkE 1)))]) (seqsS [(retS (andE [(cmpE .Eq (pkE 0) (pkE 1)), (cmpE .Eq (pkD (isaE ["bool"] (pkE 0))) (pkD (isaE ["bool"] (pkE 1)))), (cmpE .Eq (pkD (cmpE .Is (pkE 0) (pkD (ret (.val .none))))) (pkD (cmpE .Is (pkE 1) (pkD (ret (.val .none))))))]))]) (seqsS []))
def t_law_same_2 (cs : Calls) : Sm := (retS (andE [(isaE ["int"] (pkE 0)), (notE (tb (isaE ["bool"] (pkE 0)))), (cmpE .Eq (pkE 0) (pkE 1))]))
theorem z_law_same (cs : Calls) : s_law_same cs = (seqsS [t_law_same_0 cs, t_law_same_1 cs, t_law_same_2 cs]) := rfl
def s_law_blown (cs : Calls) : Sm := (seqsS [(asgS (tupT 2 (tgsL [(setE 4), (setE 5)])) (varE 1)), (asgS (setE 2) (lstE [])), (forS (bd (seqM [mD (biC lenS [(pkE 0)])]) rangeM1) (setE 3) (seqsS [(ifS (tb (cmpE .Eq (pkE 4) (pkD (ret (.val (.str "cut")))))) (seqsS [(appS 2 (mD (biC minS [(pkD (lcE [6] (bd (seqM [mD (biC lenS [(pkE 0)])]) rangeM1) (setE 6) (ret true) (mD (binE .Add (ixE (pkE 0) (pkE 6)) (binE .Mult (varE 5) (biC absS [(pkD (binE .Sub (varE 3) (varE 6)))]))))))])))]) (seqsS [(appS 2 (mD (biC maxS [(pkD (lcE [6] (bd (seqM [mD (biC lenS [(pkE 0)])]) rangeM1) (setE 6) (ret true) (mD (binE .Sub (ixE (pkE 0) (pkE 6)) (binE .Mult (varE 5) (biC absS [(pkD (binE .Sub (varE 3) (varE 6)))]))))))])))]))])), (retS (biC tupleS [(pkE 2)]))])
theorem e_law_blown (cs : Calls) : bodyS mod cs f_law_blown = s_law_blown cs := by kernel_rfl
def t_law_blown_0 (cs : Calls) : Sm := (asgS (tupT 2 (tgsL [(setE 4), (setE 5)])) (varE 1))
def t_law_blown_1 (cs : Calls) : Sm := (asgS (setE 2) (lstE []))
def t_law_blown_2 (cs : Calls) : Sm := (forS (bd (seqM [mD (biC lenS [(pkE 0)])]) rangeM1) (setE 3) (seqsS [(ifS (tb (cmpE .Eq (pkE 4) (pkD (ret (.val (.str "cut")))))) (seqsS [(appS 2 (mD (biC minS [(pkD (lcE [6] (bd (seqM [mD (biC lenS [(pkE 0)])]) rangeM1) (setE 6) (ret true) (mD (binE .Add (ixE (pkE 0) (pkE 6)) (binE .Mult (varE 5) (biC absS [(pkD (binE .Sub (varE 3) (varE 6)))]))))))])))]) (seqsS [(appS 2 (mD (biC maxS [(pkD (lcE [6] (bd (seqM [mD (biC lenS [(pkE 0)])]) rangeM1) (setE 6) (ret true) (mD (binE .Sub (ixE (pkE 0) (pkE 6)) (binE .Mult (varE 5) (biC absS [(pkD (binE .Sub (varE 3) (varE 6)))]))))))])))]))]))
def t_law_blown_3 (cs : Calls) : Sm := (retS (biC tupleS [(pkE 2)]))
theorem z_law_blown (cs : Calls) : s_law_blown cs = (seqsS [t_law_blown_0 cs, t_law_blown_1 cs, t_law_blown_2 cs, t_law_blown_3 cs]) := rfl
def s_law_behind (cs : Calls) : Sm := (seqsS [(forS (bd (varE 1) seqT) (setE 2) (seqsS [(frzS 0 (asgS (setE 0) (fnC cs "_law_blown" [argE (varE 0), argE (varE 2)])))])), (retS (biC tupleS [(pkE 0)]))])
theorem e_law_behind (cs : Calls) : bodyS mod cs f_law_behind = s_law_behind cs := by kernel_rfl
def t_law_behind_0 (cs : Calls) : Sm := (forS (bd (varE 1) seqT) (setE 2) (seqsS [(frzS 0 (asgS (setE 0) (fnC cs "_law_blown" [argE (varE 0), argE (varE 2)])))]))
def t_law_behind_1 (cs : Calls) : Sm := (retS (biC tupleS [(pkE 0)]))
theorem z_law_behind (cs : Calls) : s_law_behind cs = (seqsS [t_law_behind_0 cs, t_law_behind_1 cs]) := rfl
def s_law_dune (cs : Calls) : Sm := (seqsS [(parS 4 5 (seqM [mD (binE .Add (ret (.val (.int 1))) (fnC cs "_law_take" [ioE 0, argE (varE 1)])), mD (ixE (pkD (lstE [mD (ret (.val (.int 2))), mD (ret (.val (.int 12))), mD (ret (.val (.int 60))), mD (binE .Pow (ret (.val (.int 10))) (ret (.val (.int 9))))])) (pkD (fnC cs "_law_take" [ioE 0, argE (ret (.val (.int 4)))])))])), (asgS (setE 2) (lstE [])), (forS (bd (seqM [mD (varE 4)]) rangeM1) (setE 3) (seqsS [(appS 2 (mD (ixE (pkD (lstE [mD (ret (.val (.int 0))), mD (varE 5), mD (binE .Sub (fnC cs "_law_take" [ioE 0, argE (binE .Add (binE .Mult (ret (.val (.int 2))) (varE 5)) (ret (.val (.int 1))))]) (varE 5)), mD (fnC cs "_law_take" [ioE 0, argE (binE .Add (varE 5) (ret (.val (.int 1))))])])) (pkD (fnC cs "_law_take" [ioE 0, argE (ret (.val (.int 4)))])))))])), (retS (biC tupleS [(pkE 2)]))])
theorem e_law_dune (cs : Calls) : bodyS mod cs f_law_dune = s_law_dune cs := by kernel_rfl
def t_law_dune_0 (cs : Calls) : Sm := (parS 4 5 (seqM [mD (binE .Add (ret (.val (.int 1))) (fnC cs "_law_take" [ioE 0, argE (varE 1)])), mD (ixE (pkD (lstE [mD (ret (.val (.int 2))), mD (ret (.val (.int 12))), mD (ret (.val (.int 60))), mD (binE .Pow (ret (.val (.int 10))) (ret (.val (.int 9))))])) (pkD (fnC cs "_law_take" [ioE 0, argE (ret (.val (.int 4)))])))]))
def t_law_dune_1 (cs : Calls) : Sm := (asgS (setE 2) (lstE []))
def t_law_dune_2 (cs : Calls) : Sm := (forS (bd (seqM [mD (varE 4)]) rangeM1) (setE 3) (seqsS [(appS 2 (mD (ixE (pkD (lstE [mD (ret (.val (.int 0))), mD (varE 5), mD (binE .Sub (fnC cs "_law_take" [ioE 0, argE (binE .Add (binE .Mult (ret (.val (.int 2))) (varE 5)) (ret (.val (.int 1))))]) (varE 5)), mD (fnC cs "_law_take" [ioE 0, argE (binE .Add (varE 5) (ret (.val (.int 1))))])])) (pkD (fnC cs "_law_take" [ioE 0, argE (ret (.val (.int 4)))])))))]))
def t_law_dune_3 (cs : Calls) : Sm := (retS (biC tupleS [(pkE 2)]))
theorem z_law_dune (cs : Calls) : s_law_dune cs = (seqsS [t_law_dune_0 cs, t_law_dune_1 cs, t_law_dune_2 cs, t_law_dune_3 cs]) := rfl
def s_law_slope (cs : Calls) : Sm := (seqsS [(retS (fnC cs "_law_take" [ioE 0, argE (ixE (pkD (lstE [mD (ret (.val (.int 4))), mD (ret (.val (.int 9))), mD (ret (.val (.int 40))), mD (binE .Pow (ret (.val (.int 10))) (ret (.val (.int 9))))])) (pkD (fnC cs "_law_take" [ioE 0, argE (ret (.val (.int 4)))])))]))])
theorem e_law_slope (cs : Calls) : bodyS mod cs f_law_slope = s_law_slope cs := by kernel_rfl
def s_law_books (cs : Calls) : Sm := (seqsS [(parO3 3 4 5 (seqM [kM true (lstE []), kM true (lstE []), kM false (fnC cs "_law_take" [ioE 0, argE (ret (.val (.int 4)))])])), (ifS (tb (cmpE .Eq (pkE 5) (pkD (ret (.val (.int 0)))))) (seqsS [(frzS 6 (asgS (setE 6) (binE .Add (ret (.val (.int 40))) (fnC cs "_law_take" [ioE 0, argE (ret (.val (.int 60)))])))), (forS (bd (seqM [mD (fnC cs "_law_take" [ioE 0, argE (binE .Add (binE .Mult (ret (.val (.int 2))) (varE 1)) (ret (.val (.int 1))))])]) rangeM1) (setE 7) (seqS ((pickApp 2 3 4 (mD (binE .Mod (binE .Add (varE 7) (binE .Mult (fnC cs "_law_take" [ioE 0, argE (ret (.val (.int 2)))]) (fnC cs "_law_take" [ioE 0, argE (ret (.val (.int 2)))]))) (ret (.val (.int 2))))) (mD (varE 6)))) (seqsS [(frzS 6 (asgS (setE 6) (biC maxS [(pkD (ret (.val (.int 0)))), (pkD (binE .Sub (binE .Sub (varE 6) (ret (.val (.int 1)))) (fnC cs "_law_take" [ioE 0, argE (ret (.val (.int 9)))])))])))]))), (retS (tupE [mD (slE (pkE 3) (partM none) (partM (some (varE 1)))), mD (slE (pkE 4) (partM none) (partM (some (varE 1))))]))]) (seqsS [])), (forAB 2 3 4 (bd (seqM [mD (fnC cs "_law_take" [ioE 0, argE (binE .Add (varE 1) (ret (.val (.int 1))))])]) rangeM1) (setE 7) (mD (iteE (tb (cmpE .Lt (pkE 5) (pkD (ret (.val (.int 3)))))) (fnC cs "_law_slope" [ioE 0]) (fnC cs "_law_take" [ioE 0, argE (ret (.val (.int 3)))])))), (retS (tupE [mD (varE 3), mD (varE 4)]))])
theorem e_law_books (cs : Calls) : bodyS mod cs f_law_books = s_law_books cs := by kernel_rfl
def t_law_books_0 (cs : Calls) : Sm := (parO3 3 4 5 (seqM [kM true (lstE []), kM true (lstE []), kM false (fnC cs "_law_take" [ioE 0, argE (ret (.val (.int 4)))])]))
def t_law_books_1_0 (cs : Calls) : Sm := (frzS 6 (asgS (setE 6) (binE .Add (ret (.val (.int 40))) (fnC cs "_law_take" [ioE 0, argE (ret (.val (.int 60)))]))))
def t_law_books_1_1_p (cs : Calls) : Sm := (pickApp 2 3 4 (mD (binE .Mod (binE .Add (varE 7) (binE .Mult (fnC cs "_law_take" [ioE 0, argE (ret (.val (.int 2)))]) (fnC cs "_law_take" [ioE 0, argE (ret (.val (.int 2)))]))) (ret (.val (.int 2))))) (mD (varE 6)))
def t_law_books_1_1 (cs : Calls) : Sm := (forS (bd (seqM [mD (fnC cs "_law_take" [ioE 0, argE (binE .Add (binE .Mult (ret (.val (.int 2))) (varE 1)) (ret (.val (.int 1))))])]) rangeM1) (setE 7) (seqS (t_law_books_1_1_p cs) (seqsS [(frzS 6 (asgS (setE 6) (biC maxS [(pkD (ret (.val (.int 0)))), (pkD (binE .Sub (binE .Sub (varE 6) (ret (.val (.int 1)))) (fnC cs "_law_take" [ioE 0, argE (ret (.val (.int 9)))])))])))])))
def t_law_books_1_2 (cs : Calls) : Sm := (retS (tupE [mD (slE (pkE 3) (partM none) (partM (some (varE 1)))), mD (slE (pkE 4) (partM none) (partM (some (varE 1))))]))
def t_law_books_1 (cs : Calls) : Sm := (ifS (tb (cmpE .Eq (pkE 5) (pkD (ret (.val (.int 0)))))) (seqsS [t_law_books_1_0 cs, t_law_books_1_1 cs, t_law_books_1_2 cs]) (seqsS []))
def t_law_books_2 (cs : Calls) : Sm := (forAB 2 3 4 (bd (seqM [mD (fnC cs "_law_take" [ioE 0, argE (binE .Add (varE 1) (ret (.val (.int 1))))])]) rangeM1) (setE 7) (mD (iteE (tb (cmpE .Lt (pkE 5) (pkD (ret (.val (.int 3)))))) (fnC cs "_law_slope" [ioE 0]) (fnC cs "_law_take" [ioE 0, argE (ret (.val (.int 3)))]))))
def t_law_books_3 (cs : Calls) : Sm := (retS (tupE [mD (varE 3), mD (varE 4)]))
theorem z_law_books (cs : Calls) : s_law_books cs = (seqsS [t_law_books_0 cs, t_law_books_1 cs, t_law_books_2 cs, t_law_books_3 cs]) := rfl
def s_law_almanac (cs : Calls) : Sm := (seqsS [(parO3 4 5 6 (seqM [kM true (biC listS [(pkE 0)]), kM true (biC listS [(pkE 1)]), kM true (lstE [])])), (forS (bd (varE 2) seqT) (setE 3) (seqsS [(appS 6 (mD (iteE (tb (cmpE .Eq (pkE 3) (pkD (ret (.val (.str "c")))))) (tupE [mD (ret (.val (.str "cut"))), mD (popE 4 (mD (ret (.val (.int 0)))))]) (tupE [mD (ret (.val (.str "fill"))), mD (popE 5 (mD (ret (.val (.int 0)))))]))))])), (retV 6)])
theorem e_law_almanac (cs : Calls) : bodyS mod cs f_law_almanac = s_law_almanac cs := by kernel_rfl
def t_law_almanac_0 (cs : Calls) : Sm := (parO3 4 5 6 (seqM [kM true (biC listS [(pkE 0)]), kM true (biC listS [(pkE 1)]), kM true (lstE [])]))
def t_law_almanac_1 (cs : Calls) : Sm := (forS (bd (varE 2) seqT) (setE 3) (seqsS [(appS 6 (mD (iteE (tb (cmpE .Eq (pkE 3) (pkD (ret (.val (.str "c")))))) (tupE [mD (ret (.val (.str "cut"))), mD (popE 4 (mD (ret (.val (.int 0)))))]) (tupE [mD (ret (.val (.str "fill"))), mD (popE 5 (mD (ret (.val (.int 0)))))]))))]))
def t_law_almanac_2 (cs : Calls) : Sm := (retV 6)
theorem z_law_almanac (cs : Calls) : s_law_almanac cs = (seqsS [t_law_almanac_0 cs, t_law_almanac_1 cs, t_law_almanac_2 cs]) := rfl
def s_law_order (cs : Calls) : Sm := (seqsS [(parO2 4 5 (seqM [kM true (binE .Add (binE .Mult (lstE [mD (ret (.val (.str "c")))]) (varE 1)) (binE .Mult (lstE [mD (ret (.val (.str "f")))]) (varE 2))), kM true (ret (.val (.str "")))])), (forS (bd (seqM [mD (binE .Add (varE 1) (varE 2))]) rangeM1) (setE 3) (seqsS [(asgS (setE 5) (binE .Add (varE 5) (popE 4 (mD (fnC cs "_law_take" [ioE 0, argE (biC lenS [(pkE 4)])])))))])), (retV 5)])
theorem e_law_order (cs : Calls) : bodyS mod cs f_law_order = s_law_order cs := by kernel_rfl
def t_law_order_0 (cs : Calls) : Sm := (parO2 4 5 (seqM [kM true (binE .Add (binE .Mult (lstE [mD (ret (.val (.str "c")))]) (varE 1)) (binE .Mult (lstE [mD (ret (.val (.str "f")))]) (varE 2))), kM true (ret (.val (.str "")))]))
def t_law_order_1 (cs : Calls) : Sm := (forS (bd (seqM [mD (binE .Add (varE 1) (varE 2))]) rangeM1) (setE 3) (seqsS [(asgS (setE 5) (binE .Add (varE 5) (popE 4 (mD (fnC cs "_law_take" [ioE 0, argE (biC lenS [(pkE 4)])])))))]))
def t_law_order_2 (cs : Calls) : Sm := (retV 5)
theorem z_law_order (cs : Calls) : s_law_order cs = (seqsS [t_law_order_0 cs, t_law_order_1 cs, t_law_order_2 cs]) := rfl
def s_law_has (cs : Calls) : Sm := (seqsS [(asgS (tupT 3 (tgsL [(setE 4), (setE 5), (setE 6)])) (varE 1)), (frzS 2 (asgS (setE 2) (lcE [7, 8] (bd (seqM [mD (varE 0)]) enumT) (tupT 2 (tgsL [(setE 7), (setE 8)])) (tb (cmpE .Eq (pkE 8) (pkD (ret (.val (.str "c")))))) (mD (varE 7))))), (frzS 3 (asgS (setE 3) (lcE [7, 8] (bd (seqM [mD (varE 0)]) enumT) (tupT 2 (tgsL [(setE 7), (setE 8)])) (tb (cmpE .Eq (pkE 8) (pkD (ret (.val (.str "f")))))) (mD (varE 7))))), (retS (cmpE .Eq (pkD (cmpE .Lt (pkD (ixE (pkE 2) (pkE 5))) (pkD (ixE (pkE 3) (pkE 6))))) (pkD (cmpE .Eq (pkE 4) (pkD (ret (.val (.str "cut"))))))))])
theorem e_law_has (cs : Calls) : bodyS mod cs f_law_has = s_law_has cs := by kernel_rfl
def t_law_has_0 (cs : Calls) : Sm := (asgS (tupT 3 (tgsL [(setE 4), (setE 5), (setE 6)])) (varE 1))
def t_law_has_1 (cs : Calls) : Sm := (frzS 2 (asgS (setE 2) (lcE [7, 8] (bd (seqM [mD (varE 0)]) enumT) (tupT 2 (tgsL [(setE 7), (setE 8)])) (tb (cmpE .Eq (pkE 8) (pkD (ret (.val (.str "c")))))) (mD (varE 7)))))
def t_law_has_2 (cs : Calls) : Sm := (frzS 3 (asgS (setE 3) (lcE [7, 8] (bd (seqM [mD (varE 0)]) enumT) (tupT 2 (tgsL [(setE 7), (setE 8)])) (tb (cmpE .Eq (pkE 8) (pkD (ret (.val (.str "f")))))) (mD (varE 7)))))
def t_law_has_3 (cs : Calls) : Sm := (retS (cmpE .Eq (pkD (cmpE .Lt (pkD (ixE (pkE 2) (pkE 5))) (pkD (ixE (pkE 3) (pkE 6))))) (pkD (cmpE .Eq (pkE 4) (pkD (ret (.val (.str "cut"))))))))
theorem z_law_has (cs : Calls) : s_law_has cs = (seqsS [t_law_has_0 cs, t_law_has_1 cs, t_law_has_2 cs, t_law_has_3 cs]) := rfl
def s_law_words (cs : Calls) : Sm := (seqsS [(parS 4 5 (seqM [mD (cntE 1 (mD (ret (.val (.str "c"))))), mD (cntE 1 (mD (ret (.val (.str "f")))))])), (parO2 6 7 (seqM [kM true (lstE []), kM false (cmpE .Eq (pkD (fnC cs "_law_take" [ioE 0, argE (ret (.val (.int 3)))])) (pkD (ret (.val (.int 0)))))])), (forS (bd (seqM [mD (binE .Mult (fnC cs "_law_take" [ioE 0, argE (binE .Add (varE 2) (ret (.val (.int 1))))]) (biC intS [(pkD (andE [(cmpE .Gt (pkE 4) (pkD (ret (.val (.int 0))))), (cmpE .Gt (pkE 5) (pkD (ret (.val (.int 0)))))]))]))]) rangeM1) (setE 3) (seqsS [(frzS 8 (asgS (setE 8) (tupE [mD (ret (.val (.str "cut"))), mD (fnC cs "_law_take" [ioE 0, argE (varE 4)]), mD (fnC cs "_law_take" [ioE 0, argE (varE 5)])]))), (ifS (orT [(notT (truE (fnC cs "_law_has" [argE (varE 1), argE (varE 8)]))), (andT [(truE (varE 7)), (tb (cmpE .Eq (pkD (fnC cs "_law_take" [ioE 0, argE (ret (.val (.int 4)))])) (pkD (ret (.val (.int 0))))))])]) (seqsS [(frzS 8 (asgS (setE 8) (tupE [mD (ret (.val (.str "fill"))), mD (ixE (pkE 8) (pkD (ret (.val (.int 1))))), mD (ixE (pkE 8) (pkD (ret (.val (.int 2)))))])))]) (seqsS [])), (appS 6 (mD (varE 8)))])), (retV 6)])
theorem e_law_words (cs : Calls) : bodyS mod cs f_law_words = s_law_words cs := by kernel_rfl
def t_law_words_0 (cs : Calls) : Sm := (parS 4 5 (seqM [mD (cntE 1 (mD (ret (.val (.str "c"))))), mD (cntE 1 (mD (ret (.val (.str "f")))))]))
def t_law_words_1 (cs : Calls) : Sm := (parO2 6 7 (seqM [kM true (lstE []), kM false (cmpE .Eq (pkD (fnC cs "_law_take" [ioE 0, argE (ret (.val (.int 3)))])) (pkD (ret (.val (.int 0)))))]))
def t_law_words_2_0 (cs : Calls) : Sm := (frzS 8 (asgS (setE 8) (tupE [mD (ret (.val (.str "cut"))), mD (fnC cs "_law_take" [ioE 0, argE (varE 4)]), mD (fnC cs "_law_take" [ioE 0, argE (varE 5)])])))
def t_law_words_2_1 (cs : Calls) : Sm := (ifS (orT [(notT (truE (fnC cs "_law_has" [argE (varE 1), argE (varE 8)]))), (andT [(truE (varE 7)), (tb (cmpE .Eq (pkD (fnC cs "_law_take" [ioE 0, argE (ret (.val (.int 4)))])) (pkD (ret (.val (.int 0))))))])]) (seqsS [(frzS 8 (asgS (setE 8) (tupE [mD (ret (.val (.str "fill"))), mD (ixE (pkE 8) (pkD (ret (.val (.int 1))))), mD (ixE (pkE 8) (pkD (ret (.val (.int 2)))))])))]) (seqsS []))
def t_law_words_2_2 (cs : Calls) : Sm := (appS 6 (mD (varE 8)))
def t_law_words_2 (cs : Calls) : Sm := (forS (bd (seqM [mD (binE .Mult (fnC cs "_law_take" [ioE 0, argE (binE .Add (varE 2) (ret (.val (.int 1))))]) (biC intS [(pkD (andE [(cmpE .Gt (pkE 4) (pkD (ret (.val (.int 0))))), (cmpE .Gt (pkE 5) (pkD (ret (.val (.int 0)))))]))]))]) rangeM1) (setE 3) (seqsS [t_law_words_2_0 cs, t_law_words_2_1 cs, t_law_words_2_2 cs]))
def t_law_words_3 (cs : Calls) : Sm := (retV 6)
theorem z_law_words (cs : Calls) : s_law_words cs = (seqsS [t_law_words_0 cs, t_law_words_1 cs, t_law_words_2 cs, t_law_words_3 cs]) := rfl
def s_law_below (cs : Calls) : Sm := (seqsS [(retS (biC allS [(pkD (lcE [2, 3] (bd (seqM [mD (varE 0), mD (varE 1)]) (zipM false)) (tupT 2 (tgsL [(setE 2), (setE 3)])) (ret true) (mD (cmpE .LtE (pkE 2) (pkE 3)))))]))])
theorem e_law_below (cs : Calls) : bodyS mod cs f_law_below = s_law_below cs := by kernel_rfl
def s_law_exchanged (cs : Calls) : Sm := (seqsS [(retS (lcE [1, 2, 3] (bd (varE 0) seqT) (tupT 3 (tgsL [(setE 1), (setE 2), (setE 3)])) (ret true) (mD (tupE [mD (dctE "cut" "fill" "fill" "cut" (mD (varE 1))), mD (varE 3), mD (varE 2)]))))])
theorem e_law_exchanged (cs : Calls) : bodyS mod cs f_law_exchanged = s_law_exchanged cs := by kernel_rfl
def s_law_idle_out (cs : Calls) : Sm := (seqsS [(retS (lcE [2, 3] (bd (seqM [mD (varE 0)]) enumT) (tupT 2 (tgsL [(setE 2), (setE 3)])) (truE (biC allS [(pkD (lcE [4] (bd (slE (pkE 0) (partM none) (partM (some (varE 2)))) seqT) (setE 4) (ret true) (mD (cmpE .Lt (pkE 3) (pkE 4)))))])) (mD (binE .Mult (varE 1) (varE 3)))))])
theorem e_law_idle_out (cs : Calls) : bodyS mod cs f_law_idle_out = s_law_idle_out cs := by kernel_rfl
def s_law_right (cs : Calls) : Sm := (seqsS [(asgS (tupT 2 (tgsL [(setE 11), (setE 12)])) (fnC cs "_law_books" [ioE 0, argE (ret (.val (.int 12)))])), (asgS (tupT 2 (tgsL [(setE 13), (setE 14)])) (tupE [mD (fnC cs "_law_dune" [ioE 0, argE (ret (.val (.int 12)))]), mD (fnC cs "_law_order" [ioE 0, argE (biC lenS [(pkE 11)]), argE (biC lenS [(pkE 12)])])])), (frzS 1 (asgS (setE 1) (lcE [20] (bd (fnC cs "_law_words" [ioE 0, argE (varE 14), argE (ret (.val (.int 20)))]) seqT) (setE 20) (truE (fnC cs "_law_has" [argE (varE 14), argE (varE 20)])) (mD (varE 20))))), (asgS (tupT 2 (tgsL [(setE 15), (setE 16)])) (fnC cs "may_stand" [argE (varE 13), argE (varE 11), argE (varE 12), argE (varE 1)])), (frzS 2 (asgS (setE 2) (fnC cs "orders_many" [argE (varE 11), argE (varE 12), argE (varE 1)]))), (frzS 3 (asgS (setE 3) (binE .Add (lcE [23] (bd (seqM [mD (ret (.val (.int 12)))]) rangeM1) (setE 23) (ret true) (mD (fnC cs "order_at" [argE (varE 11), argE (varE 12), argE (varE 1), argE (fnC cs "_law_take" [ioE 0, argE (varE 2)])]))) (lstE [mD (varE 14)])))), (forS (bd (varE 3) seqT) (setE 4) (seqsS [(frzS 17 (asgS (setE 17) (fnC cs "_law_behind" [argE (varE 13), argE (fnC cs "_law_almanac" [argE (varE 11), argE (varE 12), argE (varE 4)])]))), (ifS (orT [(notT (truE (fnC cs "_law_below" [argE (varE 15), argE (varE 17)]))), (notT (truE (fnC cs "_law_below" [argE (varE 17), argE (varE 16)])))]) (seqsS [(retS (ret (.val (.bool false))))]) (seqsS []))])), (frzS 5 (asgS (setE 5) (fnC cs "may_stand" [argE (fnC cs "upside" [argE (varE 13)]), argE (varE 12), argE (varE 11), argE (fnC cs "_law_exchanged" [argE (varE 1)])]))), (ifS (notT (truE (fnC cs "_law_same" [argE (varE 5), argE (tupE [mD (fnC cs "upside" [argE (varE 16)]), mD (fnC cs "upside" [argE (varE 15)])])]))) (seqsS [(retS (ret (.val (.bool false))))]) (seqsS [])), (frzS 6 (asgS (setE 6) (binE .Sub (fnC cs "_law_take" [ioE 0, argE (ret (.val (.int 99)))]) (ret (.val (.int 49)))))), (ifS (notT (truE (fnC cs "_law_same" [argE (fnC cs "may_stand" [argE (fnC cs "mirrored" [argE (varE 13)]), argE (varE 11), argE (varE 12), argE (varE 1)]), argE (tupE [mD (fnC cs "mirrored" [argE (varE 15)]), mD (fnC cs "mirrored" [argE (varE 16)])])]))) (seqsS [(retS (ret (.val (.bool false))))]) (seqsS [])), (ifS (notT (truE (fnC cs "_law_same" [argE (fnC cs "may_stand" [argE (fnC cs "raised" [argE (varE 13), argE (varE 6)]), argE (varE 11), argE (varE 12), argE (varE 1)]), argE (tupE [mD (fnC cs "raised" [argE (varE 15), argE (varE 6)]), mD (fnC cs "raised" [argE (varE 16), argE (varE 6)])])]))) (seqsS [(retS (ret (.val (.bool false))))]) (seqsS [])), (frzS 7 (asgS (setE 7) (biC tupleS [(pkD (lcE [24] (bd (varE 13) seqT) (setE 24) (ret true) (mD (binE .Mod (varE 24) (binE .Pow (ret (.val (.int 10))) (ret (.val (.int 6))))))))]))), (asgS (tupT 2 (tgsL [(setE 18), (setE 19)])) (lcE [21] (bd (tupE [mD (varE 11), mD (varE 12)]) seqT) (setE 21) (ret true) (mD (lcE [25] (bd (varE 21) seqT) (setE 25) (ret true) (mD (binE .Mod (varE 25) (binE .Pow (ret (.val (.int 10))) (ret (.val (.int 6)))))))))), (frzS 8 (asgS (setE 8) (biC tupleS [(pkD (lcE [24] (bd (varE 7) seqT) (setE 24) (ret true) (mD (binE .Mult (varE 24) (ret (.val (.int 7)))))))]))), (frzS 9 (asgS (setE 9) (lcE [22] (bd (fnC cs "may_stand" [argE (varE 7), argE (varE 18), argE (varE 19), argE (varE 1)]) seqT) (setE 22) (ret true) (mD (biC tupleS [(pkD (lcE [24] (bd (varE 22) seqT) (setE 24) (ret true) (mD (binE .Mult (varE 24) (ret (.val (.int 7)))))))]))))), (ifS (notT (truE (fnC cs "_law_same" [argE (biC listS [(pkD (fnC cs "may_stand" [argE (varE 8), argE (lcE [25] (bd (varE 18) seqT) (setE 25) (ret true) (mD (binE .Mult (varE 25) (ret (.val (.int 7)))))), argE (lcE [25] (bd (varE 19) seqT) (setE 25) (ret true) (mD (binE .Mult (varE 25) (ret (.val (.int 7)))))), argE (varE 1)]))]), argE (varE 9)]))) (seqsS [(retS (ret (.val (.bool false))))]) (seqsS [])), (frzS 10 (asgS (setE 10) (fnC cs "may_stand" [argE (varE 13), argE (varE 11), argE (varE 12), argE (lstE [])]))), (retS (fnC cs "_law_same" [argE (fnC cs "may_stand" [argE (varE 13), argE (fnC cs "_law_idle_out" [argE (varE 11), argE (ret (.val (.int 1)))]), argE (fnC cs "_law_idle_out" [argE (varE 12), argE (ret (.val (.int 1)))]), argE (lstE [])]), argE (varE 10)]))])
theorem e_law_right (cs : Calls) : bodyS mod cs f_law_right = s_law_right cs := by kernel_rfl
def t_law_right_0 (cs : Calls) : Sm := (asgS (tupT 2 (tgsL [(setE 11), (setE 12)])) (fnC cs "_law_books" [ioE 0, argE (ret (.val (.int 12)))]))
def t_law_right_1 (cs : Calls) : Sm := (asgS (tupT 2 (tgsL [(setE 13), (setE 14)])) (tupE [mD (fnC cs "_law_dune" [ioE 0, argE (ret (.val (.int 12)))]), mD (fnC cs "_law_order" [ioE 0, argE (biC lenS [(pkE 11)]), argE (biC lenS [(pkE 12)])])]))
def t_law_right_2 (cs : Calls) : Sm := (frzS 1 (asgS (setE 1) (lcE [20] (bd (fnC cs "_law_words" [ioE 0, argE (varE 14), argE (ret (.val (.int 20)))]) seqT) (setE 20) (truE (fnC cs "_law_has" [argE (varE 14), argE (varE 20)])) (mD (varE 20)))))
def t_law_right_3 (cs : Calls) : Sm := (asgS (tupT 2 (tgsL [(setE 15), (setE 16)])) (fnC cs "may_stand" [argE (varE 13), argE (varE 11), argE (varE 12), argE (varE 1)]))
def t_law_right_4 (cs : Calls) : Sm := (frzS 2 (asgS (setE 2) (fnC cs "orders_many" [argE (varE 11), argE (varE 12), argE (varE 1)])))
def t_law_right_5 (cs : Calls) : Sm := (frzS 3 (asgS (setE 3) (binE .Add (lcE [23] (bd (seqM [mD (ret (.val (.int 12)))]) rangeM1) (setE 23) (ret true) (mD (fnC cs "order_at" [argE (varE 11), argE (varE 12), argE (varE 1), argE (fnC cs "_law_take" [ioE 0, argE (varE 2)])]))) (lstE [mD (varE 14)]))))
def t_law_right_6_0 (cs : Calls) : Sm := (frzS 17 (asgS (setE 17) (fnC cs "_law_behind" [argE (varE 13), argE (fnC cs "_law_almanac" [argE (varE 11), argE (varE 12), argE (varE 4)])])))
def t_law_right_6_1 (cs : Calls) : Sm := (ifS (orT [(notT (truE (fnC cs "_law_below" [argE (varE 15), argE (varE 17)]))), (notT (truE (fnC cs "_law_below" [argE (varE 17), argE (varE 16)])))]) (seqsS [(retS (ret (.val (.bool false))))]) (seqsS []))
def t_law_right_6 (cs : Calls) : Sm := (forS (bd (varE 3) seqT) (setE 4) (seqsS [t_law_right_6_0 cs, t_law_right_6_1 cs]))
def t_law_right_7 (cs : Calls) : Sm := (frzS 5 (asgS (setE 5) (fnC cs "may_stand" [argE (fnC cs "upside" [argE (varE 13)]), argE (varE 12), argE (varE 11), argE (fnC cs "_law_exchanged" [argE (varE 1)])])))
def t_law_right_8 (cs : Calls) : Sm := (ifS (notT (truE (fnC cs "_law_same" [argE (varE 5), argE (tupE [mD (fnC cs "upside" [argE (varE 16)]), mD (fnC cs "upside" [argE (varE 15)])])]))) (seqsS [(retS (ret (.val (.bool false))))]) (seqsS []))
def t_law_right_9 (cs : Calls) : Sm := (frzS 6 (asgS (setE 6) (binE .Sub (fnC cs "_law_take" [ioE 0, argE (ret (.val (.int 99)))]) (ret (.val (.int 49))))))
def t_law_right_10 (cs : Calls) : Sm := (ifS (notT (truE (fnC cs "_law_same" [argE (fnC cs "may_stand" [argE (fnC cs "mirrored" [argE (varE 13)]), argE (varE 11), argE (varE 12), argE (varE 1)]), argE (tupE [mD (fnC cs "mirrored" [argE (varE 15)]), mD (fnC cs "mirrored" [argE (varE 16)])])]))) (seqsS [(retS (ret (.val (.bool false))))]) (seqsS []))
def t_law_right_11 (cs : Calls) : Sm := (ifS (notT (truE (fnC cs "_law_same" [argE (fnC cs "may_stand" [argE (fnC cs "raised" [argE (varE 13), argE (varE 6)]), argE (varE 11), argE (varE 12), argE (varE 1)]), argE (tupE [mD (fnC cs "raised" [argE (varE 15), argE (varE 6)]), mD (fnC cs "raised" [argE (varE 16), argE (varE 6)])])]))) (seqsS [(retS (ret (.val (.bool false))))]) (seqsS []))
def t_law_right_12 (cs : Calls) : Sm := (frzS 7 (asgS (setE 7) (biC tupleS [(pkD (lcE [24] (bd (varE 13) seqT) (setE 24) (ret true) (mD (binE .Mod (varE 24) (binE .Pow (ret (.val (.int 10))) (ret (.val (.int 6))))))))])))
def t_law_right_13 (cs : Calls) : Sm := (asgS (tupT 2 (tgsL [(setE 18), (setE 19)])) (lcE [21] (bd (tupE [mD (varE 11), mD (varE 12)]) seqT) (setE 21) (ret true) (mD (lcE [25] (bd (varE 21) seqT) (setE 25) (ret true) (mD (binE .Mod (varE 25) (binE .Pow (ret (.val (.int 10))) (ret (.val (.int 6))))))))))
def t_law_right_14 (cs : Calls) : Sm := (frzS 8 (asgS (setE 8) (biC tupleS [(pkD (lcE [24] (bd (varE 7) seqT) (setE 24) (ret true) (mD (binE .Mult (varE 24) (ret (.val (.int 7)))))))])))
def t_law_right_15 (cs : Calls) : Sm := (frzS 9 (asgS (setE 9) (lcE [22] (bd (fnC cs "may_stand" [argE (varE 7), argE (varE 18), argE (varE 19), argE (varE 1)]) seqT) (setE 22) (ret true) (mD (biC tupleS [(pkD (lcE [24] (bd (varE 22) seqT) (setE 24) (ret true) (mD (binE .Mult (varE 24) (ret (.val (.int 7)))))))])))))
def t_law_right_16 (cs : Calls) : Sm := (ifS (notT (truE (fnC cs "_law_same" [argE (biC listS [(pkD (fnC cs "may_stand" [argE (varE 8), argE (lcE [25] (bd (varE 18) seqT) (setE 25) (ret true) (mD (binE .Mult (varE 25) (ret (.val (.int 7)))))), argE (lcE [25] (bd (varE 19) seqT) (setE 25) (ret true) (mD (binE .Mult (varE 25) (ret (.val (.int 7)))))), argE (varE 1)]))]), argE (varE 9)]))) (seqsS [(retS (ret (.val (.bool false))))]) (seqsS []))
def t_law_right_17 (cs : Calls) : Sm := (frzS 10 (asgS (setE 10) (fnC cs "may_stand" [argE (varE 13), argE (varE 11), argE (varE 12), argE (lstE [])])))
def t_law_right_18 (cs : Calls) : Sm := (retS (fnC cs "_law_same" [argE (fnC cs "may_stand" [argE (varE 13), argE (fnC cs "_law_idle_out" [argE (varE 11), argE (ret (.val (.int 1)))]), argE (fnC cs "_law_idle_out" [argE (varE 12), argE (ret (.val (.int 1)))]), argE (lstE [])]), argE (varE 10)]))
theorem z_law_right (cs : Calls) : s_law_right cs = (seqsS [t_law_right_0 cs, t_law_right_1 cs, t_law_right_2 cs, t_law_right_3 cs, t_law_right_4 cs, t_law_right_5 cs, t_law_right_6 cs, t_law_right_7 cs, t_law_right_8 cs, t_law_right_9 cs, t_law_right_10 cs, t_law_right_11 cs, t_law_right_12 cs, t_law_right_13 cs, t_law_right_14 cs, t_law_right_15 cs, t_law_right_16 cs, t_law_right_17 cs, t_law_right_18 cs]) := rfl
def s_law (cs : Calls) : Sm := (seqsS [(forS (bd (seqM [mD (binE .Add (ret (.val (.int 1))) (biC minS [(pkD (ret (.val (.int 2)))), (pkD (biC lenS [(pkE 0)]))]))]) rangeM1) (setE 1) (seqsS [(asgS (setE 2) (fnC cs "_law_box" [argE (varE 0), argE (varE 1)])), (ifS (notT (truE (biC allS [(pkD (lcE [3] (bd (seqM [mD (ret (.val (.int 2)))]) rangeM1) (setE 3) (ret true) (mD (fnC cs "_law_right" [ioE 2]))))]))) (seqsS [(retS (ret (.val (.bool false))))]) (seqsS []))])), (retS (ret (.val (.bool true))))])
theorem e_law (cs : Calls) : bodyS mod cs f_law = s_law cs := by kernel_rfl
def t_law_0_0 (cs : Calls) : Sm := (asgS (setE 2) (fnC cs "_law_box" [argE (varE 0), argE (varE 1)]))
def t_law_0_1 (cs : Calls) : Sm := (ifS (notT (truE (biC allS [(pkD (lcE [3] (bd (seqM [mD (ret (.val (.int 2)))]) rangeM1) (setE 3) (ret true) (mD (fnC cs "_law_right" [ioE 2]))))]))) (seqsS [(retS (ret (.val (.bool false))))]) (seqsS []))
def t_law_0 (cs : Calls) : Sm := (forS (bd (seqM [mD (binE .Add (ret (.val (.int 1))) (biC minS [(pkD (ret (.val (.int 2)))), (pkD (biC lenS [(pkE 0)]))]))]) rangeM1) (setE 1) (seqsS [t_law_0_0 cs, t_law_0_1 cs]))
def t_law_1 (cs : Calls) : Sm := (retS (ret (.val (.bool true))))
theorem z_law (cs : Calls) : s_law cs = (seqsS [t_law_0 cs, t_law_1 cs]) := rfl
end
end LK

namespace LK
open PySem PySem.W PySem.Spec PyProof.Rows L2 DL
/-! ### words for data -/
abbrev IT (ns : List Int) : D := .tuple (ns.map .int)
abbrev IL (ns : List Int) : D := .list (ns.map .int)
abbrev WD (w : Bool × Int) : D := .tuple [.str (if w.1 then "cut" else "fill"), .int w.2]
abbrev WL (ws : List (Bool × Int)) : D := .list (ws.map WD)
theorem cmp_cut (b : Bool) : cmpS .Eq [.str (if b then "cut" else "fill"), .str "cut"] = some (.val (.bool b)) := by
  cases b with
  | false =>
    refine (cmp_eqS' (neg := false) (x := "fill") (y := "cut") (by decide +kernel) (by decide +kernel)).trans ?_
    rw [show ng false (("fill" : Str) == "cut") = false from by decide +kernel]
  | true =>
    refine (cmp_eqS' (neg := false) (x := "cut") (y := "cut") (by decide +kernel) (by decide +kernel)).trans ?_
    rw [show ng false (("cut" : Str) == "cut") = true from by decide +kernel]
theorem cmp_cutN (b : Bool) : cmpS .NotEq [.str (if b then "cut" else "fill"), .str "cut"] = some (.val (.bool !b)) := by
  cases b with
  | false =>
    refine (cmp_eqS' (neg := true) (x := "fill") (y := "cut") (by decide +kernel) (by decide +kernel)).trans ?_
    rw [show ng true (("fill" : Str) == "cut") = true from by decide +kernel]
    rfl
  | true =>
    refine (cmp_eqS' (neg := true) (x := "cut") (y := "cut") (by decide +kernel) (by decide +kernel)).trans ?_
    rw [show ng true (("cut" : Str) == "cut") = false from by decide +kernel]
    rfl
theorem cmp_fill (b : Bool) : cmpS .Eq [.str (if b then "cut" else "fill"), .str "fill"] = some (.val (.bool !b)) := by
  cases b with
  | false =>
    refine (cmp_eqS' (neg := false) (x := "fill") (y := "fill") (by decide +kernel) (by decide +kernel)).trans ?_
    rw [show ng false (("fill" : Str) == "fill") = true from by decide +kernel]
    rfl
  | true =>
    refine (cmp_eqS' (neg := false) (x := "cut") (y := "fill") (by decide +kernel) (by decide +kernel)).trans ?_
    rw [show ng false (("cut" : Str) == "fill") = false from by decide +kernel]
    rfl
/-! ### cut_once, cut_down, upside, blown -/
theorem cut_loop {d : D} {s : Int} {Q : Out → Prop} {ns : List Int} {acc : List D} {p : Int} {o : Option B} (ha : acc.getLast? = some (.int p)) (hc : acc.length + ns.length < cap)
    (q : ∀ o, Q (.nx [some (.val d), some (.val (.int s)), some (.lst (acc ++ (cutO s p ns).map .int)), o])) :
    EvS (loopS (setE 3) (seqsS [(appS 2 (mD (biC minS [(pkE 3), (pkD (binE .Add (ixE (pkE 2) (pkD (negE (mD (ret (.val (.int 1))))))) (varE 1)))])))]) (ns.map .int)) [some (.val d), some (.val (.int s)), some (.lst acc), o] Q := by
  refine EvS_loop (fun ds e => ∃ (ns : List Int) (acc : List D) (p : Int) (o : Option B), ds = ns.map .int ∧ e = [some (.val d), some (.val (.int s)), some (.lst acc), o] ∧ acc.getLast? = some (.int p) ∧ acc.length + ns.length < cap ∧
      (∀ o, Q (.nx [some (.val d), some (.val (.int s)), some (.lst (acc ++ (cutO s p ns).map .int)), o]))) ⟨_, _, p, o, rfl, rfl, ha, hc, q⟩ ?_ ?_
  · rintro d1 ds e ⟨ns, acc, p, o, hd, rfl, ha, hc, q⟩
    cases ns with
    | nil => cases hd
    | cons h t =>
      cases hd
      simp at hc
      simp [ha]
      refine ⟨by omega, t, rfl, by omega, fun o => ?_⟩
      have := q o
      unfold cutO at this
      simpa using this
  · rintro e ⟨ns, acc, p, o, hd, rfl, ha, hc, q⟩
    cases ns with
    | nil => simpa [cutO] using q o
    | cons h t => cases hd
theorem cut_once_ok {k : Nat} {ns : List Int} {s : Int} {d : D} (hd : d = IT ns ∨ d = IL ns) (hc : ns.length < cap) : EvF (fnSem mod (k + 1)) "cut_once" [.val d, .val (.int s)] fun r _ => r = .lst ((cut1 s ns).map .int) := by
  refine EvF_fn (f := f_cut_once) (by kernel_rfl) (e_cut_once _) rfl (show EvS (s_cut_once _) [some (.val d), some (.val (.int s)), none, none] _ from ?_)
  have main : ∀ d : D, EvS (loopS (setE 3) (seqsS [(appS 2 (mD (biC minS [(pkE 3), (pkD (binE .Add (ixE (pkE 2) (pkD (negE (mD (ret (.val (.int 1))))))) (varE 1)))])))]) (List.map PyData.int ns).tail)
    [some (.val d), some (.val (.int s)), some (.lst (List.take 1 (List.map PyData.int ns))), none] (thenS [retV 2] (fnEnd f_cut_once fun r _ => r = .lst ((cut1 s ns).map .int))) := fun d => by
    cases ns with
    | nil => exact ⟨_, rfl, by simp [cut1]⟩
    | cons h t =>
      simp at hc
      exact cut_loop (ns := t) (p := h) rfl (by simp; omega) fun o => by simp [cut1]
  rcases hd with rfl | rfl
  · simp [s_cut_once]
    exact main _
  · simp [s_cut_once]
    exact main _
theorem upside_ok {k : Nat} {ns : List Int} (hc : ns.length < cap) : EvF (fnSem mod (k + 1)) "upside" [.val (IT ns)] fun r _ => r = .val (IT (ns.map fun i => -i)) := by
  refine EvF_fn (f := f_upside) (by kernel_rfl) (e_upside _) rfl (show EvS (s_upside _) [some (.val (IT ns)), none] _ from ?_)
  simp [s_upside]
  refine Ev_lc_pure (fun d => match d with | .int i => .int (-i) | d => d) ?_
  simp [wipeE]
  omega
theorem cut_down_ok {k : Nat} {ns : List Int} {s : Int} (hc : ns.length < cap) : EvF (fnSem mod (k + 2)) "cut_down" [.val (IT ns), .val (.int s)] fun r _ => r = .val (IT (cutD s ns)) := by
  refine EvF_fn (f := f_cut_down) (by kernel_rfl) (e_cut_down _) rfl (show EvS (s_cut_down _) [some (.val (IT ns)), some (.val (.int s)), none, none] _ from ?_)
  simp [s_cut_down]
  refine (cut_once_ok (.inl rfl) hc).mono ?_
  rintro r _ rfl
  simp
  rw [← List.map_reverse]
  refine (cut_once_ok (.inr rfl) (by simpa using hc)).mono ?_
  rintro r _ rfl
  simp [cutD]
theorem blown_ok {k : Nat} {ns : List Int} {w : Bool × Int} (hc : ns.length < cap) : EvF (fnSem mod (k + 3)) "blown" [.val (IT ns), .val (WD w)] fun r _ => r = .val (IT (blow w ns)) := by
  refine EvF_fn (f := f_blown) (by kernel_rfl) (e_blown _) rfl (show EvS (s_blown _) [some (.val (IT ns)), some (.val (WD w)), none, none] _ from ?_)
  obtain ⟨b, s⟩ := w
  simp [s_blown, cmp_cut]
  rw [Ev_ifM]
  cases b with
  | true =>
    simp
    refine (cut_down_ok hc).mono ?_
    rintro r _ rfl
    simp [blow]
  | false =>
    simp
    refine (upside_ok hc).mono ?_
    rintro r _ rfl
    simp
    refine (cut_down_ok (by simpa using hc)).mono ?_
    rintro r _ rfl
    simp
    refine (upside_ok (by simpa using hc)).mono ?_
    rintro r _ rfl
    simp [blow]
end LK

namespace LK
open PySem PySem.W PySem.Spec PyProof.Rows L2 DL
/-! ### dunes_of, behind -/
theorem dunes_ok {k : Nat} {ns : List Int} {ws : List (Bool × Int)} (hc : ns.length < cap) (hw : ws.length + 2 < cap) : EvF (fnSem mod (k + 4)) "dunes_of" [.val (IT ns), .val (.list (ws.map WD))] fun r _ => r = .lst ((dunes ns ws).map IT) := by
  refine EvF_fn (f := f_dunes_of) (by kernel_rfl) (e_dunes_of _) rfl (show EvS (s_dunes_of _) [some (.val (IT ns)), some (.val (.list (ws.map WD))), none, none] _ from ?_)
  simp [s_dunes_of, show (1 : Nat) ≤ cap from by decide]
  refine EvS_loop (fun ds e => ∃ (ws' : List (Bool × Int)) (acc : List (List Int)) (p : List Int) (o : Option B), ds = ws'.map WD ∧ e = [some (.val (IT ns)), some (.val (.list (ws.map WD))), some (.lst (acc.map IT ++ [IT p])), o] ∧ p.length = ns.length ∧ acc.length + ws'.length < cap ∧ acc ++ dunes p ws' = dunes ns ws)
    ⟨ws, [], ns, none, rfl, rfl, rfl, by simp; omega, rfl⟩ ?_ ?_
  · rintro d ds e ⟨ws', acc, p, o, hd, rfl, hp, hc2, he⟩
    cases ws' with
    | nil => cases hd
    | cons w ws' =>
      cases hd
      simp at hc2
      simp
      refine (blown_ok (by omega)).mono ?_
      rintro r _ rfl
      simp
      refine ⟨by omega, ws', rfl, acc ++ [p], blow w p, by simp, ?_, by simp; omega, ?_⟩
      · simp [hp]
      · rw [← he]
        simp [dunes]
  · rintro e ⟨ws', acc, p, o, hd, rfl, hp, hc2, he⟩
    cases ws' with
    | nil =>
      simp
      rw [← he]
      simp [dunes]
    | cons h t => cases hd
end LK

namespace LK
open PySem PySem.W PySem.Spec PyProof.Rows L2 DL
theorem behind_ok {k : Nat} {ns : List Int} {ws : List (Bool × Int)} (hc : ns.length < cap) (hw : ws.length + 2 < cap) : EvF (fnSem mod (k + 5)) "behind" [.val (IT ns), .val (.list (ws.map WD))] fun r _ => r = .val (IT (behind ns ws)) := by
  refine EvF_fn (f := f_behind) (by kernel_rfl) (e_behind _) rfl (show EvS (s_behind _) [some (.val (IT ns)), some (.val (.list (ws.map WD)))] _ from ?_)
  simp [s_behind]
  refine (dunes_ok hc hw).mono ?_
  rintro r _ rfl
  simp [dunes_last]
theorem behind_eq {k : Nat} {ns : List Int} {ws : List (Bool × Int)} {Q : B → Prop} (hc : ns.length < cap) (hw : ws.length + 2 < cap) : EvF (fnSem mod (k + 5)) "behind" [.val (IT ns), .val (.list (ws.map WD))] (fun r _ => Q r) = Q (.val (IT (behind ns ws))) := EvF_eq (behind_ok hc hw)
end LK

namespace LK
open PySem PySem.W PySem.Spec PyProof.Rows L2 DL
/-! ### what is drawn -/
structure BoxP (n : Nat) (b0 b1 b2 : Int) : Prop where
  g0 : 0 ≤ b0
  g1 : 0 ≤ b1
  g2 : b1 < 2 ^ 62
  g3 : 0 ≤ b2
  g4 : b2 ≤ n
abbrev BL (b0 b1 b2 : Int) : B := .lst [.int b0, .int b1, .int b2]
def Box (n : Nat) (b : B) : Prop := ∃ b0 b1 b2 : Int, b = BL b0 b1 b2 ∧ BoxP n b0 b1 b2
theorem BoxP.mono {n m : Nat} {b0 b1 b2 : Int} (h : BoxP n b0 b1 b2) (l : n ≤ m) : BoxP m b0 b1 b2 := ⟨h.g0, h.g1, h.g2, h.g3, by have := h.g4; omega⟩
theorem BoxP.box {n m : Nat} {b0 b1 b2 : Int} (h : BoxP n b0 b1 b2) (l : n ≤ m) : Box m (BL b0 b1 b2) := ⟨b0, b1, b2, rfl, h.mono l⟩
theorem mul_small {i j : Int} (h : -(2 ^ 64) < j) (h2 : j < 2 ^ 64) : mulOk i j = true := by
  unfold mulOk
  rw [Bool.or_eq_true, Bool.and_eq_true, Bool.and_eq_true, decide_eq_true_eq, decide_eq_true_eq, decide_eq_true_eq, decide_eq_true_eq]
  exact .inr ⟨h, h2⟩
theorem mul_small' {i j : Int} (h : -(2 ^ 64) < i) (h2 : i < 2 ^ 64) : mulOk i j = true := by
  unfold mulOk
  rw [Bool.or_eq_true, Bool.and_eq_true, Bool.and_eq_true, decide_eq_true_eq, decide_eq_true_eq, decide_eq_true_eq, decide_eq_true_eq]
  exact .inl ⟨h, h2⟩
theorem take_tail {k n : Nat} {b0 b1 b2 size : Int} {Q : B → List (Option B) → Prop} (hb : BoxP n b0 b1 b2) (hn : n < 2 ^ 40) (h1 : 1 ≤ size)
    (q : ∀ v c0 c1 c2 : Int, 0 ≤ v → v < size → BoxP (n + 1) c0 c1 c2 → Q (.val (.int v)) [some (BL c0 c1 c2), none]) :
    EvS (seqsS [t_law_take_2 (fnSem mod k), t_law_take_3 (fnSem mod k), t_law_take_4 (fnSem mod k), t_law_take_5 (fnSem mod k)]) [some (.lst [.int b0, .int b1, .int b2]), some (.val (.int size)), none, none, none] (fnEnd f_law_take Q) := by
  obtain ⟨g0, g1, g2, g3, g4⟩ := hb
  have q1 : 0 < size := by omega
  have e1 := Int.emod_nonneg ((b1 + 48271 * (b2 + 1)) * (39373 + (b2 + 1))) (b := 2147483647) (by decide)
  have e2 := Int.emod_lt_of_pos ((b1 + 48271 * (b2 + 1)) * (39373 + (b2 + 1))) (b := 2147483647) (by decide)
  have m1 : mulOk 48271 (b2 + 1) = true := mul_small' (by decide) (by decide)
  have m2 : mulOk (b1 + 48271 * (b2 + 1)) (39373 + (b2 + 1)) = true := mul_small (by omega) (by omega)
  rw [EvS_cons]
  simp [t_law_take_2, -thenS_nx]
  rw [thenS_nx, EvS_cons]
  simp [t_law_take_3, m1, m2, -thenS_nx]
  generalize (b1 + 48271 * (b2 + 1)) * (39373 + (b2 + 1)) % 2147483647 = w at *
  have m3 : mulOk (w + (b2 + 1) + b1 / 1000003) (w % 40009 + 7) = true := mul_small (by omega) (by omega)
  rw [thenS_nx, EvS_cons]
  simp [t_law_take_4, m3, -thenS_nx]
  generalize (w + (b2 + 1) + b1 / 1000003) * (w % 40009 + 7) % 2147483629 = v
  have m4 : mulOk v 48271 = true := mul_small (by decide) (by decide)
  rw [thenS_nx, EvS_cons]
  simp [t_law_take_5, m4, q1, -thenS_nx]
  exact q _ b0 b1 (b2 + 1) (Int.emod_nonneg _ (by omega)) (Int.emod_lt_of_pos _ q1) ⟨g0, g1, g2, by omega, by omega⟩
theorem take_head {k n : Nat} {b0 b1 b2 size : Int} {Q : B → List (Option B) → Prop} (hb : BoxP n b0 b1 b2) (h1 : 1 ≤ size) (h2 : size ≤ 100000000000000)
    (q : ∀ v c0 c1 c2 : Int, 0 ≤ v → v < size → BoxP n c0 c1 c2 → Q (.val (.int v)) [some (BL c0 c1 c2), none])
    (more : EvS (seqsS [t_law_take_1 (fnSem mod k), t_law_take_2 (fnSem mod k), t_law_take_3 (fnSem mod k), t_law_take_4 (fnSem mod k), t_law_take_5 (fnSem mod k)]) [some (.lst [.int b0, .int b1, .int b2]), some (.val (.int size)), none, none, none] (fnEnd f_law_take Q)) : EvF (fnSem mod (k + 1)) "_law_take" [BL b0 b1 b2, .val (.int size)] Q := by
  obtain ⟨g0, g1, g2, g3, g4⟩ := hb
  refine EvF_fn (f := f_law_take) (by kernel_rfl) (e_law_take _) rfl (show EvS (s_law_take _) [some (.lst [.int b0, .int b1, .int b2]), some (.val (.int size)), none, none, none] _ from ?_)
  have q1 : 0 < size := by omega
  rw [z_law_take, EvS_cons]
  simp [t_law_take_0, -thenS_nx]
  split
  · simp [t_law_take_0_0, q1, -thenS_nx]
    rw [thenS_nx, EvS_cons]
    simp [t_law_take_0_1, q1, -thenS_nx]
    refine ⟨by omega, ?_⟩
    rw [thenS_nx, EvS_cons]
    simp [t_law_take_0_2, -thenS_nx]
    exact q _ (b0 / size) b1 b2 (Int.emod_nonneg _ (by omega)) (Int.emod_lt_of_pos _ q1) ⟨Int.ediv_nonneg g0 (by omega), g1, g2, g3, by omega⟩
  · rw [thenS_nx]
    exact more
theorem take1 {k n : Nat} {b0 b1 b2 size : Int} {Q : B → List (Option B) → Prop} (hb : BoxP n b0 b1 b2) (hn : n < 2 ^ 40) (h1 : 1 ≤ size) (h2 : size ≤ 10000000)
    (q : ∀ v c0 c1 c2 : Int, 0 ≤ v → v < size → BoxP (n + 1) c0 c1 c2 → Q (.val (.int v)) [some (BL c0 c1 c2), none]) : EvF (fnSem mod (k + 1)) "_law_take" [BL b0 b1 b2, .val (.int size)] Q := by
  refine take_head hb h1 (by omega) (fun v c0 c1 c2 v0 v1 h => q v c0 c1 c2 v0 v1 (h.mono (by omega))) ?_
  have p1 : (10 : Int) ^ (7 : Int).toNat = 10000000 := by decide
  have q2 : ¬ 10000000 < size := by omega
  rw [EvS_cons]
  simp [t_law_take_1, p1, -thenS_nx]
  rw [if_neg q2, thenS_nx]
  exact take_tail hb hn h1 q
/-- any draw up to ten to the fourteenth -/
theorem take_wp {k n : Nat} {b0 b1 b2 size : Int} {Q : B → List (Option B) → Prop} (hb : BoxP n b0 b1 b2) (hn : n + 5 < 2 ^ 40) (h1 : 1 ≤ size) (h2 : size ≤ 100000000000000)
    (q : ∀ v c0 c1 c2 : Int, 0 ≤ v → v < size → BoxP (n + 2) c0 c1 c2 → Q (.val (.int v)) [some (BL c0 c1 c2), none]) : EvF (fnSem mod (k + 2)) "_law_take" [BL b0 b1 b2, .val (.int size)] Q := by
  by_cases hs : size ≤ 10000000
  · exact take1 (k := k + 1) hb (by omega) h1 hs fun v c0 c1 c2 v0 v1 h => q v c0 c1 c2 v0 v1 (h.mono (by omega))
  refine take_head hb h1 h2 (fun v c0 c1 c2 v0 v1 h => q v c0 c1 c2 v0 v1 (h.mono (by omega))) ?_
  have p1 : (10 : Int) ^ (7 : Int).toNat = 10000000 := by decide
  have q2 : 10000000 < size := by omega
  have q1 : 0 < size := by omega
  rw [EvS_cons]
  simp [t_law_take_1, p1, -thenS_nx]
  rw [if_pos q2]
  refine take1 hb (by omega) (by decide) (by decide) fun v c0 c1 c2 v1 v2 hbb => ?_
  simp
  have l1 : 1 ≤ (size - 1) / 10000000 + 1 := by omega
  have l2 : (size - 1) / 10000000 + 1 ≤ 10000000 := by omega
  refine take1 hbb (by omega) l1 l2 fun u d0 d1 d2 u1 u2 hbb => ?_
  have m1 : mulOk 10000000 u = true := mul_small' (by decide) (by decide)
  simp [m1, q1]
  exact q _ d0 d1 d2 (Int.emod_nonneg _ (by omega)) (Int.emod_lt_of_pos _ q1) (hbb.mono (by omega))
theorem cell_ok {k : Nat} {ns : List Int} {j : Nat} : EvF (fnSem mod (k + 1)) "_law_cell_at" [.scr ns, .val (.int (j : Int))] fun r _ => ∃ c : Int, r = .val (.int c) := by
  refine EvF_fn (f := f_law_cell_at) (by kernel_rfl) (e_law_cell_at _) rfl (show EvS (s_law_cell_at _) [some (.scr ns), some (.val (.int j))] _ from ?_)
  simp [s_law_cell_at]
  split
  · simp
  · rename_i h
    simpa using h
theorem box_wp {k : Nat} {ns : List Int} {j : Nat} {Q : B → Prop} (hj : j ≤ 100) (q : ∀ b0 b1 b2 : Int, BoxP 0 b0 b1 b2 → Q (BL b0 b1 b2)) : EvF (fnSem mod (k + 2)) "_law_box" [.scr ns, .val (.int (j : Int))] fun r _ => Q r := by
  refine EvF_fn (f := f_law_box) (by kernel_rfl) (e_law_box _) rfl (show EvS (s_law_box _) [some (.scr ns), some (.val (.int j)), none] _ from ?_)
  simp [s_law_box]
  refine cell_ok.mono ?_
  rintro r _ ⟨c, rfl⟩
  have p1 : (10 : Int) ^ (18 : Int).toNat = 1000000000000000000 := by decide
  have m2 : mulOk 39373 (j : Int) = true := mul_small' (by decide) (by decide)
  have m1 : ∀ b : Bool, mulOk (if c < 0 then -c else c) (if b = true then 1 else 0) = true := fun b => by cases b <;> exact mul_small (by decide) (by decide)
  have e1 := Int.emod_nonneg c (b := 2305843009213693951) (by decide)
  have e2 := Int.emod_lt_of_pos c (b := 2305843009213693951) (by decide)
  have m3 := m1 (decide (1000000000000000000 ≤ if c < 0 then -c else c))
  simp at m3
  simp [p1, m2, m3]
  refine q _ _ _ ⟨?_, by omega, by omega, by omega, by omega⟩
  split <;> split <;> omega
theorem pick4 {a b c d v : Int} (h0 : 0 ≤ v) (h1 : v < 4) : ∃ w, atI [PyData.int a, PyData.int b, PyData.int c, PyData.int d] v = some (.int w) ∧ (w = a ∨ w = b ∨ w = c ∨ w = d) := by
  obtain rfl | rfl | rfl | rfl : v = 0 ∨ v = 1 ∨ v = 2 ∨ v = 3 := by omega
  · exact ⟨a, by simp, by simp⟩
  · exact ⟨b, by simp, by simp⟩
  · exact ⟨c, by simp, by simp⟩
  · exact ⟨d, by simp, by simp⟩
theorem pick2i {a b v : Int} (h0 : 0 ≤ v) (h1 : v < 2) : ∃ w, atI [PyData.int a, PyData.int b] v = some (.int w) ∧ (w = a ∨ w = b) := by
  obtain rfl | rfl : v = 0 ∨ v = 1 := by omega
  · exact ⟨a, by simp, by simp⟩
  · exact ⟨b, by simp, by simp⟩
theorem pick2 {x y : Str} {v : Int} (h0 : 0 ≤ v) (h1 : v < 2) : ∃ w : Bool, atI [PyData.str x, PyData.str y] v = some (.str (if w then x else y)) := by
  obtain rfl | rfl : v = 0 ∨ v = 1 := by omega
  · exact ⟨true, by simp⟩
  · exact ⟨false, by simp⟩
end LK

namespace LK
open PySem PySem.W PySem.Spec PyProof.Rows L2 DL
/-! ### ranges, slices -/
theorem rangeD_cons {lo : Int} {n : Nat} : rangeD lo (n + 1) = .int lo :: rangeD (lo + 1) n := by
  unfold rangeD
  rw [List.range_succ_eq_map, List.map_cons, List.map_map]
  simp
  intro a _
  omega
theorem Ev_rangeM2 {i j : Int} {en : DL.Env} {Q : List D → DL.Env → Prop} (h : small62 i = true) (h2 : small62 j = true) : Ev (rangeM2 [.int i, .int j]) en Q = Q (rangeD i (j - i).toNat) en := by
  have e : rangeM2 [.int i, .int j] en = (if (small62 i && small62 j) = true then ret (rangeD i (j - i).toNat) else stuck) en := rfl
  exact Ev_of (by rw [e, h, h2]; rfl)
theorem cut_take {α : Type} {xs : List α} {i : Nat} (h : i ≤ xs.length) : cutL xs none (some (i : Int)) = xs.take i := by
  unfold cutL HT.sIx
  dsimp only
  rw [if_neg (by omega), Int.toNat_natCast, Nat.min_eq_left h]
  simp
theorem cut_drop {α : Type} {xs : List α} {i : Nat} (h : i ≤ xs.length) : cutL xs (some (i : Int)) none = xs.drop i := by
  unfold cutL HT.sIx
  dsimp only
  rw [if_neg (by omega), Int.toNat_natCast, Nat.min_eq_left h]
  exact List.take_of_length_le (by simp)
theorem cut_mid {α : Type} {xs : List α} {i j : Nat} (h : i ≤ j) (h2 : j ≤ xs.length) : cutL xs (some (i : Int)) (some (j : Int)) = (xs.drop i).take (j - i) := by
  unfold cutL HT.sIx
  dsimp only
  rw [if_neg (by omega), if_neg (by omega), Int.toNat_natCast, Int.toNat_natCast, Nat.min_eq_left (show i ≤ xs.length by omega), Nat.min_eq_left h2]
theorem rangeD0 {n : Nat} : rangeD 0 n = (List.range n).map fun i : Nat => PyData.int (i : Int) := by simp [rangeD]
theorem min_lmin {l : List Int} (h : l ≠ []) : minS [.list (l.map .int)] = some (.val (.int (lmin l))) := by
  cases l with
  | nil => exact absurd rfl h
  | cons n ns =>
    have e : ∀ l : List D, minS [.list l] = (match ints? l with
      | some ns => (minL ns).map B.val
      | none => none) := fun l => rfl
    rw [e, ints?_map]
    rfl
theorem max_lmax {l : List Int} (h : l ≠ []) : maxS [.list (l.map .int)] = some (.val (.int (lmax l))) := by
  cases l with
  | nil => exact absurd rfl h
  | cons n ns => exact max_ints
theorem getD_get {a : List Int} {j : Nat} (h : j < a.length) : a[j]? = some (a.getD j 0) := by
  rw [List.getD_eq_getElem?_getD, List.getElem?_eq_getElem h]
  rfl
end LK

namespace LK
open PySem PySem.W PySem.Spec PyProof.Rows L2 DL
/-! ### a slope (where no winds are drawn by a def) -/
theorem slope_wp {k n : Nat} {b0 b1 b2 : Int} {Q : B → List (Option B) → Prop} (hb : BoxP n b0 b1 b2) (hn : n + 20 < 2 ^ 40)
    (q : ∀ s c0 c1 c2 : Int, 0 ≤ s → s < 1000000000 → BoxP (n + 4) c0 c1 c2 → Q (.val (.int s)) [some (BL c0 c1 c2)]) : EvF (fnSem mod (k + 3)) "_law_slope" [BL b0 b1 b2] Q := by
  refine EvF_fn (f := f_law_slope) (by kernel_rfl) (e_law_slope _) rfl (show EvS (s_law_slope _) [some (.lst [.int b0, .int b1, .int b2])] _ from ?_)
  have p1 : (10 : Int) ^ (9 : Int).toNat = 1000000000 := by decide
  simp [s_law_slope, p1]
  refine take_wp hb (by omega) (by decide) (by decide) fun v c0 c1 c2 v1 v2 hbb => ?_
  obtain ⟨w, hw, hw2⟩ := pick4 (a := 4) (b := 9) (c := 40) (d := 1000000000) v1 v2
  simp [hw]
  exact take_wp hbb (by omega) (by omega) (by omega) fun u d0 d1 d2 u1 u2 hbb => q u d0 d1 d2 u1 (by omega) (hbb.mono (by omega))
def WOk (w : Bool × Int) : Prop := 0 ≤ w.2 ∧ w.2 < 1000000000
end LK

namespace LK
open PySem PySem.W PySem.Spec PyProof.Rows L2 DL
/-! ### _law_same: of like things -/
theorem isa_ll {ds : List D} : isaS ["list", "tuple"] [.list ds] = some (.val (.bool true)) := by kernel_rfl
theorem isa_lt {ds : List D} : isaS ["list", "tuple"] [.tuple ds] = some (.val (.bool true)) := by kernel_rfl
theorem isa_li {i : Int} : isaS ["list", "tuple"] [.int i] = some (.val (.bool false)) := by kernel_rfl
theorem isa_lb {i : Bool} : isaS ["list", "tuple"] [.bool i] = some (.val (.bool false)) := by kernel_rfl
theorem isa_ls {i : Str} : isaS ["list", "tuple"] [.str i] = some (.val (.bool false)) := by kernel_rfl
theorem isa_ln : isaS ["list", "tuple"] [.none] = some (.val (.bool false)) := by kernel_rfl
theorem isa_l1 {ds : List D} : isaS ["list"] [.list ds] = some (.val (.bool true)) := by kernel_rfl
theorem isa_l2 {ds : List D} : isaS ["list"] [.tuple ds] = some (.val (.bool false)) := by kernel_rfl
theorem isa_t1 {ds : List D} : isaS ["tuple"] [.tuple ds] = some (.val (.bool true)) := by kernel_rfl
theorem isa_t2 {ds : List D} : isaS ["tuple"] [.list ds] = some (.val (.bool false)) := by kernel_rfl
theorem isa_bi {i : Int} : isaS ["bool", "str"] [.int i] = some (.val (.bool false)) := by kernel_rfl
theorem isa_bb {i : Bool} : isaS ["bool", "str"] [.bool i] = some (.val (.bool true)) := by kernel_rfl
theorem isa_bs {i : Str} : isaS ["bool", "str"] [.str i] = some (.val (.bool true)) := by kernel_rfl
theorem isa_i1 {i : Int} : isaS ["int"] [.int i] = some (.val (.bool true)) := by kernel_rfl
theorem isa_b1 {i : Int} : isaS ["bool"] [.int i] = some (.val (.bool false)) := by kernel_rfl
theorem isa_b2 {i : Bool} : isaS ["bool"] [.bool i] = some (.val (.bool true)) := by kernel_rfl
theorem isa_b3 {i : Str} : isaS ["bool"] [.str i] = some (.val (.bool false)) := by kernel_rfl
theorem isa_b4 : isaS ["bool"] [.none] = some (.val (.bool false)) := by kernel_rfl
theorem is_in {i : Int} : cmpS .Is [.int i, .none] = some (.val (.bool false)) := rfl
theorem is_bn {i : Bool} : cmpS .Is [.bool i, .none] = some (.val (.bool false)) := rfl
theorem is_sn {i : Str} : cmpS .Is [.str i, .none] = some (.val (.bool false)) := rfl
theorem is_nn : cmpS .Is [.none, .none] = some (.val (.bool true)) := rfl
theorem ne_bb {a b : Bool} : cmpS .NotEq [.bool a, .bool b] = some (.val (.bool (!decide (a = b)))) := by cases a <;> cases b <;> rfl
theorem eq_bb {a b : Bool} : cmpS .Eq [.bool a, .bool b] = some (.val (.bool (decide (a = b)))) := by cases a <;> cases b <;> rfl
theorem eq_nn : cmpS .Eq [.none, .none] = some (.val (.bool true)) := rfl
@[simp ↓] theorem Ev_isaE {Ts : List String} {pa : M PArg} {en : DL.Env} {Q : B → DL.Env → Prop} : Ev (isaE Ts pa) en Q = Ev pa en fun x e => Ev (withR [x] fun ds => lift (isaS Ts ds)) e Q := Ev_bd
/-- data not too great, so deep at most -/
def okD : Nat → D → Bool
  | 0, _ => false
  | _ + 1, .none => true
  | _ + 1, .bool _ => true
  | _ + 1, .int _ => true
  | _ + 1, .str x => SeqAt.shaped (.str x)
  | n + 1, .list ds => decide (ds.length < cap) && ds.all (okD n)
  | n + 1, .tuple ds => decide (ds.length < cap) && ds.all (okD n)
  | _ + 1, .dict _ => false
theorem eq_ss {x : Str} (h : SeqAt.shaped (.str x) = true) : cmpS .Eq [.str x, .str x] = some (.val (.bool true)) := by
  refine (cmp_eqS' (neg := false) h h).trans ?_
  simp [ng]
theorem same_refl : ∀ (n : Nat) {k : Nat} {d : D}, okD n d = true → EvF (fnSem mod (k + n)) "_law_same" [.val d, .val d] fun r _ => r = .val (.bool true)
  | 0, k, d, h => by cases h
  | n + 1, k, d, h => by
    refine EvF_fn (f := f_law_same) (by kernel_rfl) (e_law_same _) rfl (show EvS (s_law_same _) [some (.val d), some (.val d), none, none] _ from ?_)
    cases d with
    | none => simp [s_law_same, isa_ln, is_nn, isa_b4, eq_bb, eq_nn]
    | bool b => simp [s_law_same, isa_lb, is_bn, isa_bb, isa_b2, eq_bb]
    | int i => simp [s_law_same, isa_li, is_in, isa_bi, isa_i1, isa_b1]
    | str x =>
      have hx : SeqAt.shaped (.str x) = true := h
      simp [s_law_same, isa_ls, is_sn, isa_bs, isa_b3, eq_bb, eq_ss hx]
    | dict ds => cases h
    | list ds =>
      have h' : decide (ds.length < cap) = true ∧ ds.all (okD n) = true := Bool.and_eq_true_iff.mp h
      have hl : ds.length < cap := of_decide_eq_true h'.1
      simp [s_law_same, isa_ll, isa_l1, isa_t2, ne_bb]
      refine lc_map (fun d => DL.pairD d d) PyData.bool (fun _ => true) ?_
      simp
      refine ⟨ds, by first | rfl | simp, by omega, ?_, ?_⟩
      · intro x hx
        simp [DL.pairD, wipeE]
        refine (same_refl n (List.all_eq_true.mp h'.2 x hx)).mono ?_
        rintro r _ rfl
        simp
      · simp only [Ev_toD_lst]
        rw [show List.map PyData.bool (List.map (fun _ => true) ds) = List.map PyData.bool (ds.map fun _ => true) from rfl, all_bools]
        simp
    | tuple ds =>
      have h' : decide (ds.length < cap) = true ∧ ds.all (okD n) = true := Bool.and_eq_true_iff.mp h
      have hl : ds.length < cap := of_decide_eq_true h'.1
      simp [s_law_same, isa_lt, isa_l2, isa_t1, ne_bb]
      refine lc_map (fun d => DL.pairD d d) PyData.bool (fun _ => true) ?_
      simp
      refine ⟨ds, by first | rfl | simp, by omega, ?_, ?_⟩
      · intro x hx
        simp [DL.pairD, wipeE]
        refine (same_refl n (List.all_eq_true.mp h'.2 x hx)).mono ?_
        rintro r _ rfl
        simp
      · simp only [Ev_toD_lst]
        rw [show List.map PyData.bool (List.map (fun _ => true) ds) = List.map PyData.bool (ds.map fun _ => true) from rfl, all_bools]
        simp
theorem same_eq {k : Nat} {Q : B → Prop} (n : Nat) {d : D} (h : okD n d = true) : EvF (fnSem mod (k + n)) "_law_same" [.val d, .val d] (fun r _ => Q r) = Q (.val (.bool true)) := EvF_eq (same_refl n h)
theorem ok_IT {n : Nat} {a : List Int} (h : a.length < cap) : okD (n + 2) (IT a) = true := by
  show (decide ((a.map PyData.int).length < cap) && (a.map PyData.int).all (okD (n + 1))) = true
  rw [Bool.and_eq_true, List.all_map]
  exact ⟨decide_eq_true (by simpa using h), List.all_eq_true.mpr fun x _ => rfl⟩
theorem ok_WL {n : Nat} {ws : List (Bool × Int)} (h : ws.length < cap) : okD (n + 3) (WL ws) = true := by
  show (decide ((ws.map WD).length < cap) && (ws.map WD).all (okD (n + 2))) = true
  rw [Bool.and_eq_true, List.all_map]
  refine ⟨decide_eq_true (by simpa using h), List.all_eq_true.mpr fun w _ => ?_⟩
  have hs : SeqAt.shaped (.str (if w.1 then "cut" else "fill")) = true := by cases w.1 <;> decide +kernel
  show (decide (2 < cap) && (SeqAt.shaped (.str (if w.1 then "cut" else "fill")) && (true && true))) = true
  rw [hs]
  rfl
theorem ok_lst {n : Nat} {ds : List D} (h : ds.length < cap) (k : ∀ d ∈ ds, okD n d = true) : okD (n + 1) (.list ds) = true := by
  show (decide (ds.length < cap) && ds.all (okD n)) = true
  rw [Bool.and_eq_true]
  exact ⟨decide_eq_true h, List.all_eq_true.mpr k⟩
theorem ok_tup {n : Nat} {ds : List D} (h : ds.length < cap) (k : ∀ d ∈ ds, okD n d = true) : okD (n + 1) (.tuple ds) = true := by
  show (decide (ds.length < cap) && ds.all (okD n)) = true
  rw [Bool.and_eq_true]
  exact ⟨decide_eq_true h, List.all_eq_true.mpr k⟩
end LK

namespace LK
open PySem PySem.W PySem.Spec PyProof.Rows L2 DL
/-! ### the law's own wind by all posts -/
theorem lblown_ok {k : Nat} {a : List Int} {w : Bool × Int} (hc : a.length < 1000000) : EvF (fnSem mod (k + 1)) "_law_blown" [.val (IT a), .val (WD w)] fun r _ => r = .val (IT (lblow w a)) := by
  refine EvF_fn (f := f_law_blown) (by kernel_rfl) (e_law_blown _) rfl (show EvS (s_law_blown _) [some (.val (IT a)), some (.val (WD w)), none, none, none, none, none] _ from ?_)
  have hcap : cap = 16777216 := rfl
  obtain ⟨b, s⟩ := w
  simp [s_law_blown, Ev_rangeM1 (small62_of (show -(2 ^ 62) ≤ (a.length : Int) by omega) (by omega)), rangeD0]
  refine EvS_loop (fun ds e => ∃ (dn rem : List Nat) (o3 o6 : Option B), ds = rem.map (fun i : Nat => PyData.int (i : Int)) ∧ List.range a.length = dn ++ rem ∧
    e = [some (.val (IT a)), some (.val (WD (b, s))), some (.lst ((dn.map fun i => if b then lcut s a i else lfill s a i).map .int)), o3, some (.val (.str (if b then "cut" else "fill"))), some (.val (.int s)), o6]) ⟨[], _, none, none, rfl, rfl, rfl⟩ ?_ ?_
  · rintro d ds e ⟨dn, rem, o3, o6, hd, hr, rfl⟩
    cases rem with
    | nil => cases hd
    | cons i rem =>
      cases hd
      have hlen := congrArg List.length hr
      simp at hlen
      have hi : i < a.length := by
        have : i ∈ List.range a.length := by rw [hr]; simp
        simpa using this
      have ne : List.range a.length ≠ [] := by rw [hr]; simp
      simp [cmp_cut]
      have hm : ∀ x : Int, -(2 ^ 64) < x → x < 2 ^ 64 → mulOk s x = true := fun x h1 h2 => mul_small h1 h2
      cases b with
      | true =>
        simp
        refine lc_map (fun i : Nat => PyData.int (i : Int)) PyData.int (fun j => a.getD j 0 + s * absI ((i : Int) - (j : Int))) ?_
        simp [Ev_rangeM1 (small62_of (show -(2 ^ 62) ≤ (a.length : Int) by omega) (by omega)), rangeD0]
        refine ⟨List.range a.length, rfl, by simp; omega, ?_, ?_⟩
        · intro j hj
          have hj : j < a.length := by simpa using hj
          obtain ⟨y, hy⟩ : ∃ y, a[j]? = some y := ⟨_, List.getElem?_eq_getElem hj⟩
          simp [wipeE, hy]
          unfold absI
          split <;> simp <;> exact hm _ (by omega) (by omega)
        · simp only [Ev_toD_lst]
          rw [min_lmin (by simpa using ne)]
          simp
          refine ⟨by simp; omega, dn ++ [i], rem, rfl, by simp [hr], some (.val (.int i)), _, by simp [lcut, keepE]; exact rfl⟩
      | false =>
        simp
        refine lc_map (fun i : Nat => PyData.int (i : Int)) PyData.int (fun j => a.getD j 0 - s * absI ((i : Int) - (j : Int))) ?_
        simp [Ev_rangeM1 (small62_of (show -(2 ^ 62) ≤ (a.length : Int) by omega) (by omega)), rangeD0]
        refine ⟨List.range a.length, rfl, by simp; omega, ?_, ?_⟩
        · intro j hj
          have hj : j < a.length := by simpa using hj
          obtain ⟨y, hy⟩ : ∃ y, a[j]? = some y := ⟨_, List.getElem?_eq_getElem hj⟩
          simp [wipeE, hy]
          unfold absI
          split <;> simp <;> exact hm _ (by omega) (by omega)
        · simp only [Ev_toD_lst]
          rw [max_lmax (by simpa using ne)]
          simp
          refine ⟨by simp; omega, dn ++ [i], rem, rfl, by simp [hr], some (.val (.int i)), _, by simp [lfill, keepE]; exact rfl⟩
  · rintro e ⟨dn, rem, o3, o6, hd, hr, rfl⟩
    cases rem with
    | nil =>
      simp at hr
      simp [lblow, hr]
    | cons h t => cases hd
end LK

namespace LK
open PySem PySem.W PySem.Spec PyProof.Rows L2 DL
theorem lbehind_ok {k : Nat} {a : List Int} {ws : List (Bool × Int)} (hc : a.length < 1000000) : EvF (fnSem mod (k + 2)) "_law_behind" [.val (IT a), .val (.list (ws.map WD))] fun r _ => r = .val (IT (lbehind a ws)) := by
  refine EvF_fn (f := f_law_behind) (by kernel_rfl) (e_law_behind _) rfl (show EvS (s_law_behind _) [some (.val (IT a)), some (.val (.list (ws.map WD))), none] _ from ?_)
  simp [s_law_behind]
  obtain ⟨P, hP⟩ : ∃ P : List D → DL.Env → Prop, ∀ ds e, P ds e ↔ ∃ (rem : List (Bool × Int)) (b : List Int) (o2 : Option B), ds = rem.map WD ∧ b.length = a.length ∧ lbehind b rem = lbehind a ws ∧ e = [some (.val (IT b)), some (.val (.list (ws.map WD))), o2] := ⟨_, fun _ _ => Iff.rfl⟩
  refine EvS_loop P ((hP _ _).mpr ⟨ws, a, none, rfl, rfl, rfl, rfl⟩) ?_ ?_
  · intro d ds e h
    obtain ⟨rem, b, o2, hd, hl, hb, rfl⟩ := (hP _ _).mp h
    cases rem with
    | nil => cases hd
    | cons w rem =>
      cases hd
      simp
      refine (lblown_ok (a := b) (w := w) (by omega)).mono ?_
      rintro r _ rfl
      try simp
      exact (hP _ _).mpr ⟨rem, lblow w b, some (.val (WD w)), rfl, by simp [hl], hb, rfl⟩
  · intro e h
    obtain ⟨rem, b, o2, hd, hl, hb, rfl⟩ := (hP _ _).mp h
    cases rem with
    | nil =>
      have hb : b = lbehind a ws := hb
      subst hb
      simp
    | cons h t => cases hd
theorem lbehind_eqv {k : Nat} {a : List Int} {ws : List (Bool × Int)} {Q : B → Prop} (hc : a.length < 1000000) (hw : ∀ w ∈ ws, 0 ≤ w.2) : EvF (fnSem mod (k + 2)) "_law_behind" [.val (IT a), .val (.list (ws.map WD))] (fun r _ => Q r) = Q (.val (IT (behind a ws))) := by
  rw [← lbehind_eq hw]
  exact EvF_eq (lbehind_ok hc)
end LK

namespace LK
open PySem PySem.W PySem.Spec PyProof.Rows L2 DL
/-! ### a drawn dune -/
def DuneOk (m : Int) (a : List Int) : Prop := a ≠ [] ∧ (a.length : Int) ≤ m ∧ ∀ x ∈ a, -1000000000 ≤ x ∧ x ≤ 1000000000
theorem dune_wp {k n : Nat} {b0 b1 b2 size : Int} {Q : B → List (Option B) → Prop} (hb : BoxP n b0 b1 b2) (hn : n + 10000 < 2 ^ 40) (h0 : 1 ≤ size) (h1 : size ≤ 100)
    (q : ∀ (a : List Int) (c0 c1 c2 : Int), DuneOk size a → BoxP (n + 1000) c0 c1 c2 → Q (.val (IT a)) [some (BL c0 c1 c2), none]) : EvF (fnSem mod (k + 3)) "_law_dune" [BL b0 b1 b2, .val (.int size)] Q := by
  refine EvF_fn (f := f_law_dune) (by kernel_rfl) (e_law_dune _) rfl (show EvS (s_law_dune _) [some (.lst [.int b0, .int b1, .int b2]), some (.val (.int size)), none, none, none, none] _ from ?_)
  have p1 : (10 : Int) ^ (9 : Int).toNat = 1000000000 := by decide
  have hcap : cap = 16777216 := rfl
  rw [z_law_dune, EvS_cons]
  simp [t_law_dune_0, p1, -thenS_nx]
  refine take_wp hb (by omega) (by omega) (by omega) fun v c0 c1 c2 v1 v2 hb => ?_
  simp [p1, -thenS_nx]
  refine take_wp hb (by omega) (by decide) (by decide) fun u c0 c1 c2 u1 u2 hb => ?_
  obtain ⟨w, hw, hw2⟩ := pick4 (a := 2) (b := 12) (c := 60) (d := 1000000000) u1 u2
  have w0 : 2 ≤ w := by omega
  have w1 : w ≤ 1000000000 := by omega
  simp [hw, -thenS_nx]
  rw [thenS_nx, EvS_cons]
  simp [t_law_dune_1, -thenS_nx]
  rw [thenS_nx, EvS_cons]
  simp [t_law_dune_2, Ev_rangeM1 (small62_of (show -(2 ^ 62) ≤ 1 + v by omega) (by omega)), -thenS_nx]
  obtain ⟨P, hP⟩ : ∃ P : List D → DL.Env → Prop, ∀ ds e, P ds e ↔ ∃ (ns : List Int) (c0 c1 c2 : Int) (o3 : Option B), (∀ x ∈ ns, -1000000000 ≤ x ∧ x ≤ 1000000000) ∧ ns.length + ds.length = (1 + v).toNat ∧ BoxP (n + 4 + 6 * ns.length) c0 c1 c2 ∧
    e = [some (BL c0 c1 c2), some (.val (.int size)), some (.lst (ns.map .int)), o3, some (.val (.int (1 + v))), some (.val (.int w))] := ⟨_, fun _ _ => Iff.rfl⟩
  refine EvS_loop P ((hP _ _).mpr ⟨[], c0, c1, c2, none, by simp, by simp [rangeD], by simpa using hb, rfl⟩) ?_ ?_
  · intro d ds e h
    obtain ⟨ns, c0, c1, c2, o3, hbd, hl, hx, rfl⟩ := (hP _ _).mp h
    simp at hl
    have m1 : mulOk 2 w = true := mul_small' (by decide) (by decide)
    simp [m1]
    refine take_wp hx (by omega) (by omega) (by omega) fun x d0 d1 d2 x1 x2 hx => ?_
    simp
    refine take_wp hx (by omega) (by omega) (by omega) fun y d0 d1 d2 y1 y2 hx => ?_
    simp
    refine take_wp hx (by omega) (by decide) (by decide) fun z d0 d1 d2 z1 z2 hx => ?_
    obtain ⟨q, hq, hq2⟩ := pick4 (a := 0) (b := w) (c := x - w) (d := y) z1 z2
    simp [hq]
    refine ⟨by omega, (hP _ _).mpr ⟨ns ++ [q], d0, d1, d2, _, ?_, by simp; omega, hx.mono (by simp; omega), by simp; rfl⟩⟩
    intro t ht
    rcases List.mem_append.mp ht with h | h
    · exact hbd t h
    · have : t = q := by simpa using h
      omega
  · intro e h
    obtain ⟨ns, c0, c1, c2, o3, hbd, hl, hx, rfl⟩ := (hP _ _).mp h
    simp at hl
    simp [t_law_dune_3]
    refine q ns c0 c1 c2 ⟨fun z => ?_, by omega, hbd⟩ (hx.mono (by omega))
    rw [z] at hl
    simp at hl
    omega
end LK

namespace LK
open PySem PySem.W PySem.Spec PyProof.Rows L2 DL
theorem leP_zip : ∀ {a b : List Int}, LeP a b → ∀ p ∈ a.zip b, p.1 ≤ p.2
  | [], [], _ => by simp
  | [], _ :: _, h => by cases h
  | _ :: _, [], h => by cases h
  | x :: a, y :: b, h => fun p hp => by
    rw [List.zip_cons_cons] at hp
    rcases List.mem_cons.mp hp with rfl | hp
    · exact h.1
    · exact leP_zip h.2 p hp
theorem leP_of_zip : ∀ {a b : List Int}, a.length = b.length → (∀ p ∈ a.zip b, p.1 ≤ p.2) → LeP a b
  | [], [], _, _ => trivial
  | [], _ :: _, h, _ => by cases h
  | _ :: _, [], h, _ => by cases h
  | x :: a, y :: b, h, q => ⟨q (x, y) (by simp), leP_of_zip (by simpa using h) fun p hp => q p (by rw [List.zip_cons_cons]; exact List.mem_cons_of_mem _ hp)⟩
theorem zip_enc {a b : List Int} : List.zipWith (fun a b => DL.pairD (PyData.int a) (PyData.int b)) a b = (a.zip b).map fun p : Int × Int => PyData.tuple [.int p.1, .int p.2] := by
  simp [List.zip, List.map_zipWith, DL.pairD]
theorem all_is {α : Type} {xs : List α} {g : α → Bool} : allS [.list (xs.map (PyData.bool ∘ g))] = some (.val (.bool (xs.all g))) := by
  rw [← List.map_map, all_bools, List.all_map]
  rfl
theorem any_is {α : Type} {xs : List α} {g : α → Bool} : anyS [.list (xs.map (PyData.bool ∘ g))] = some (.val (.bool (xs.any g))) := by
  rw [← List.map_map, any_bools, List.any_map]
  rfl
theorem all_ok {α : Type} {xs : List α} {g : α → Bool} (h : xs.all g = true) : allS [.list (xs.map (PyData.bool ∘ g))] = some (.val (.bool true)) := by rw [all_is, h]
end LK

namespace LK
open PySem PySem.W PySem.Spec PyProof.Rows L2 DL
theorem deq_cf : DEq (fun b : Bool => PyData.str (if b then "cut" else "fill")) 1 := DEq.strs (by decide +kernel) (by decide +kernel) (by decide +kernel)
theorem deq_IT : DEq IT 2 := DEq.int.tuple
theorem deq_IL : DEq IL 2 := DEq.int.list
theorem deq_WD : DEq WD 2 := deq_cf.pair DEq.int
theorem deq_WL : DEq (fun ws : List (Bool × Int) => PyData.list (ws.map WD)) 3 := deq_WD.list
theorem eq_IT {a b : List Int} : cmpS .Eq [.tuple (a.map .int), .tuple (b.map .int)] = some (.val (.bool (decide (a = b)))) := cmp_eqE deq_IT (by decide) a b
theorem ne_IT {a b : List Int} : cmpS .NotEq [.tuple (a.map .int), .tuple (b.map .int)] = some (.val (.bool (!decide (a = b)))) := cmp_neE deq_IT (by decide) a b
theorem eq_WL {a b : List (Bool × Int)} : cmpS .Eq [.list (a.map WD), .list (b.map WD)] = some (.val (.bool (decide (a = b)))) := cmp_eqE deq_WL (by decide) a b
theorem ne_WL {a b : List (Bool × Int)} : cmpS .NotEq [.list (a.map WD), .list (b.map WD)] = some (.val (.bool (!decide (a = b)))) := cmp_neE deq_WL (by decide) a b
theorem ne_WL0 {a : List (Bool × Int)} : cmpS .NotEq [.list (a.map WD), .list []] = some (.val (.bool (!decide (a = [])))) := ne_WL (b := [])
theorem eq_WL0 {a : List (Bool × Int)} : cmpS .Eq [.list (a.map WD), .list []] = some (.val (.bool (decide (a = [])))) := eq_WL (b := [])
end LK

namespace LK
open PySem PySem.W PySem.Spec PyProof.Rows L2 DL
/-! ### an order's text -/
abbrev ltr (b : Bool) : Str := if b then "c" else "f"
def cp (b : Bool) : Nat := if b then 99 else 102
def textB (l : List Bool) : Str := ⟨(l.map cp).toArray⟩
abbrev TX (l : List Bool) : D := .str (textB l)
theorem ltr_one (b : Bool) : ltr b = ⟨#[cp b]⟩ := by cases b <;> decide +kernel
theorem text_one (b : Bool) : textB [b] = ltr b := by cases b <;> decide +kernel
theorem text_nil : textB [] = ("" : Str) := by decide +kernel
@[simp] theorem text_len (l : List Bool) : (textB l).length = l.length := by simp [textB, Str.length]
theorem text_app (l k : List Bool) : textB l ++ textB k = textB (l ++ k) := by
  show (⟨(l.map cp).toArray ++ (k.map cp).toArray⟩ : Str) = _
  unfold textB
  simp
theorem strD_text (l : List Bool) : strD (textB l) = l.map fun b => PyData.str (ltr b) := by
  unfold strD textB
  simp only [List.map_map]
  refine List.map_congr_left fun b _ => ?_
  show PyData.str ⟨#[cp b]⟩ = _
  rw [ltr_one]
theorem rep_text (b : Bool) (n : Nat) : repS (ltr b) n = textB (List.replicate n b) := by
  have : ∀ (n : Nat) (a : List Nat), (List.replicate n #[cp b]).foldl (· ++ ·) a.toArray = (a ++ List.replicate n (cp b)).toArray := by
    intro n
    induction n with
    | zero => intro a; simp
    | succ n ih =>
      intro a
      rw [List.replicate_succ, List.foldl_cons]
      have : a.toArray ++ #[cp b] = (a ++ [cp b]).toArray := by simp
      rw [this, ih]
      simp [List.replicate_succ]
  unfold repS textB
  rw [ltr_one]
  have := this n []
  simp at this
  rw [List.map_replicate]
  congr 1
theorem cnt_text (b : Bool) : ∀ l : List Bool, PyProof.Rows.cnt (cp b) (l.map cp) = (l.count b : Nat)
  | [] => by simp [PyProof.Rows.cnt_nil]
  | x :: l => by
    rw [List.map_cons, PyProof.Rows.cnt_cons, cnt_text b l, List.count_cons]
    cases x <;> cases b <;> simp [cp] <;> omega
theorem count_text (b : Bool) (l : List Bool) : Txt.count (textB l) (ltr b) = (l.count b : Nat) := by
  rw [ltr_one]
  refine (PyProof.Rows.count_is _ _).trans ?_
  rw [← cnt_text b l]
  unfold PyProof.Rows.cnt textB
  simp
theorem sh_ltr (b : Bool) : SeqAt.shaped (.str (ltr b)) = true := by cases b <;> decide +kernel
theorem eq_ltr (b c : Bool) : cmpS .Eq [.str (ltr b), .str (ltr c)] = some (.val (.bool (decide (b = c)))) := by
  refine (cmp_eqS' (neg := false) (sh_ltr b) (sh_ltr c)).trans ?_
  have h : ng false (ltr b == ltr c) = decide (b = c) := by cases b <;> cases c <;> decide +kernel
  rw [h]
theorem eq_c (b : Bool) : cmpS .Eq [.str (ltr b), .str "c"] = some (.val (.bool b)) := by
  have := eq_ltr b true
  rw [show decide (b = true) = b by cases b <;> rfl] at this
  exact this
theorem eq_f (b : Bool) : cmpS .Eq [.str (ltr b), .str "f"] = some (.val (.bool !b)) := by
  have := eq_ltr b false
  rw [show decide (b = false) = !b by cases b <;> rfl] at this
  exact this
end LK

namespace LK
open PySem PySem.W PySem.Spec PyProof.Rows L2 DL
/-! ### an order's almanac, its text -/
theorem ix_at {a : List Int} {i : Nat} (h : i < a.length) : atI (a.map PyData.int) (i : Int) = some (.int (a.getD i 0)) := by
  have e : ixN (a.map PyData.int).length (i : Int) = some i := by
    unfold ixN
    rw [if_pos (by omega), if_pos (by simpa using h)]
    simp
  unfold atI
  rw [e]
  simp [h]
theorem mul_ltr {b : Bool} {z : Int} {n : Nat} (hz : z = (n : Int)) (h : n ≤ 100000) : opS .Mult [.str (ltr b), .int z] = some (.val (TX (List.replicate n b))) := by
  subst hz
  show mulS [.str (ltr b), .int (n : Int)] = _
  unfold mulS
  have h1 : (ltr b).length ≤ 100 := by cases b <;> decide +kernel
  dsimp only
  rw [if_pos ⟨by omega, by omega, h1⟩, Int.toNat_natCast, rep_text]
theorem add_text {l k : List Bool} (h : l.length + k.length ≤ 1000000) : opS .Add [TX l, TX k] = some (.val (TX (l ++ k))) := by
  show addS [TX l, TX k] = _
  unfold addS
  have hcap : cap = 16777216 := rfl
  dsimp only
  rw [if_pos (by rw [text_len, text_len]; omega), text_app]
theorem aug_text {l k : List Bool} (h : l.length + k.length ≤ 1000000) : opA .Add (TX l) (TX k) = some (TX (l ++ k)) := by
  have hcap : cap = 16777216 := rfl
  rw [opA_str (by rw [text_len, text_len]; omega), text_app]
@[simp] theorem almB_nil {cs fs : List Int} : almB cs fs [] = [] := by unfold almB; rfl
theorem almB_c {cs fs : List Int} {l : List Bool} {i : Nat} : almB (cs.drop i) fs (true :: l) = (true, cs.getD i 0) :: almB (cs.drop (i + 1)) fs l := by
  show (true, (cs.drop i).headD 0) :: almB (cs.drop i).tail fs l = _
  rw [List.tail_drop, List.headD_eq_head?_getD, List.head?_drop]
  simp [List.getD_eq_getElem?_getD]
theorem almB_f {cs fs : List Int} {l : List Bool} {i : Nat} : almB cs (fs.drop i) (false :: l) = (false, fs.getD i 0) :: almB cs (fs.drop (i + 1)) l := by
  show (false, (fs.drop i).headD 0) :: almB cs (fs.drop i).tail l = _
  rw [List.tail_drop, List.headD_eq_head?_getD, List.head?_drop]
  simp [List.getD_eq_getElem?_getD]
theorem almanac_of_ok {k : Nat} {cs fs : List Int} {l : List Bool} (h1 : l.count true ≤ cs.length) (h2 : l.count false ≤ fs.length) (hl : l.length < 1000000) :
    EvF (fnSem mod (k + 1)) "almanac_of" [.val (IL cs), .val (IL fs), .val (TX l)] fun r _ => r = .lst ((almB cs fs l).map WD) := by
  refine EvF_fn (f := f_almanac_of) (by kernel_rfl) (e_almanac_of _) rfl (show EvS (s_almanac_of _) [some (.val (IL cs)), some (.val (IL fs)), some (.val (TX l)), none, none, none, none] _ from ?_)
  have hcap : cap = 16777216 := rfl
  rw [z_almanac_of, EvS_cons]
  simp [t_almanac_of_0, -thenS_nx]
  rw [thenS_nx, EvS_cons]
  simp [t_almanac_of_1, -thenS_nx, strD_text]
  obtain ⟨P, hP⟩ : ∃ P : List D → DL.Env → Prop, ∀ ds e, P ds e ↔ ∃ (rem : List Bool) (ws : List W) (i j : Nat) (o3 : Option B), ds = rem.map (fun b => PyData.str (ltr b)) ∧ i + rem.count true ≤ cs.length ∧ j + rem.count false ≤ fs.length ∧ ws.length + rem.length = l.length ∧
      ws ++ almB (cs.drop i) (fs.drop j) rem = almB cs fs l ∧ e = [some (.val (IL cs)), some (.val (IL fs)), some (.val (TX l)), o3, some (.lst (ws.map WD)), some (.val (.int (i : Int))), some (.val (.int (j : Int)))] := ⟨_, fun _ _ => Iff.rfl⟩
  refine EvS_loop P ((hP _ _).mpr ⟨l, [], 0, 0, none, rfl, by omega, by omega, by simp, by simp, rfl⟩) ?_ ?_
  · intro d ds e h
    obtain ⟨rem, ws, i, j, o3, hd, hi, hj, hn, hw, rfl⟩ := (hP _ _).mp h
    cases rem with
    | nil => cases hd
    | cons b rem =>
      cases hd
      simp at hn
      simp [eq_c]
      cases b with
      | true =>
        simp at hi hj
        rw [almB_c] at hw
        have hix := ix_at (a := cs) (i := i) (by omega)
        simp [t_almanac_of_1_0, t_almanac_of_1_1, hix]
        exact ⟨by omega, (hP _ _).mpr ⟨rem, ws ++ [(true, cs.getD i 0)], i + 1, j, _, rfl, by omega, by omega, by simp; omega, by rw [List.append_assoc]; exact hw, by simp; rfl⟩⟩
      | false =>
        simp at hi hj
        rw [almB_f] at hw
        have hix := ix_at (a := fs) (i := j) (by omega)
        simp [t_almanac_of_1e_0, t_almanac_of_1e_1, hix]
        exact ⟨by omega, (hP _ _).mpr ⟨rem, ws ++ [(false, fs.getD j 0)], i, j + 1, _, rfl, by omega, by omega, by simp; omega, by rw [List.append_assoc]; exact hw, by simp; rfl⟩⟩
  · intro e h
    obtain ⟨rem, ws, i, j, o3, hd, hi, hj, hn, hw, rfl⟩ := (hP _ _).mp h
    cases rem with
    | nil =>
      simp at hw
      subst hw
      simp [t_almanac_of_2]
    | cons h t => cases hd
theorem order_by_ok {k m : Nat} {a : List Nat} (nd : Nd 0 a) (ha : ∀ x ∈ a, x ≤ m) (hm : m < 100000) (hl : a.length < 100000) {b : D} (hb : b = .list (a.map fun v : Nat => PyData.int (v : Int))) :
    EvF (fnSem mod (k + 1)) "order_by" [.val (.int (m : Int)), .val b] fun r _ => r = .val (TX (ordB m 0 a)) := by
  subst hb
  refine EvF_fn (f := f_order_by) (by kernel_rfl) (e_order_by _) rfl (show EvS (s_order_by _) [some (.val (.int (m : Int))), some (.val (.list (a.map fun v : Nat => PyData.int (v : Int)))), none, none, none] _ from ?_)
  have hcap : cap = 16777216 := rfl
  have e1 : (Str.ofString "c") = ltr true := rfl
  have e2 : (Str.ofString "f") = textB [false] := (text_one false).symm
  have e3 : (Str.ofString "") = textB [] := text_nil.symm
  rw [z_order_by, EvS_cons]
  simp [t_order_by_0, e3, -thenS_nx]
  rw [thenS_nx, EvS_cons]
  simp [t_order_by_1, -thenS_nx]
  obtain ⟨P, hP⟩ : ∃ P : List D → DL.Env → Prop, ∀ ds e, P ds e ↔ ∃ (rem : List Nat) (l : List Bool) (d : Nat) (o3 : Option B), ds = rem.map (fun v : Nat => PyData.int (v : Int)) ∧ Nd d rem ∧ (∀ x ∈ rem, x ≤ m) ∧ d ≤ m ∧ l.length + rem.length = d + a.length ∧ 
      l ++ ordB m d rem = ordB m 0 a ∧ e = [some (.val (.int (m : Int))), some (.val (.list (a.map fun v : Nat => PyData.int (v : Int)))), o3, some (.val (TX l)), some (.val (.int (d : Int)))] := ⟨_, fun _ _ => Iff.rfl⟩
  refine EvS_loop P ((hP _ _).mpr ⟨a, [], 0, none, rfl, nd, ha, by omega, by simp, by simp, rfl⟩) ?_ ?_
  · intro d ds e h
    obtain ⟨rem, l, d, o3, hd, nd, hr, hdm, hn, hw, rfl⟩ := (hP _ _).mp h
    cases rem with
    | nil => cases hd
    | cons v rem =>
      cases hd
      have hv := hr v (by simp)
      have hvd := nd.1
      simp at hn
      simp [t_order_by_1_0, t_order_by_1_1, e1, e2]
      rw [mul_ltr (n := v - d) (by omega) (by omega)]
      simp [text_app]
      refine ⟨by omega, ?_⟩
      rw [aug_text (by simp; omega)]
      simp
      refine (hP _ _).mpr ⟨rem, l ++ (List.replicate (v - d) true ++ [false]), v, _, rfl, nd.2, fun x hx => hr x (by simp [hx]), hv, by simp; omega, ?_, rfl⟩
      have e5 : ordB m d (v :: rem) = List.replicate (v - d) true ++ false :: ordB m v rem := rfl
      rw [e5] at hw
      simpa using hw
  · intro e h
    obtain ⟨rem, l, d, o3, hd, nd, hr, hdm, hn, hw, rfl⟩ := (hP _ _).mp h
    cases rem with
    | nil =>
      simp at hn
      simp [t_order_by_2, e1]
      rw [mul_ltr (n := m - d) (by omega) (by omega)]
      have e5 : ordB m d [] = List.replicate (m - d) true := rfl
      rw [e5] at hw
      simp [text_app, hw]
      omega
    | cons h t => cases hd
end LK

namespace LK
open PySem PySem.W PySem.Spec PyProof.Rows L2 DL
/-! ### the law's almanac, order -/
theorem ixN_nat {n i : Nat} (h : i < n) : ixN n (i : Int) = some i := by
  unfold ixN
  rw [if_pos (by omega), if_pos (by omega)]
  simp
theorem law_almanac_ok {k : Nat} {cs fs : List Int} {l : List Bool} (h1 : l.count true ≤ cs.length) (h2 : l.count false ≤ fs.length) (hl : l.length < 1000000) (hc : cs.length < 1000000) (hf : fs.length < 1000000) :
    EvF (fnSem mod (k + 1)) "_law_almanac" [.val (IL cs), .val (IL fs), .val (TX l)] fun r _ => r = .lst ((almB cs fs l).map WD) := by
  refine EvF_fn (f := f_law_almanac) (by kernel_rfl) (e_law_almanac _) rfl (show EvS (s_law_almanac _) [some (.val (IL cs)), some (.val (IL fs)), some (.val (TX l)), none, none, none, none] _ from ?_)
  have hcap : cap = 16777216 := rfl
  rw [z_law_almanac, EvS_cons]
  simp [t_law_almanac_0, -thenS_nx]
  rw [thenS_nx, EvS_cons]
  simp [t_law_almanac_1, -thenS_nx, strD_text]
  obtain ⟨P, hP⟩ : ∃ P : List D → DL.Env → Prop, ∀ ds e, P ds e ↔ ∃ (rem : List Bool) (ws : List W) (i j : Nat) (o3 : Option B), ds = rem.map (fun b => PyData.str (ltr b)) ∧ i + rem.count true ≤ cs.length ∧ j + rem.count false ≤ fs.length ∧ ws.length + rem.length = l.length ∧
      ws ++ almB (cs.drop i) (fs.drop j) rem = almB cs fs l ∧ e = [some (.val (IL cs)), some (.val (IL fs)), some (.val (TX l)), o3, some (.lst ((cs.drop i).map .int)), some (.lst ((fs.drop j).map .int)), some (.lst (ws.map WD))] := ⟨_, fun _ _ => Iff.rfl⟩
  refine EvS_loop P ((hP _ _).mpr ⟨l, [], 0, 0, none, rfl, by omega, by omega, by simp, by simp, by simp⟩) ?_ ?_
  · intro d ds e h
    obtain ⟨rem, ws, i, j, o3, hd, hi, hj, hn, hw, rfl⟩ := (hP _ _).mp h
    cases rem with
    | nil => cases hd
    | cons b rem =>
      cases hd
      simp at hn
      have hix : ∀ {a : List Int} {i : Nat}, i < a.length → (a.drop i).map PyData.int = .int (a.getD i 0) :: (a.drop (i + 1)).map PyData.int := fun {a i} h => by
        rw [List.drop_eq_getElem_cons h, List.map_cons]
        simp [List.getD_eq_getElem?_getD, h]
      cases b with
      | true =>
        simp at hi hj
        rw [almB_c] at hw
        simp [eq_c, Ev_ifM, hix (a := cs) (i := i) (by omega)]
        exact ⟨by omega, (hP _ _).mpr ⟨rem, ws ++ [(true, cs.getD i 0)], i + 1, j, _, rfl, by omega, by omega, by simp; omega, by rw [List.append_assoc]; exact hw, by simp; rfl⟩⟩
      | false =>
        simp at hi hj
        rw [almB_f] at hw
        simp [eq_c, Ev_ifM, hix (a := fs) (i := j) (by omega)]
        exact ⟨by omega, (hP _ _).mpr ⟨rem, ws ++ [(false, fs.getD j 0)], i, j + 1, _, rfl, by omega, by omega, by simp; omega, by rw [List.append_assoc]; exact hw, by simp; rfl⟩⟩
  · intro e h
    obtain ⟨rem, ws, i, j, o3, hd, hi, hj, hn, hw, rfl⟩ := (hP _ _).mp h
    cases rem with
    | nil =>
      simp at hw
      subst hw
      simp [t_law_almanac_2]
    | cons h t => cases hd
/-- letters left, and told -/
theorem count_erase {l : List Bool} {i : Nat} (h : i < l.length) (b : Bool) : (l.eraseIdx i).count b + (if l[i] = b then 1 else 0) = l.count b := by
  have e := List.take_append_drop i l
  have e2 : l = l.take i ++ l[i] :: l.drop (i + 1) := by rw [← List.drop_eq_getElem_cons h, e]
  rw [List.eraseIdx_eq_take_drop_succ, List.count_append]
  have e3 : l.count b = (l.take i ++ l[i] :: l.drop (i + 1)).count b := congrArg _ e2
  rw [e3, List.count_append, List.count_cons]
  cases l[i] <;> cases b <;> simp <;> omega
theorem law_order_wp {k n a b : Nat} {b0 b1 b2 : Int} {Q : B → List (Option B) → Prop} (hb : BoxP n b0 b1 b2) (hn : n + 10000 < 2 ^ 40) (ha : a ≤ 100) (hf : b ≤ 100)
    (q : ∀ (l : List Bool) (c0 c1 c2 : Int), l.count true = a → l.count false = b → BoxP (n + 1000) c0 c1 c2 → Q (.val (TX l)) [some (BL c0 c1 c2), none, none]) : EvF (fnSem mod (k + 3)) "_law_order" [BL b0 b1 b2, .val (.int (a : Int)), .val (.int (b : Int))] Q := by
  refine EvF_fn (f := f_law_order) (by kernel_rfl) (e_law_order _) rfl (show EvS (s_law_order _) [some (.lst [.int b0, .int b1, .int b2]), some (.val (.int (a : Int))), some (.val (.int (b : Int))), none, none, none] _ from ?_)
  have hcap : cap = 16777216 := rfl
  have e3 : (Str.ofString "") = textB [] := text_nil.symm
  have eL : List.replicate a (PyData.str (Str.ofString "c")) ++ List.replicate b (PyData.str (Str.ofString "f")) = (List.replicate a true ++ List.replicate b false).map fun x => PyData.str (ltr x) := by simp; rfl
  rw [z_law_order, EvS_cons]
  simp [t_law_order_0, e3, -thenS_nx]
  refine ⟨by omega, by omega, by omega, ?_⟩
  rw [thenS_nx, EvS_cons, eL]
  simp [t_law_order_1, Ev_rangeM1 (small62_of (show -(2 ^ 62) ≤ (a : Int) + (b : Int) by omega) (by omega)), -thenS_nx, -List.map_append, -List.map_replicate]
  obtain ⟨P, hP⟩ : ∃ P : List D → DL.Env → Prop, ∀ ds e, P ds e ↔ ∃ (rem l : List Bool) (c0 c1 c2 : Int) (o3 : Option B), rem.length = ds.length ∧ l.length + rem.length = a + b ∧ l.count true + rem.count true = a ∧ l.count false + rem.count false = b ∧ BoxP (n + 2 * l.length) c0 c1 c2 ∧
    e = [some (BL c0 c1 c2), some (.val (.int (a : Int))), some (.val (.int (b : Int))), o3, some (.lst (rem.map fun x => PyData.str (ltr x))), some (.val (TX l))] := ⟨_, fun _ _ => Iff.rfl⟩
  refine EvS_loop P ((hP _ _).mpr ⟨List.replicate a true ++ List.replicate b false, [], b0, b1, b2, none, by simp [rangeD]; omega, by simp, by simp [List.count_replicate], by simp [List.count_replicate], by simpa using hb, by simp⟩) ?_ ?_
  · intro d ds e h
    obtain ⟨rem, l, c0, c1, c2, o3, hr, hl, ht, hf2, hx, rfl⟩ := (hP _ _).mp h
    simp at hr
    simp
    refine take_wp hx (by omega) (by omega) (by omega) fun v d0 d1 d2 v1 v2 hy => ?_
    obtain ⟨i, rfl⟩ : ∃ i : Nat, v = (i : Int) := ⟨v.toNat, by omega⟩
    have hi : i < rem.length := by omega
    simp [ixN_nat hi, hi]
    have e4 : textB l ++ ltr rem[i] = textB (l ++ [rem[i]]) := by rw [← text_app, text_one]
    have e5 : (ltr rem[i]).length = 1 := by rw [ltr_one]; rfl
    have e6 : (rem.map fun x => PyData.str (ltr x)).eraseIdx i = (rem.eraseIdx i).map fun x => PyData.str (ltr x) := by simp [List.eraseIdx_eq_take_drop_succ]
    have c1 := count_erase hi true
    have c2 := count_erase hi false
    have hle : (rem.eraseIdx i).length = rem.length - 1 := by rw [List.length_eraseIdx, if_pos hi]
    rw [e4, e5, e6]
    refine ⟨by omega, by omega, (hP _ _).mpr ⟨rem.eraseIdx i, l ++ [rem[i]], d0, d1, d2, _, by omega, by simp [hle]; omega, ?_, ?_, hy.mono (by simp; omega), rfl⟩⟩
    · rw [List.count_append, List.count_cons]
      cases h : rem[i] <;> simp [h] at c1 ⊢ <;> omega
    · rw [List.count_append, List.count_cons]
      cases h : rem[i] <;> simp [h] at c2 ⊢ <;> omega
  · intro e h
    obtain ⟨rem, l, c0, c1, c2, o3, hr, hl, ht, hf2, hx, rfl⟩ := (hP _ _).mp h
    cases rem with
    | nil =>
      simp [t_law_order_2]
      simp at ht hf2 hl
      exact q l c0 c1 c2 ht hf2 (hx.mono (by omega))
    | cons x y => cases hr
/-! words -/
abbrev WoD (w : Wo) : D := .tuple [.str (if w.1 then "cut" else "fill"), .int (w.2.1 : Int), .int (w.2.2 : Int)]
abbrev PNt (i : Nat) : D := .int (i : Int)
def isB (b : Bool) (q : Nat × Bool) : Bool := decide (q.2 = b)
theorem pos_idx {b : Bool} : ∀ {l : List Bool} {k : Nat}, ((l.mapIdx fun i x => (i + k, x)).filter (isB b)).map (·.1) = posB b k l
  | [], k => rfl
  | x :: l, k => by
    have ih := pos_idx (b := b) (l := l) (k := k + 1)
    have e : (x :: l).mapIdx (fun i x => (i + k, x)) = (k, x) :: l.mapIdx (fun i x => (i + (k + 1), x)) := by
      rw [List.mapIdx_cons]
      simp [Nat.add_comm, Nat.add_left_comm]
    rw [e]
    unfold posB
    by_cases h : x = b
    · rw [List.filter_cons_of_pos (by simpa [isB] using h), List.map_cons, ih, if_pos h]
    · rw [List.filter_cons_of_neg (by simpa [isB] using h), ih, if_neg h]
theorem enum_text {l : List Bool} : enumD (strD (textB l)) = (l.mapIdx fun i x => (i + 0, x)).map fun q : Nat × Bool => PyData.tuple [PNt q.1, .str (ltr q.2)] := by
  rw [strD_text]
  unfold enumD
  apply List.ext_getElem?
  intro i
  simp
  cases l[i]? <;> rfl
theorem eq_bo {a b : Bool} : cmpS .Eq [.bool a, .bool b] = some (.val (.bool (decide (a = b)))) := by cases a <;> cases b <;> rfl
theorem law_has_ok {k : Nat} {l : List Bool} {w : Wo} (hl : l.length < 1000000) (h1 : w.2.1 < l.count true) (h2 : w.2.2 < l.count false) :
    EvF (fnSem mod (k + 1)) "_law_has" [.val (TX l), .val (WoD w)] fun r _ => r = .val (.bool (hasB l w)) := by
  obtain ⟨b, c, f⟩ := w
  refine EvF_fn (f := f_law_has) (by kernel_rfl) (e_law_has _) rfl (show EvS (s_law_has _) [some (.val (TX l)), some (.val (WoD (b, c, f))), none, none, none, none, none, none, none] _ from ?_)
  have hcap : cap = 16777216 := rfl
  have hp1 : (posB true 0 l).length = l.count true := posB_len
  have hp2 : (posB false 0 l).length = l.count false := posB_len
  have hq : (numsB 0 l).length = l.count false := nums_len
  dsimp only at h1 h2
  have g1 := List.getElem?_eq_getElem (l := posB true 0 l) (i := c) (by omega)
  have g2 := List.getElem?_eq_getElem (l := posB false 0 l) (i := f) (by omega)
  have g3 := List.getElem?_eq_getElem (l := numsB 0 l) (i := f) (by omega)
  have key := pos_lt g1 g2 g3
  have ixn : ∀ {p : List Nat} {i v : Nat}, p[i]? = some v → atI (p.map PNt) (i : Int) = some (PNt v) := fun {p i v} h => by
    unfold atI
    rw [ixN_nat (by rw [List.length_map]; exact (List.getElem?_eq_some_iff.mp h).1)]
    simp [h]
  rw [z_law_has, EvS_cons]
  simp [t_law_has_0, -thenS_nx]
  rw [thenS_nx, EvS_cons]
  simp [t_law_has_1, -thenS_nx]
  refine lc_filter (fun q : Nat × Bool => PyData.tuple [PNt q.1, .str (ltr q.2)]) PNt (·.1) (isB true) ?_
  simp [-thenS_nx]
  refine ⟨_, enum_text, by simp; omega, ?_, ?_⟩
  · intro q _
    simp [wipeE, eq_c, isB]
  · simp only [pos_idx]
    simp [keepE, -thenS_nx]
    rw [thenS_nx, EvS_cons]
    simp [t_law_has_2, -thenS_nx]
    refine lc_filter (fun q : Nat × Bool => PyData.tuple [PNt q.1, .str (ltr q.2)]) PNt (·.1) (isB false) ?_
    simp [-thenS_nx]
    refine ⟨_, enum_text, by simp; omega, ?_, ?_⟩
    · intro q _
      simp [wipeE, eq_f, isB]
    · simp only [pos_idx]
      simp [keepE, -thenS_nx]
      rw [thenS_nx, EvS_cons]
      simp [t_law_has_3, ixn g1, ixn g2, cmp_cut]
      rw [eq_bo]
      have hh : hasB l (b, c, f) = (decide (c < (numsB 0 l)[f]) == b) := by
        unfold hasB
        dsimp only
        rw [g3]
      have hk : decide ((posB true 0 l)[c] < (posB false 0 l)[f]) = decide (c < (numsB 0 l)[f]) := by
        rw [Bool.eq_iff_iff, decide_eq_true_iff, decide_eq_true_iff]
        simpa using key
      rw [hh, hk]
      simp
      cases decide (c < (numsB 0 l)[f]) <;> cases b <;> rfl
theorem law_has_eq {k : Nat} {l : List Bool} {w : Wo} {Q : B → Prop} (hl : l.length < 1000000) (h1 : w.2.1 < l.count true) (h2 : w.2.2 < l.count false) :
    EvF (fnSem mod (k + 1)) "_law_has" [.val (TX l), .val (WoD w)] (fun r _ => Q r) = Q (.val (.bool (hasB l w))) := EvF_eq (law_has_ok hl h1 h2)
end LK

namespace LK
open PySem PySem.W PySem.Spec PyProof.Rows L2 DL
/-! ### drawn words -/
def WoIn (l : List Bool) (w : Wo) : Prop := w.2.1 < l.count true ∧ w.2.2 < l.count false
theorem law_words_wp {k n : Nat} {b0 b1 b2 size : Int} {l : List Bool} {Q : B → List (Option B) → Prop} (hb : BoxP n b0 b1 b2) (hn : n + 10000 < 2 ^ 40) (h0 : 0 ≤ size) (h1 : size ≤ 100) (hl : l.length < 1000000)
    (q : ∀ (ws : List Wo) (c0 c1 c2 : Int), (∀ w ∈ ws, WoIn l w) → (ws.length : Int) ≤ size → BoxP (n + 1000) c0 c1 c2 → Q (.lst (ws.map WoD)) [some (BL c0 c1 c2), none, none]) : EvF (fnSem mod (k + 3)) "_law_words" [BL b0 b1 b2, .val (TX l), .val (.int size)] Q := by
  refine EvF_fn (f := f_law_words) (by kernel_rfl) (e_law_words _) rfl (show EvS (s_law_words _) [some (.lst [.int b0, .int b1, .int b2]), some (.val (TX l)), some (.val (.int size)), none, none, none, none, none, none] _ from ?_)
  have hcap : cap = 16777216 := rfl
  have hlen : l.count true + l.count false = l.length := by
    have h := List.length_eq_countP_add_countP (fun x => x == true) (l := l)
    rw [List.count, List.count, h]
    congr 1
    refine List.countP_congr fun x _ => ?_
    cases x <;> simp
  have n1 : Txt.count (textB l) (Str.ofString "c") = (l.count true : Nat) := count_text true l
  have n2 : Txt.count (textB l) (Str.ofString "f") = (l.count false : Nat) := count_text false l
  rw [z_law_words, EvS_cons]
  simp [t_law_words_0, n1, n2, -thenS_nx]
  rw [thenS_nx, EvS_cons]
  simp [t_law_words_1, -thenS_nx]
  refine take_wp hb (by omega) (by decide) (by decide) fun v c0 c1 c2 v1 v2 hb => ?_
  simp [-thenS_nx]
  rw [thenS_nx, EvS_cons]
  simp [t_law_words_2, -thenS_nx]
  refine take_wp hb (by omega) (by omega) (by omega) fun u c0 c1 c2 u1 u2 hb => ?_
  simp [-thenS_nx]
  have main : ∀ (z : Int), 0 ≤ z → z ≤ size → (0 < z → 0 < l.count true ∧ 0 < l.count false) → EvS (loopS (setE 3) (seqsS [t_law_words_2_0 (fnSem mod (k + 2)), t_law_words_2_1 (fnSem mod (k + 2)), t_law_words_2_2 (fnSem mod (k + 2))]) (rangeD 0 z.toNat))
      [some (BL c0 c1 c2), some (B.val (TX l)), some (B.val (PyData.int size)), none, some (B.val (PyData.int ↑(List.count true l))), some (B.val (PyData.int ↑(List.count false l))), some (B.lst []), some (B.val (PyData.bool (decide (v = 0)))), none]
      (thenS [t_law_words_3 (fnSem mod (k + 2))] (fnEnd f_law_words Q)) := by
    intro z z0 z1 zc
    obtain ⟨P, hP⟩ : ∃ P : List D → DL.Env → Prop, ∀ ds e, P ds e ↔ ∃ (ws : List Wo) (c0 c1 c2 : Int) (o3 o8 : Option B), ws.length + ds.length = z.toNat ∧ (∀ w ∈ ws, WoIn l w) ∧ BoxP (n + 4 + 6 * ws.length) c0 c1 c2 ∧
      e = [some (BL c0 c1 c2), some (B.val (TX l)), some (B.val (PyData.int size)), o3, some (B.val (PyData.int ↑(List.count true l))), some (B.val (PyData.int ↑(List.count false l))), some (B.lst (ws.map WoD)), some (B.val (PyData.bool (decide (v = 0)))), o8] := ⟨_, fun _ _ => Iff.rfl⟩
    refine EvS_loop P ((hP _ _).mpr ⟨[], c0, c1, c2, none, none, by simp [rangeD], by simp, by simpa using hb, rfl⟩) ?_ ?_
    · intro d ds e h
      obtain ⟨ws, c0, c1, c2, o3, o8, hw, hin, hx, rfl⟩ := (hP _ _).mp h
      simp at hw
      obtain ⟨p1, p2⟩ := zc (by omega)
      simp [t_law_words_2_0]
      refine take_wp hx (by omega) (by omega) (by omega) fun x d0 d1 d2 x1 x2 hx => ?_
      simp
      refine take_wp hx (by omega) (by omega) (by omega) fun y d0 d1 d2 y1 y2 hx => ?_
      obtain ⟨i, rfl⟩ : ∃ i : Nat, x = (i : Int) := ⟨x.toNat, by omega⟩
      obtain ⟨j, rfl⟩ : ∃ i : Nat, y = (i : Int) := ⟨y.toNat, by omega⟩
      simp [t_law_words_2_1]
      rw [show PyData.tuple [PyData.str (Str.ofString "cut"), PyData.int (i : Int), PyData.int (j : Int)] = WoD (true, i, j) from rfl]
      have wi : ∀ b, WoIn l (b, i, j) := fun b => ⟨by show i < _; omega, by show j < _; omega⟩
      have all : ∀ b, ∀ w ∈ ws ++ [((b, i, j) : Wo)], WoIn l w := fun b w hw => by
        rcases List.mem_append.mp hw with h | h
        · exact hin w h
        · rw [List.mem_singleton.mp h]
          exact wi b
      rw [law_has_eq hl (wi true).1 (wi true).2]
      simp
      cases hh : hasB l (true, i, j) with
      | false =>
        simp [Ev_ifM, t_law_words_2_2]
        exact ⟨by omega, (hP _ _).mpr ⟨ws ++ [(false, i, j)], d0, d1, d2, _, _, by simp; omega, all false, hx.mono (by simp; omega), by simp; exact ⟨rfl, rfl⟩⟩⟩
      | true =>
        simp [Ev_ifM]
        by_cases hv : v = 0
        · simp [hv]
          refine take_wp hx (by omega) (by decide) (by decide) fun t d0 d1 d2 t1 t2 hx => ?_
          simp
          by_cases ht : t = 0
          · simp [ht, t_law_words_2_2]
            exact ⟨by omega, (hP _ _).mpr ⟨ws ++ [(false, i, j)], d0, d1, d2, _, _, by simp; omega, all false, hx.mono (by simp; omega), by simp [hv]; exact ⟨rfl, rfl⟩⟩⟩
          · simp [ht, t_law_words_2_2]
            exact ⟨by omega, (hP _ _).mpr ⟨ws ++ [(true, i, j)], d0, d1, d2, _, _, by simp; omega, all true, hx.mono (by simp; omega), by simp [hv]; exact ⟨rfl, rfl⟩⟩⟩
        · simp [hv, t_law_words_2_2]
          exact ⟨by omega, (hP _ _).mpr ⟨ws ++ [(true, i, j)], d0, d1, d2, _, _, by simp; omega, all true, hx.mono (by simp; omega), by simp [hv]; exact ⟨rfl, rfl⟩⟩⟩
    · intro e h
      obtain ⟨ws, c0, c1, c2, o3, o8, hw, hin, hx, rfl⟩ := (hP _ _).mp h
      simp at hw
      simp [t_law_words_3]
      exact q ws c0 c1 c2 hin (by omega) (hx.mono (by omega))
  have m0 : mulOk u 0 = true := mul_small (by decide) (by decide)
  have m1 : mulOk u 1 = true := mul_small (by decide) (by decide)
  by_cases h3 : true ∈ l
  · by_cases h4 : false ∈ l
    · have := List.count_pos_iff.mpr h3
      have := List.count_pos_iff.mpr h4
      simp [h3, h4, Ev_ifM, m1, Ev_rangeM1 (small62_of (show -(2 ^ 62) ≤ u by omega) (by omega)), -thenS_nx]
      exact main u (by omega) (by omega) fun _ => ⟨by omega, by omega⟩
    · simp [h3, h4, Ev_ifM, m0, Ev_rangeM1 (small62_of (show -(2 ^ 62) ≤ (0 : Int) by decide) (by decide)), -thenS_nx]
      exact main 0 (by omega) (by omega) fun h => by omega
  · simp [h3, Ev_ifM, m0, Ev_rangeM1 (small62_of (show -(2 ^ 62) ≤ (0 : Int) by decide) (by decide)), -thenS_nx]
    exact main 0 (by omega) (by omega) fun h => by omega
end LK

namespace LK
open PySem PySem.W PySem.Spec PyProof.Rows L2 DL
/-! ### clashes, bounds -/
def clashB (x y : Wo) : Bool := if x.1 = y.1 then false else if x.1 then decide (x.2.2 ≤ y.2.2) && decide (y.2.1 ≤ x.2.1) else decide (y.2.2 ≤ x.2.2) && decide (x.2.1 ≤ y.2.1)
theorem told_clash {m n : Nat} {a : List Nat} {ws : List Wo} (h : Told m n a ws) {x y : Wo} (hx : x ∈ ws) (hy : y ∈ ws) : clashB x y = false := by
  have h1 := h.ok x hx
  have h2 := h.ok y hy
  obtain ⟨b, c, f⟩ := x
  obtain ⟨b', c', f'⟩ := y
  unfold clashB
  dsimp only
  by_cases e : b = b'
  · rw [if_pos e]
  · rw [if_neg e]
    cases b <;> cases b' <;> first | exact absurd rfl e | skip
    · have := no_clash h.nd h2 h1
      rw [if_neg Bool.false_ne_true]
      simpa using this
    · have := no_clash h.nd h1 h2
      rw [if_pos rfl]
      simpa using this
theorem cmp_ww' {a b : Bool} : cmpS .Eq [.str (if a then "cut" else "fill"), .str (if b then "cut" else "fill")] = some (.val (.bool (decide (a = b)))) := by
  cases b with
  | true => rw [if_pos rfl, cmp_cut]; cases a <;> rfl
  | false => rw [if_neg Bool.false_ne_true, cmp_fill]; cases a <;> rfl
theorem do_clash_ok {k : Nat} {x y : Wo} : EvF (fnSem mod (k + 1)) "do_clash" [.val (WoD x), .val (WoD y)] fun r _ => r = .val (.bool (clashB x y)) := by
  obtain ⟨b, c, f⟩ := x
  obtain ⟨b', c', f'⟩ := y
  refine EvF_fn (f := f_do_clash) (by kernel_rfl) (e_do_clash _) rfl (show EvS (s_do_clash _) [some (.val (WoD (b, c, f))), some (.val (WoD (b', c', f'))), none, none] _ from ?_)
  rw [z_do_clash, EvS_cons]
  simp [t_do_clash_0, cmp_ww', -thenS_nx]
  by_cases e : b = b'
  · subst e
    simp [clashB]
  · simp only [e]
    simp [-thenS_nx]
    rw [thenS_nx, EvS_cons]
    simp [t_do_clash_1, cmp_cut, Ev_ifM, -thenS_nx]
    cases b <;> cases b' <;> first | exact absurd rfl e | skip
    · rw [Bool.false_eq_true] at *
      simp [-thenS_nx]
      rw [thenS_nx, EvS_cons]
      simp [t_do_clash_2, clashB, Ev_ifM]
      by_cases h : f' ≤ f <;> simp [h, Ev_ifM]
    · simp [-thenS_nx]
      rw [thenS_nx, EvS_cons]
      simp [t_do_clash_2, clashB, Ev_ifM]
      by_cases h : f ≤ f' <;> simp [h, Ev_ifM]
theorem look_words_ok {k : Nat} {ws : List Wo} (hl : ws.length < 100000) (h : ∀ x ∈ ws, ∀ y ∈ ws, clashB x y = false) : EvF (fnSem mod (k + 2)) "look_words" [.val (.list (ws.map WoD))] fun r _ => r = .val .none := by
  refine EvF_fn (f := f_look_words) (by kernel_rfl) (e_look_words _) rfl (show EvS (s_look_words _) [some (.val (.list (ws.map WoD))), none, none] _ from ?_)
  have hcap : cap = 16777216 := rfl
  have at_ : ∀ i : Nat, i < ws.length → ∃ w ∈ ws, atI (ws.map WoD) (i : Int) = some (WoD w) := fun i hi => ⟨ws[i], List.getElem_mem hi, by
    unfold atI
    rw [ixN_nat (by simpa using hi)]
    simp [hi]⟩
  simp [s_look_words, Ev_rangeM1 (small62_of (show -(2 ^ 62) ≤ (ws.length : Int) by omega) (by omega))]
  obtain ⟨P, hP⟩ : ∃ P : List D → DL.Env → Prop, ∀ ds e, P ds e ↔ ∃ (i : Nat) (o1 o2 : Option B), i ≤ ws.length ∧ ds = rangeD i (ws.length - i) ∧ e = [some (.val (.list (ws.map WoD))), o1, o2] := ⟨_, fun _ _ => Iff.rfl⟩
  refine EvS_loop P ((hP _ _).mpr ⟨0, none, none, by omega, rfl, rfl⟩) ?_ ?_
  · intro d ds e hh
    obtain ⟨i, o1, o2, hi, hd, rfl⟩ := (hP _ _).mp hh
    have hlt : i < ws.length := by
      rcases Nat.lt_or_ge i ws.length with h | h
      · exact h
      · rw [show ws.length - i = 0 by omega] at hd
        cases hd
    rw [show ws.length - i = (ws.length - (i + 1)) + 1 by omega, rangeD_cons] at hd
    cases hd
    obtain ⟨x, hx, ex⟩ := at_ i hlt
    simp [Ev_rangeM2 (small62_of (show -(2 ^ 62) ≤ (i : Int) + 1 by omega) (by omega)) (small62_of (show -(2 ^ 62) ≤ (ws.length : Int) by omega) (by omega))]
    obtain ⟨P2, hP2⟩ : ∃ P2 : List D → DL.Env → Prop, ∀ ds e, P2 ds e ↔ ∃ (j : Nat) (o2 : Option B), j ≤ ws.length ∧ ds = rangeD j (ws.length - j) ∧ e = [some (.val (.list (ws.map WoD))), some (.val (.int (i : Int))), o2] := ⟨_, fun _ _ => Iff.rfl⟩
    refine EvS_loop P2 ((hP2 _ _).mpr ⟨i + 1, _, by omega, by congr 1; omega, rfl⟩) ?_ ?_
    · intro d ds e hh
      obtain ⟨j, o2, hj, hd, rfl⟩ := (hP2 _ _).mp hh
      have hlt2 : j < ws.length := by
        rcases Nat.lt_or_ge j ws.length with h | h
        · exact h
        · rw [show ws.length - j = 0 by omega] at hd
          cases hd
      rw [show ws.length - j = (ws.length - (j + 1)) + 1 by omega, rangeD_cons] at hd
      cases hd
      obtain ⟨y, hy, ey⟩ := at_ j hlt2
      simp [ex, ey]
      refine do_clash_ok.mono ?_
      rintro r _ rfl
      simp [h x hx y hy]
      exact (hP2 _ _).mpr ⟨j + 1, _, by omega, rfl, rfl⟩
    · intro e hh
      obtain ⟨j, o2, hj, hd, rfl⟩ := (hP2 _ _).mp hh
      simp
      exact (hP _ _).mpr ⟨i + 1, _, _, by omega, rfl, rfl⟩
  · intro e hh
    obtain ⟨i, o1, o2, hi, hd, rfl⟩ := (hP _ _).mp hh
    simp
theorem foldl_maxI : ∀ {l : List Nat} {a : Nat}, (l.map fun x : Nat => (x : Int)).foldl max (a : Int) = ((l.foldl max a : Nat) : Int)
  | [], a => rfl
  | x :: l, a => by
    rw [List.map_cons, List.foldl_cons, List.foldl_cons, ← foldl_maxI]
    congr 1
    omega
theorem foldl_minI : ∀ {l : List Nat} {a : Nat}, (l.map fun x : Nat => (x : Int)).foldl min (a : Int) = ((l.foldl min a : Nat) : Int)
  | [], a => rfl
  | x :: l, a => by
    rw [List.map_cons, List.foldl_cons, List.foldl_cons, ← foldl_minI]
    congr 1
    omega
theorem maxDS_lo {l : List Nat} : maxDS [.list (l.map PNt), .int 0] = some (.val (PNt (l.foldl max 0))) := by
  have e : ∀ (l : List D) (d : D), flatD d = true → maxDS [.list l, d] = (match ints? l with
      | some ns => (maxDL d ns).map B.val
      | none => none) := fun l d h => by
    show (if flatD d = true then _ else _) = _
    rw [if_pos h]
    all_goals rfl
  have e2 : l.map PNt = (l.map fun x : Nat => (x : Int)).map PyData.int := by simp
  rw [e2, e _ _ rfl, ints?_map]
  cases l with
  | nil => rfl
  | cons x l =>
    show some (B.val (.int ((l.map fun x : Nat => (x : Int)).foldl max (x : Int)))) = _
    rw [foldl_maxI, List.foldl_cons, Nat.zero_max]
theorem minDS_hi {l : List Nat} {m : Nat} : minDS [.list (l.map PNt), .int (m : Int)] = some (.val (PNt (match l with
    | [] => m
    | x :: xs => xs.foldl min x))) := by
  have e : ∀ (l : List D) (d : D), flatD d = true → minDS [.list l, d] = (match ints? l with
      | some ns => (minDL d ns).map B.val
      | none => none) := fun l d h => by
    show (if flatD d = true then _ else _) = _
    rw [if_pos h]
    all_goals rfl
  have e2 : l.map PNt = (l.map fun x : Nat => (x : Int)).map PyData.int := by simp
  rw [e2, e _ _ rfl, ints?_map]
  cases l with
  | nil => rfl
  | cons x l =>
    show some (B.val (.int ((l.map fun x : Nat => (x : Int)).foldl min (x : Int)))) = _
    rw [foldl_minI]
theorem max_lo {ws : List Wo} {i : Nat} : maxDS [.list ((ws.filter fun w : Wo => w.1 && decide (w.2.2 ≤ i)).map (PNt ∘ fun w : Wo => w.2.1 + 1)), .int 0] = some (.val (PNt (loP ws i))) := by
  rw [← List.map_map, maxDS_lo]
  rfl
theorem min_hi {ws : List Wo} {i m : Nat} : minDS [.list ((ws.filter fun w : Wo => !w.1 && decide (i ≤ w.2.2)).map (PNt ∘ fun w : Wo => w.2.1)), .int (m : Int)] = some (.val (PNt (hiP m ws i))) := by
  rw [← List.map_map, minDS_hi]
  rfl
abbrev BdD (p : Nat × Nat) : D := .tuple [.int (p.1 : Int), .int (p.2 : Int)]
theorem bounds_ok {k : Nat} {cs fs : List Int} {ws : List Wo} (hc : cs.length < 100000) (hf : fs.length < 100000) (hl : ws.length < 100000) (h : ∀ x ∈ ws, ∀ y ∈ ws, clashB x y = false) :
    EvF (fnSem mod (k + 3)) "bounds" [.val (IL cs), .val (IL fs), .val (.list (ws.map WoD))] fun r _ => r = .lst ((bnds cs.length fs.length ws).map BdD) := by
  refine EvF_fn (f := f_bounds) (by kernel_rfl) (e_bounds _) rfl (show EvS (s_bounds _) [some (.val (IL cs)), some (.val (IL fs)), some (.val (.list (ws.map WoD))), none, none, none, none, none, none, none] _ from ?_)
  have hcap : cap = 16777216 := rfl
  rw [z_bounds, EvS_cons]
  simp [t_bounds_0, -thenS_nx]
  refine (look_words_ok hl h).mono ?_
  rintro r _ rfl
  try simp [-thenS_nx]
  rw [thenS_nx, EvS_cons]
  simp [t_bounds_1, -thenS_nx]
  rw [thenS_nx, EvS_cons]
  simp [t_bounds_2, Ev_rangeM1 (small62_of (show -(2 ^ 62) ≤ (fs.length : Int) by omega) (by omega)), -thenS_nx]
  obtain ⟨P, hP⟩ : ∃ P : List D → DL.Env → Prop, ∀ ds e, P ds e ↔ ∃ (i : Nat) (o4 o5 o6 : Option B), i ≤ fs.length ∧ ds = rangeD i (fs.length - i) ∧
    e = [some (.val (IL cs)), some (.val (IL fs)), some (.val (.list (ws.map WoD))), some (.lst (((List.range i).map fun f => (loP ws f, hiP cs.length ws f)).map BdD)), o4, o5, o6, none, none, none] := ⟨_, fun _ _ => Iff.rfl⟩
  refine EvS_loop P ((hP _ _).mpr ⟨0, none, none, none, by omega, rfl, rfl⟩) ?_ ?_
  · intro d ds e hh
    obtain ⟨i, o4, o5, o6, hi, hd, rfl⟩ := (hP _ _).mp hh
    have hlt : i < fs.length := by
      rcases Nat.lt_or_ge i fs.length with h | h
      · exact h
      · rw [show fs.length - i = 0 by omega] at hd
        cases hd
    rw [show fs.length - i = (fs.length - (i + 1)) + 1 by omega, rangeD_cons] at hd
    cases hd
    simp [t_bounds_2_0, -thenS_nx]
    refine lc_filter WoD PNt (fun w => w.2.1 + 1) (fun w => w.1 && decide (w.2.2 ≤ i)) ?_
    simp [-thenS_nx]
    refine ⟨ws, rfl, by omega, ?_, ?_⟩
    · rintro ⟨b, c, f⟩ _
      simp [wipeE, cmp_cut]
      by_cases hf : f ≤ i <;> cases b <;> simp [Ev_ifM, hf]
    · simp [keepE, -thenS_nx]
      rw [max_lo]
      simp [-thenS_nx]
      rw [thenS_nx, EvS_cons]
      simp [t_bounds_2_1, -thenS_nx]
      refine lc_filter WoD PNt (fun w => w.2.1) (fun w => !w.1 && decide (i ≤ w.2.2)) ?_
      simp [-thenS_nx]
      refine ⟨ws, rfl, by omega, ?_, ?_⟩
      · rintro ⟨b, c, f⟩ _
        simp [wipeE, cmp_fill]
        by_cases hf : i ≤ f <;> cases b <;> simp [Ev_ifM, hf]
      · simp [keepE, -thenS_nx]
        rw [min_hi]
        simp [-thenS_nx]
        rw [thenS_nx, EvS_cons]
        simp [t_bounds_2_2]
        exact ⟨by omega, (hP _ _).mpr ⟨i + 1, _, _, _, by omega, rfl, by rw [List.range_succ, List.map_append, List.map_append, List.map_map]; rfl⟩⟩
  · intro e hh
    obtain ⟨i, o4, o5, o6, hi, hd, rfl⟩ := (hP _ _).mp hh
    have : i = fs.length := by
      rcases Nat.lt_or_ge i fs.length with h | h
      · rw [show fs.length - i = (fs.length - (i + 1)) + 1 by omega, rangeD_cons] at hd
        cases hd
      · omega
    subst this
    simp [t_bounds_3, bnds]
theorem bounds_eq {k : Nat} {cs fs : List Int} {ws : List Wo} {Q : B → Prop} (hc : cs.length < 100000) (hf : fs.length < 100000) (hl : ws.length < 100000) (h : ∀ x ∈ ws, ∀ y ∈ ws, clashB x y = false) :
    EvF (fnSem mod (k + 3)) "bounds" [.val (IL cs), .val (IL fs), .val (.list (ws.map WoD))] (fun r _ => Q r) = Q (.lst ((bnds cs.length fs.length ws).map BdD)) := EvF_eq (bounds_ok hc hf hl h)
end LK

namespace LK
open PySem PySem.W PySem.Spec PyProof.Rows L2 DL
/-! ### how many orders -/
def rowN (m : Nat) (ps : List (Nat × Nat)) : List Nat := (List.range (m + 1)).map (nP ps)
def rowsP (m : Nat) : List (Nat × Nat) → List (List Nat)
  | [] => [rowN m []]
  | p :: ps => rowN m (p :: ps) :: rowsP m ps
abbrev RD (r : List Nat) : D := .list (r.map PNt)
theorem rowsP_len {m : Nat} : ∀ {ps : List (Nat × Nat)}, (rowsP m ps).length = ps.length + 1
  | [] => rfl
  | p :: ps => congrArg Nat.succ rowsP_len
theorem rowsP_head {m : Nat} {ps : List (Nat × Nat)} : ∃ l, rowsP m ps = rowN m ps :: l := by
  cases ps with
  | nil => exact ⟨[], rfl⟩
  | cons p ps => exact ⟨_, rfl⟩
theorem cut_any {α : Type} {xs : List α} {i j : Nat} (h : i ≤ xs.length) (h2 : j ≤ xs.length) : cutL xs (some (i : Int)) (some (j : Int)) = (xs.drop i).take (j - i) := by
  unfold cutL HT.sIx
  dsimp only
  rw [if_neg (by omega), if_neg (by omega), Int.toNat_natCast, Int.toNat_natCast, Nat.min_eq_left h, Nat.min_eq_left h2]
theorem sum_cut {f : Nat → Nat} {n : Nat} : ∀ {k a : Nat}, a + k ≤ n → ((((List.range n).map f).drop a).take k).sum = sumF f a k
  | 0, a, _ => by simp [sumF]
  | k + 1, a, h => by
    rw [List.drop_eq_getElem_cons (by simp; omega), List.take_succ_cons, List.sum_cons, sum_cut (by omega)]
    simp [sumF]
theorem sum_ps {l : List Nat} : sumS [.list (l.map PNt)] = some (.val (PNt l.sum)) := by
  have e2 : l.map PNt = (l.map fun x : Nat => (x : Int)).map PyData.int := by simp
  have h : ∀ (l : List Nat), ((l.map fun x : Nat => (x : Int)).sum) = ((l.sum : Nat) : Int) := fun l => by
    induction l with
    | nil => rfl
    | cons x l ih => simp [ih]
  unfold sumS
  rw [e2]
  dsimp only
  rw [ints?_map]
  dsimp only
  rw [h]
abbrev WyF (m : Nat) (bs : List (Nat × Nat)) : List (Str × FB) := [("most", .val (PNt m)), ("pairs", .val (.list (bs.map BdD))), ("rows", .val (.list ((rowsP m bs).map RD)))]
theorem ways_mk {k : Nat} {cs fs : List Int} {ws : List Wo} (hc : cs.length < 1000) (hf : fs.length < 1000) (hl : ws.length < 100000) (h : ∀ x ∈ ws, ∀ y ∈ ws, clashB x y = false) (hb : ∀ p ∈ bnds cs.length fs.length ws, p.1 ≤ p.2 ∧ p.2 ≤ cs.length) :
    EvF (fnSem mod (k + 5)) "Ways" [.val (IL cs), .val (IL fs), .val (.list (ws.map WoD))] fun r _ => r = .ins "Ways" (WyF cs.length (bnds cs.length fs.length ws)) := by
  refine EvF_mk (by kernel_rfl) (by rfl) (by rfl) ?_
  refine EvF_fn (f := f_Ways___init__) (by kernel_rfl) (e_Ways___init__ _) rfl (show EvS (s_Ways___init__ _) [some (.ins "Ways" []), some (.val (IL cs)), some (.val (IL fs)), some (.val (.list (ws.map WoD))), none, none, none, none, none] _ from ?_)
  have hcap : cap = 16777216 := rfl
  obtain ⟨m, hm⟩ : ∃ m, m = cs.length := ⟨_, rfl⟩
  obtain ⟨bs, hB⟩ : ∃ bs, bs = bnds cs.length fs.length ws := ⟨_, rfl⟩
  have bl : bs.length = fs.length := by rw [hB, bnds_len]
  rw [← hB] at hb ⊢
  rw [← hm] at hb ⊢
  have p1 : putB "most" (.val (PNt m)) [] = ([("most", FB.val (PNt m))] : List (Str × FB)) := by kernel_rfl
  have p2 : putB "pairs" (.val (.list (bs.map BdD))) ([("most", FB.val (PNt m))] : List (Str × FB)) = ([("most", FB.val (PNt m)), ("pairs", .val (.list (bs.map BdD)))] : List (Str × FB)) := by kernel_rfl
  have p3 : ∀ d : D, putB "rows" (.val d) ([("most", FB.val (PNt m)), ("pairs", .val (.list (bs.map BdD)))] : List (Str × FB)) = ([("most", FB.val (PNt m)), ("pairs", .val (.list (bs.map BdD))), ("rows", .val d)] : List (Str × FB)) := fun d => by kernel_rfl
  have l1 : List.lookup (Str.ofString "most") ([("most", FB.val (PNt m)), ("pairs", .val (.list (bs.map BdD)))] : List (Str × FB)) = some (.val (PNt m)) := by kernel_rfl
  have l2 : List.lookup (Str.ofString "pairs") ([("most", FB.val (PNt m)), ("pairs", .val (.list (bs.map BdD)))] : List (Str × FB)) = some (.val (.list (bs.map BdD))) := by kernel_rfl
  rw [z_Ways___init__, EvS_cons]
  simp [t_Ways___init___0, ← hm, p1, -thenS_nx]
  rw [thenS_nx, EvS_cons]
  simp [t_Ways___init___1, -thenS_nx]
  rw [bounds_eq (by omega) (by omega) hl h, ← hB]
  simp [p2, -thenS_nx]
  rw [thenS_nx, EvS_cons]
  simp [t_Ways___init___2, l1, -thenS_nx]
  have e0 : PyData.list (List.replicate (m + 1) (PyData.int 1)) = RD (rowN m []) := by
    unfold rowN
    congr 1
    rw [List.map_map]
    apply List.ext_getElem?
    intro i
    rw [List.getElem?_replicate, List.getElem?_map]
    by_cases hi : i < m + 1
    · rw [if_pos hi, List.getElem?_range hi]
      rfl
    · rw [if_neg hi, List.getElem?_eq_none (by simpa using hi)]
      rfl
  rw [e0]
  refine ⟨⟨by omega, by omega⟩, ?_⟩
  rw [thenS_nx, EvS_cons]
  simp [t_Ways___init___3, l2, -thenS_nx]
  obtain ⟨P, hP⟩ : ∃ P : List D → DL.Env → Prop, ∀ ds e, P ds e ↔ ∃ (pre post : List (Nat × Nat)) (o5 o6 o7 : Option B), bs = pre ++ post ∧ ds = (pre.map BdD).reverse ∧
    e = [some (.ins "Ways" [("most", FB.val (PNt m)), ("pairs", .val (.list (bs.map BdD)))]), some (.val (IL cs)), some (.val (IL fs)), some (.val (.list (ws.map WoD))), some (.lst (((rowsP m post).map RD).reverse)), o5, o6, o7, none] := ⟨_, fun _ _ => Iff.rfl⟩
  refine EvS_loop P ((hP _ _).mpr ⟨bs, [], none, none, none, by simp, by simp, rfl⟩) ?_ ?_
  · intro d ds e hh
    obtain ⟨pre, post, o5, o6, o7, hb2, hd, rfl⟩ := (hP _ _).mp hh
    rcases List.eq_nil_or_concat pre with rfl | ⟨pre, p, rfl⟩
    · cases hd
    · obtain ⟨lo, hi⟩ := p
      rw [List.concat_eq_append] at hb2 hd
      rw [List.map_append, List.reverse_append] at hd
      cases hd
      obtain ⟨rest, hr⟩ := rowsP_head (m := m) (ps := post)
      have hlh := hb (lo, hi) (by rw [hb2]; simp)
      have hlen : (rowsP m post).length = post.length + 1 := rowsP_len
      have hbl : bs.length = pre.length + 1 + post.length := by rw [hb2]; simp; omega
      dsimp only at hlh
      simp [t_Ways___init___3_0, hr, -thenS_nx]
      rw [thenS_nx, EvS_cons]
      simp [t_Ways___init___3_1, l1]
      refine lc_map PNt PNt (nP ((lo, hi) :: post)) ?_
      simp [l1, Ev_rangeM1 (small62_of (show -(2 ^ 62) ≤ (m : Int) + 1 by omega) (by omega))]
      refine ⟨List.range (m + 1), rangeD0, by simp; omega, ?_, ?_⟩
      · intro d hd
        have hd : d < m + 1 := by simpa using hd
        simp [wipeE]
        have e1 : (some (if d < lo then (lo : Int) else (d : Int))) = some ((max d lo : Nat) : Int) := by
          congr 1
          split <;> omega
        have e2 : (some ((hi : Int) + 1)) = some ((hi + 1 : Nat) : Int) := rfl
        have hrl : ((rowN m post).map PNt).length = m + 1 := by simp [rowN]
        rw [e1, e2, cut_any (by rw [hrl]; omega) (by rw [hrl]; omega), ← List.map_drop, ← List.map_take, sum_ps]
        unfold rowN
        rw [sum_cut (by omega)]
        simp
        rfl
      · simp only [Ev_toD_lst]
        simp [keepE]
        have hlen2 := congrArg List.length hr
        simp [hlen] at hlen2
        refine ⟨by omega, (hP _ _).mpr ⟨pre, (lo, hi) :: post, some (.val (PNt lo)), some (.val (PNt hi)), some (.val (RD (rowN m post))), by rw [hb2]; simp, rfl, ?_⟩⟩
        have e3 : rowsP m ((lo, hi) :: post) = rowN m ((lo, hi) :: post) :: rowsP m post := rfl
        rw [e3, hr]
        simp [rowN, keepB]
  · intro e hh
    obtain ⟨pre, post, o5, o6, o7, hb2, hd, rfl⟩ := (hP _ _).mp hh
    rcases List.eq_nil_or_concat pre with rfl | ⟨pre, p, rfl⟩
    · simp at hb2
      subst hb2
      simp [t_Ways___init___4, p3]
      exact ⟨rfl, rfl⟩
    · simp at hd
theorem ways_rows {m : Nat} {bs : List (Nat × Nat)} : List.lookup (Str.ofString "rows") (WyF m bs) = some (.val (.list ((rowsP m bs).map RD))) := by kernel_rfl
theorem ways_no {m : Nat} {bs : List (Nat × Nat)} : noF (Str.ofString "all_ways") (WyF m bs) = true := by kernel_rfl
theorem all_ways_ok {k m : Nat} {bs : List (Nat × Nat)} : EvF (fnSem mod (k + 1)) "Ways.all_ways" [.ins "Ways" (WyF m bs)] fun r _ => r = .val (PNt (nP bs 0)) := by
  refine EvF_fn (f := f_Ways_all_ways) (by kernel_rfl) (e_Ways_all_ways _) rfl (show EvS (s_Ways_all_ways _) [some (.ins "Ways" (WyF m bs))] _ from ?_)
  obtain ⟨rest, hr⟩ := rowsP_head (m := m) (ps := bs)
  have h0 : rowN m bs = nP bs 0 :: (rowN m bs).tail := by unfold rowN; rw [List.range_succ_eq_map]; rfl
  simp [s_Ways_all_ways, ways_rows, hr]
  rw [h0]
  simp
theorem orders_many_ok {k : Nat} {cs fs : List Int} {ws : List Wo} (hc : cs.length < 1000) (hf : fs.length < 1000) (hl : ws.length < 100000) (h : ∀ x ∈ ws, ∀ y ∈ ws, clashB x y = false) (hb : ∀ p ∈ bnds cs.length fs.length ws, p.1 ≤ p.2 ∧ p.2 ≤ cs.length) :
    EvF (fnSem mod (k + 6)) "orders_many" [.val (IL cs), .val (IL fs), .val (.list (ws.map WoD))] fun r _ => r = .val (PNt (nP (bnds cs.length fs.length ws) 0)) := by
  refine EvF_fn (f := f_orders_many) (by kernel_rfl) (e_orders_many _) rfl (show EvS (s_orders_many _) [some (.val (IL cs)), some (.val (IL fs)), some (.val (.list (ws.map WoD)))] _ from ?_)
  simp [s_orders_many]
  refine (ways_mk hc hf hl h hb).mono ?_
  rintro r _ rfl
  simp [ways_no]
  refine all_ways_ok.mono ?_
  rintro r _ rfl
  simp
end LK

namespace LK
open PySem PySem.W PySem.Spec PyProof.Rows L2 DL
/-! ### drawn books -/
def BkOk (m : Int) (l : List Int) : Prop := (l.length : Int) ≤ m ∧ ∀ s ∈ l, 0 ≤ s
theorem take_all {α : Type} {xs : List α} {m : Int} (h : 0 ≤ m) : cutL xs none (some m) = xs.take m.toNat := by
  unfold cutL HT.sIx
  dsimp only
  rw [if_neg (by omega), List.drop_zero, Nat.sub_zero]
  rcases Nat.le_total m.toNat xs.length with h1 | h1
  · rw [Nat.min_eq_left h1]
  · rw [Nat.min_eq_right h1, List.take_of_length_le (Nat.le_refl _), List.take_of_length_le h1]
theorem law_books_wp {k n : Nat} {b0 b1 b2 size : Int} {Q : B → List (Option B) → Prop} (hb : BoxP n b0 b1 b2) (hn : n + 10000 < 2 ^ 40) (h0 : 0 ≤ size) (h1 : size ≤ 100)
    (q : ∀ (cs fs : List Int) (c0 c1 c2 : Int), BkOk size cs → BkOk size fs → BoxP (n + 3000) c0 c1 c2 → Q (.val (.tuple [IL cs, IL fs])) [some (BL c0 c1 c2), none]) : EvF (fnSem mod (k + 4)) "_law_books" [BL b0 b1 b2, .val (.int size)] Q := by
  refine EvF_fn (f := f_law_books) (by kernel_rfl) (e_law_books _) rfl (show EvS (s_law_books _) [some (.lst [.int b0, .int b1, .int b2]), some (.val (.int size)), none, none, none, none, none, none] _ from ?_)
  have hcap : cap = 16777216 := rfl
  rw [z_law_books, EvS_cons]
  simp [t_law_books_0, -thenS_nx]
  refine take_wp hb (by omega) (by decide) (by decide) fun way c0 c1 c2 w1 w2 hb => ?_
  simp [-thenS_nx]
  rw [thenS_nx, EvS_cons]
  simp [t_law_books_1, -thenS_nx]
  by_cases hw : way = 0
  · simp [hw, t_law_books_1_0, -thenS_nx]
    refine take_wp hb (by omega) (by decide) (by decide) fun u c0 c1 c2 u1 u2 hb => ?_
    simp [-thenS_nx]
    rw [thenS_nx, EvS_cons]
    have m2 : mulOk 2 size = true := mul_small' (by decide) (by decide)
    simp [t_law_books_1_1, m2, -thenS_nx]
    refine take_wp hb (by omega) (by omega) (by omega) fun v c0 c1 c2 v1 v2 hb => ?_
    simp [Ev_rangeM1 (small62_of (show -(2 ^ 62) ≤ v by omega) (by omega)), -thenS_nx]
    obtain ⟨P, hP⟩ : ∃ P : List D → DL.Env → Prop, ∀ ds e, P ds e ↔ ∃ (cs fs : List Int) (s c0 c1 c2 : Int) (o2 o7 : Option B), (∀ x ∈ cs, 0 ≤ x) ∧ (∀ x ∈ fs, 0 ≤ x) ∧ 0 ≤ s ∧ cs.length + fs.length ≤ v.toNat ∧ ds = rangeD ((cs.length + fs.length : Nat) : Int) (v.toNat - (cs.length + fs.length)) ∧ BoxP (n + 6 + 6 * (cs.length + fs.length)) c0 c1 c2 ∧
      e = [some (BL c0 c1 c2), some (.val (.int size)), o2, some (.lst (cs.map .int)), some (.lst (fs.map .int)), some (.val (.int 0)), some (.val (.int s)), o7] := ⟨_, fun _ _ => Iff.rfl⟩
    refine EvS_loop P ((hP _ _).mpr ⟨[], [], 40 + u, c0, c1, c2, none, none, by simp, by simp, by omega, by simp, by simp, by simpa using hb, rfl⟩) ?_ ?_
    · intro d ds e hh
      obtain ⟨cs, fs, s, c0, c1, c2, o2, o7, hcs, hfs, hs, hl, hd, hx, rfl⟩ := (hP _ _).mp hh
      have hlt : cs.length + fs.length < v.toNat := by
        rcases Nat.lt_or_ge (cs.length + fs.length) v.toNat with h | h
        · exact h
        · rw [show v.toNat - (cs.length + fs.length) = 0 by omega] at hd
          cases hd
      rw [show v.toNat - (cs.length + fs.length) = (v.toNat - (cs.length + fs.length + 1)) + 1 by omega, rangeD_cons] at hd
      cases hd
      simp only [EvT_setE]
      refine ⟨by simp, ?_⟩
      rw [EvS_seqS]
      unfold t_law_books_1_1_p
      refine EvS_pickApp (da := cs.map .int) (db := fs.map .int) rfl rfl ?_
      simp
      refine take_wp hx (by omega) (by decide) (by decide) fun x d0 d1 d2 x1 x2 hx => ?_
      simp
      refine take_wp hx (by omega) (by decide) (by decide) fun y d0 d1 d2 y1 y2 hx => ?_
      have m3 : mulOk x y = true := mul_small' (by omega) (by omega)
      simp [m3]
      have r1 := Int.emod_nonneg ((cs.length : Int) + (fs.length : Int) + x * y) (b := 2) (by decide)
      have r2 := Int.emod_lt_of_pos ((cs.length : Int) + (fs.length : Int) + x * y) (b := 2) (by decide)
      have e5 : (cs.length : Int) + (fs.length : Int) + 1 = ((cs.length + fs.length + 1 : Nat) : Int) := rfl
      rcases (show ((cs.length : Int) + (fs.length : Int) + x * y) % 2 = 0 ∨ ((cs.length : Int) + (fs.length : Int) + x * y) % 2 = 1 by omega) with hr | hr
      · refine .inl ⟨hr, ?_⟩
        simp [appJ]
        refine ⟨by omega, ?_⟩
        refine take_wp hx (by omega) (by decide) (by decide) fun z d0 d1 d2 z1 z2 hx => ?_
        simp
        refine (hP _ _).mpr ⟨cs ++ [s], fs, (if z < s - 1 then s - 1 - z else 0), d0, d1, d2, none, some (.val (.int ((cs.length : Int) + (fs.length : Int)))), fun t ht => ?_, hfs, by split <;> omega, by simp; omega, ?_, hx.mono (by simp; omega), ?_⟩
        · rcases List.mem_append.mp ht with h | h
          · exact hcs t h
          · rw [List.mem_singleton.mp h]; exact hs
        · rw [e5]
          congr 1
          · simp; omega
          · simp; omega
        · simp
      · refine .inr ⟨hr, ?_⟩
        simp [appJ]
        refine ⟨by omega, ?_⟩
        refine take_wp hx (by omega) (by decide) (by decide) fun z d0 d1 d2 z1 z2 hx => ?_
        simp
        refine (hP _ _).mpr ⟨cs, fs ++ [s], (if z < s - 1 then s - 1 - z else 0), d0, d1, d2, none, some (.val (.int ((cs.length : Int) + (fs.length : Int)))), hcs, fun t ht => ?_, by split <;> omega, by simp; omega, ?_, hx.mono (by simp; omega), ?_⟩
        · rcases List.mem_append.mp ht with h | h
          · exact hfs t h
          · rw [List.mem_singleton.mp h]; exact hs
        · rw [e5]
          congr 1
          · simp; omega
          · simp; omega
        · simp
    · intro e hh
      obtain ⟨cs, fs, s, c0, c1, c2, o2, o7, hcs, hfs, hs, hl, hd, hx, rfl⟩ := (hP _ _).mp hh
      have cl : ∀ l : List Int, (∀ x ∈ l, 0 ≤ x) → BkOk size (l.take size.toNat) := fun l h => ⟨by simp; omega, fun x hx => h x (List.mem_of_mem_take hx)⟩
      simp [t_law_books_1_2, take_all h0]
      rw [← List.map_take, ← List.map_take]
      exact q _ _ _ _ _ (cl cs hcs) (cl fs hfs) (hx.mono (by omega))
  · simp [hw, -thenS_nx]
    rw [thenS_nx, EvS_cons]
    simp [t_law_books_2, -thenS_nx]
    refine take_wp hb (by omega) (by omega) (by omega) fun v c0 c1 c2 v1 v2 hb => ?_
    simp [Ev_rangeM1 (small62_of (show -(2 ^ 62) ≤ v by omega) (by omega)), -thenS_nx]
    obtain ⟨P, hP⟩ : ∃ P : List D → DL.Env → Prop, ∀ ds e, P ds e ↔ ∃ (cs : List Int) (c0 c1 c2 : Int) (o7 : Option B), (∀ x ∈ cs, 0 ≤ x) ∧ cs.length + ds.length = v.toNat ∧ BoxP (n + 4 + 4 * cs.length) c0 c1 c2 ∧
      e = [some (BL c0 c1 c2), some (.val (.int size)), none, some (.lst (cs.map .int)), some (.lst []), some (.val (.int way)), none, o7] := ⟨_, fun _ _ => Iff.rfl⟩
    refine EvS_loop P ((hP _ _).mpr ⟨[], c0, c1, c2, none, by simp, by simp [rangeD], by simpa using hb, rfl⟩) ?_ ?_
    · intro d ds e hh
      obtain ⟨cs, c0, c1, c2, o7, hcs, hl, hx, rfl⟩ := (hP _ _).mp hh
      simp at hl
      have fin : ∀ (s d0 d1 d2 : Int), 0 ≤ s → BoxP (n + 4 + 4 * (cs.length + 1)) d0 d1 d2 → P ds [some (BL d0 d1 d2), some (.val (.int size)), none, some (.lst (cs.map .int ++ [.int s])), some (.lst []), some (.val (.int way)), none, some (.val d)] := fun s d0 d1 d2 hs hx =>
        (hP _ _).mpr ⟨cs ++ [s], d0, d1, d2, some (.val d), fun t ht => by
          rcases List.mem_append.mp ht with h | h
          · exact hcs t h
          · rw [List.mem_singleton.mp h]; exact hs, by simp; omega, by simpa using hx, by simp⟩
      simp [Ev_ifM]
      by_cases hw3 : way < 3
      · simp [hw3]
        refine slope_wp hx (by omega) fun s d0 d1 d2 s1 s2 hz => ?_
        simp
        exact ⟨by omega, fin s d0 d1 d2 s1 (hz.mono (by omega))⟩
      · simp [hw3]
        refine take_wp hx (by omega) (by decide) (by decide) fun s d0 d1 d2 s1 s2 hz => ?_
        simp
        exact ⟨by omega, fin s d0 d1 d2 s1 (hz.mono (by omega))⟩
    · intro e hh
      obtain ⟨cs, c0, c1, c2, o7, hcs, hl, hx, rfl⟩ := (hP _ _).mp hh
      simp at hl
      simp [-thenS_nx]
      refine take_wp hx (by omega) (by omega) (by omega) fun u c0 c1 c2 u1 u2 hb => ?_
      simp [Ev_rangeM1 (small62_of (show -(2 ^ 62) ≤ u by omega) (by omega)), -thenS_nx]
      obtain ⟨P2, hP2⟩ : ∃ P2 : List D → DL.Env → Prop, ∀ ds e, P2 ds e ↔ ∃ (fs : List Int) (c0 c1 c2 : Int) (o7 : Option B), (∀ x ∈ fs, 0 ≤ x) ∧ fs.length + ds.length = u.toNat ∧ BoxP (n + 1000 + 4 * fs.length) c0 c1 c2 ∧
        e = [some (BL c0 c1 c2), some (.val (.int size)), none, some (.lst (cs.map .int)), some (.lst (fs.map .int)), some (.val (.int way)), none, o7] := ⟨_, fun _ _ => Iff.rfl⟩
      refine EvS_loop P2 ((hP2 _ _).mpr ⟨[], c0, c1, c2, _, by simp, by simp [rangeD], hb.mono (by simp; omega), rfl⟩) ?_ ?_
      · intro d ds e hh
        obtain ⟨fs, c0, c1, c2, o7, hfs, hl2, hx, rfl⟩ := (hP2 _ _).mp hh
        simp at hl2
        have fin : ∀ (s d0 d1 d2 : Int), 0 ≤ s → BoxP (n + 1000 + 4 * (fs.length + 1)) d0 d1 d2 → P2 ds [some (BL d0 d1 d2), some (.val (.int size)), none, some (.lst (cs.map .int)), some (.lst (fs.map .int ++ [.int s])), some (.val (.int way)), none, some (.val d)] := fun s d0 d1 d2 hs hx =>
          (hP2 _ _).mpr ⟨fs ++ [s], d0, d1, d2, some (.val d), fun t ht => by
            rcases List.mem_append.mp ht with h | h
            · exact hfs t h
            · rw [List.mem_singleton.mp h]; exact hs, by simp; omega, by simpa using hx, by simp⟩
        simp [Ev_ifM]
        by_cases hw3 : way < 3
        · simp [hw3]
          refine slope_wp hx (by omega) fun s d0 d1 d2 s1 s2 hz => ?_
          simp
          exact ⟨by omega, fin s d0 d1 d2 s1 (hz.mono (by omega))⟩
        · simp [hw3]
          refine take_wp hx (by omega) (by decide) (by decide) fun s d0 d1 d2 s1 s2 hz => ?_
          simp
          exact ⟨by omega, fin s d0 d1 d2 s1 (hz.mono (by omega))⟩
      · intro e hh
        obtain ⟨fs, c0, c1, c2, o7, hfs, hl2, hx, rfl⟩ := (hP2 _ _).mp hh
        simp at hl2
        simp [t_law_books_3]
        exact q cs fs c0 c1 c2 ⟨by omega, hcs⟩ ⟨by omega, hfs⟩ (hx.mono (by omega))
end LK

namespace LK
open PySem PySem.W PySem.Spec PyProof.Rows L2 DL
/-! ### least, greatest order; what may stand -/
theorem told_ok {m n : Nat} {a : List Nat} {ws : List Wo} (h : Told m n a ws) : ∀ x ∈ ws, ∀ y ∈ ws, clashB x y = false := fun _ hx _ hy => told_clash h hx hy
theorem told_bds {m n : Nat} {a : List Nat} {ws : List Wo} (h : Told m n a ws) : ∀ p ∈ bnds m n ws, p.1 ≤ p.2 ∧ p.2 ≤ m := fun p hp => by
  obtain ⟨i, hi⟩ := List.getElem?_of_mem hp
  obtain ⟨hn, rfl⟩ := bnds_at hi
  obtain ⟨v, hv⟩ := h.get hn
  exact ⟨Nat.le_trans (lo_ok h.nd h.ok hv) (hi_ok h.nd h.le h.lt h.ok hv), hi_le h.lt⟩
theorem least_order_ok {k : Nat} {cs fs : List Int} {a : List Nat} {ws : List Wo} (hc : cs.length < 1000) (hf : fs.length < 1000) (hl : ws.length < 100000) (h : Told cs.length fs.length a ws) :
    EvF (fnSem mod (k + 4)) "least_order" [.val (IL cs), .val (IL fs), .val (.list (ws.map WoD))] fun r _ => r = .val (TX (ordB cs.length 0 ((bnds cs.length fs.length ws).map (·.2)))) := by
  refine EvF_fn (f := f_least_order) (by kernel_rfl) (e_least_order _) rfl (show EvS (s_least_order _) [some (.val (IL cs)), some (.val (IL fs)), some (.val (.list (ws.map WoD))), none, none] _ from ?_)
  have hcap : cap = 16777216 := rfl
  simp [s_least_order]
  refine lc_map BdD PNt (·.2) ?_
  simp
  rw [bounds_eq (by omega) (by omega) hl (told_ok h)]
  simp
  refine ⟨bnds cs.length fs.length ws, rfl, by rw [bnds_len]; omega, ?_, ?_⟩
  · rintro ⟨lo, hi⟩ _
    simp [wipeE]
  · simp [keepE]
    refine (order_by_ok (a := (bnds cs.length fs.length ws).map (·.2)) (bd_snd h.bd) (fun x hx => ?_) (by omega) (by simp [bnds]; omega) (by simp)).mono ?_
    · obtain ⟨p, hp, rfl⟩ := List.mem_map.mp hx
      exact (told_bds h p hp).2
    · rintro r _ rfl
      simp
theorem greatest_order_ok {k : Nat} {cs fs : List Int} {a : List Nat} {ws : List Wo} (hc : cs.length < 1000) (hf : fs.length < 1000) (hl : ws.length < 100000) (h : Told cs.length fs.length a ws) :
    EvF (fnSem mod (k + 4)) "greatest_order" [.val (IL cs), .val (IL fs), .val (.list (ws.map WoD))] fun r _ => r = .val (TX (ordB cs.length 0 ((bnds cs.length fs.length ws).map (·.1)))) := by
  refine EvF_fn (f := f_greatest_order) (by kernel_rfl) (e_greatest_order _) rfl (show EvS (s_greatest_order _) [some (.val (IL cs)), some (.val (IL fs)), some (.val (.list (ws.map WoD))), none, none] _ from ?_)
  have hcap : cap = 16777216 := rfl
  simp [s_greatest_order]
  refine lc_map BdD PNt (·.1) ?_
  simp
  rw [bounds_eq (by omega) (by omega) hl (told_ok h)]
  simp
  refine ⟨bnds cs.length fs.length ws, rfl, by rw [bnds_len]; omega, ?_, ?_⟩
  · rintro ⟨lo, hi⟩ _
    simp [wipeE]
  · simp [keepE]
    refine (order_by_ok (a := (bnds cs.length fs.length ws).map (·.1)) (bd_fst h.bd) (fun x hx => ?_) (by omega) (by simp [bnds]; omega) (by simp)).mono ?_
    · obtain ⟨p, hp, rfl⟩ := List.mem_map.mp hx
      have := told_bds h p hp
      omega
    · rintro r _ rfl
      simp
theorem alm_ord {cs fs : List Int} {b : List Nat} (hn : b.length = fs.length) (nd : Nd 0 b) (hb : ∀ x ∈ b, x ≤ cs.length) : almB cs fs (ordB cs.length 0 b) = almN cs 0 fs b := by
  have := almB_ord (cs := cs) (a := b) (fs := fs) (d := 0) hn.symm nd hb (Nat.zero_le _)
  simpa using this
theorem may_stand_ok {k : Nat} {x cs fs : List Int} {a : List Nat} {ws : List Wo} (hx : x.length < 1000000) (hc : cs.length < 1000) (hf : fs.length < 1000) (hl : ws.length < 100000) (h : Told cs.length fs.length a ws) :
    EvF (fnSem mod (k + 6)) "may_stand" [.val (IT x), .val (IL cs), .val (IL fs), .val (.list (ws.map WoD))] fun r _ => r = .val (.tuple [IT (lowP x cs fs (bnds cs.length fs.length ws)), IT (highP x cs fs (bnds cs.length fs.length ws))]) := by
  refine EvF_fn (f := f_may_stand) (by kernel_rfl) (e_may_stand _) rfl (show EvS (s_may_stand _) [some (.val (IT x)), some (.val (IL cs)), some (.val (IL fs)), some (.val (.list (ws.map WoD))), none, none, none] _ from ?_)
  have hcap : cap = 16777216 := rfl
  have bl : (bnds cs.length fs.length ws).length = fs.length := bnds_len
  have h1 : ∀ v ∈ (bnds cs.length fs.length ws).map (·.1), v ≤ cs.length := fun v hv => by
    obtain ⟨p, hp, rfl⟩ := List.mem_map.mp hv
    have := told_bds h p hp
    omega
  have h2 : ∀ v ∈ (bnds cs.length fs.length ws).map (·.2), v ≤ cs.length := fun v hv => by
    obtain ⟨p, hp, rfl⟩ := List.mem_map.mp hv
    exact (told_bds h p hp).2
  have ol := ord_len (m := cs.length) (bd_fst h.bd) h1 (Nat.zero_le _)
  have oh := ord_len (m := cs.length) (bd_snd h.bd) h2 (Nat.zero_le _)
  have cl := ord_cuts (m := cs.length) (bd_fst h.bd) h1 (Nat.zero_le _)
  have ch := ord_cuts (m := cs.length) (bd_snd h.bd) h2 (Nat.zero_le _)
  have fl : (ordB cs.length 0 ((bnds cs.length fs.length ws).map (·.1))).count false = _ := ord_fills
  have fh : (ordB cs.length 0 ((bnds cs.length fs.length ws).map (·.2))).count false = _ := ord_fills
  rw [List.length_map] at ol oh fl fh
  rw [z_may_stand, EvS_cons]
  simp [t_may_stand_0, -thenS_nx]
  refine (least_order_ok hc hf hl h).mono ?_
  rintro r _ rfl
  simp [-thenS_nx]
  refine (greatest_order_ok hc hf hl h).mono ?_
  rintro r _ rfl
  simp [-thenS_nx]
  rw [thenS_nx, EvS_cons]
  simp [t_may_stand_1, -thenS_nx]
  refine (almanac_of_ok (by omega) (by omega) (by omega)).mono ?_
  rintro r _ rfl
  simp [-thenS_nx]
  rw [behind_eq (by omega) (by rw [almB_len]; omega)]
  simp [-thenS_nx]
  rw [thenS_nx, EvS_cons]
  simp [t_may_stand_2]
  refine (almanac_of_ok (by omega) (by omega) (by omega)).mono ?_
  rintro r _ rfl
  simp
  rw [behind_eq (by omega) (by rw [almB_len]; omega)]
  simp [lowP, highP]
  rw [alm_ord (by simp [bl]) (bd_fst h.bd) h1, alm_ord (by simp [bl]) (bd_snd h.bd) h2]
  exact ⟨rfl, rfl⟩
end LK

namespace LK
open PySem PySem.W PySem.Spec PyProof.Rows L2 DL
/-! ### like data -/
theorem cmp_ne_self {d : D} (h : SeqAt.shaped d = true) : cmpS .NotEq [d, d] = some (.val (.bool false)) := by
  have hl : d.canLay0 = true := by
    unfold SeqAt.shaped at h
    exact (Bool.and_eq_true _ _ ▸ h).1
  show eqS true [d, d] = _
  unfold eqS
  dsimp only
  rw [h, PySem.SeqAt.eqv_refl d hl]
  rfl
theorem deq_nat : DEq PNt 1 := ⟨fun a => by simp [PyData.canLay0], fun a => by simp [PyData.depth], fun a b => by
  have := DEq.int.eq (a : Int) (b : Int)
  rw [this]
  exact decide_eq_decide.mpr (by omega)⟩
theorem deq_BdD : DEq BdD 2 := deq_nat.pair deq_nat
end LK

namespace LK
open PySem PySem.W PySem.Spec PyProof.Rows L2 DL
/-! what an order's words say -/
theorem told_words {cs fs : List Int} {l : List Bool} {ws : List Wo} (hc : l.count true = cs.length) (hf : l.count false = fs.length) (h : ∀ w ∈ ws, WoIn l w ∧ hasB l w = true) : Told cs.length fs.length (numsB 0 l) ws :=
  ⟨by rw [nums_len, hf], nums_nd, fun x hx => by have := nums_le x hx; omega, fun w hw => by have := (h w hw).1.1; omega, fun w hw => has_ok (h w hw).2⟩
/-- the word of a pair -/
def pairW (l : List Bool) (w : Wo) : Wo := if hasB l w then w else (false, w.2.1, w.2.2)
def everyP (n k : Nat) : List Wo := (List.range k).flatMap fun c => (List.range n).map fun f => (true, c, f)
theorem everyP_succ {n k : Nat} : everyP n (k + 1) = everyP n k ++ (List.range n).map fun f => (true, k, f) := by simp [everyP, List.range_succ]
theorem everyP_mem {n k : Nat} {w : Wo} : w ∈ everyP n k ↔ w.1 = true ∧ w.2.1 < k ∧ w.2.2 < n := by
  obtain ⟨b, c, f⟩ := w
  unfold everyP
  simp only [List.mem_flatMap, List.mem_map, List.mem_range, Prod.mk.injEq]
  constructor
  · rintro ⟨c', hc, f', hf, rfl, rfl, rfl⟩
    exact ⟨rfl, hc, hf⟩
  · rintro ⟨rfl, hc, hf⟩
    exact ⟨c, hc, f, hf, rfl, rfl, rfl⟩
theorem everyP_len {n k : Nat} : (everyP n k).length = k * n := by
  induction k with
  | zero => simp [everyP]
  | succ k ih => rw [everyP_succ, List.length_append, ih, List.length_map, List.length_range, Nat.succ_mul]
theorem pairW_ok {l : List Bool} {w : Wo} (h : WoIn l w) (ht : w.1 = true) : WoIn l (pairW l w) ∧ hasB l (pairW l w) = true := by
  obtain ⟨b, c, f⟩ := w
  cases ht
  unfold pairW
  cases hh : hasB l (true, c, f) with
  | true => exact ⟨h, by simpa using hh⟩
  | false => exact ⟨h, by rw [if_neg Bool.false_ne_true, has_or h.2, hh]; rfl⟩
theorem pairW_all {cs fs : List Int} {l : List Bool} (hc : l.count true = cs.length) (hf : l.count false = fs.length) {f v : Nat} (hv : (numsB 0 l)[f]? = some v) (c : Nat) (hcm : c < cs.length) : (decide (c < v), c, f) ∈ (everyP fs.length cs.length).map (pairW l) := by
  have hfn : f < fs.length := by
    have := (List.getElem?_eq_some_iff.mp hv).1
    rw [nums_len, hf] at this
    exact this
  refine List.mem_map.mpr ⟨(true, c, f), everyP_mem.mpr ⟨rfl, hcm, hfn⟩, ?_⟩
  unfold pairW hasB
  dsimp only
  rw [hv]
  dsimp only
  by_cases h : c < v <;> simp [h]
theorem told_every {cs fs : List Int} {l : List Bool} {ws : List Wo} (hc : l.count true = cs.length) (hf : l.count false = fs.length) (hs : ∀ w ∈ ws, w ∈ (everyP fs.length cs.length).map (pairW l)) : Told cs.length fs.length (numsB 0 l) ws :=
  told_words hc hf fun w hw => by
    obtain ⟨u, hu, rfl⟩ := List.mem_map.mp (hs w hw)
    obtain ⟨h1, h2, h3⟩ := everyP_mem.mp hu
    exact pairW_ok ⟨by omega, by omega⟩ h1
end LK

namespace LK
open PySem PySem.W PySem.Spec PyProof.Rows L2 DL
theorem raised_ok {k : Nat} {a : List Int} {c : Int} (hc : a.length < 1000000) : EvF (fnSem mod (k + 1)) "raised" [.val (IT a), .val (.int c)] fun r _ => r = .val (IT (up c a)) := by
  refine EvF_fn (f := f_raised) (by kernel_rfl) (e_raised _) rfl (show EvS (s_raised _) [some (.val (IT a)), some (.val (.int c)), none] _ from ?_)
  have hcap : cap = 16777216 := rfl
  simp [s_raised]
  refine lc_map PyData.int PyData.int (fun x => x + c) ?_
  simp
  refine ⟨a, rfl, by omega, fun x hx => ?_, ?_⟩
  · simp [wipeE]
  · simp [keepE, up]
theorem mirrored_ok {k : Nat} {a : List Int} (hc : a.length < 1000000) : EvF (fnSem mod (k + 1)) "mirrored" [.val (IT a)] fun r _ => r = .val (IT a.reverse) := by
  refine EvF_fn (f := f_mirrored) (by kernel_rfl) (e_mirrored _) rfl (show EvS (s_mirrored _) [some (.val (IT a))] _ from ?_)
  have hcap : cap = 16777216 := rfl
  simp [s_mirrored]
  try omega
end LK

namespace LK
open PySem PySem.W PySem.Spec PyProof.Rows L2 DL
/-! ### _law_below -/
def leB (a b : List Int) : Bool := (a.zip b).all fun p => decide (p.1 ≤ p.2)
theorem leB_of : ∀ {a b : List Int}, LeP a b → leB a b = true
  | [], [], _ => rfl
  | x :: a, y :: b, h => by
    have ih := leB_of h.2
    unfold leB at ih ⊢
    rw [List.zip_cons_cons, List.all_cons, ih]
    simp [h.1]
  | [], _ :: _, h => h.elim
  | _ :: _, [], h => h.elim
theorem below_ok {k : Nat} {a b : List Int} (hc : a.length < 1000000) : EvF (fnSem mod (k + 1)) "_law_below" [.val (IT a), .val (IT b)] fun r _ => r = .val (.bool (leB a b)) := by
  refine EvF_fn (f := f_law_below) (by kernel_rfl) (e_law_below _) rfl (show EvS (s_law_below _) [some (.val (IT a)), some (.val (IT b)), none, none] _ from ?_)
  have hcap : cap = 16777216 := rfl
  simp [s_law_below]
  refine lc_map (fun p : Int × Int => PyData.tuple [.int p.1, .int p.2]) PyData.bool (fun p => decide (p.1 ≤ p.2)) ?_
  simp
  refine ⟨a.zip b, by rw [← zip_pairs]; simp, by simp; omega, ?_, ?_⟩
  · rintro ⟨x, y⟩ _
    simp [wipeE]
  · simp only [Ev_toD_lst, all_bools]
    simp [leB, List.all_map]
theorem below_eq {k : Nat} {a b : List Int} {Q : B → Prop} (hc : a.length < 1000000) : EvF (fnSem mod (k + 1)) "_law_below" [.val (IT a), .val (IT b)] (fun r _ => Q r) = Q (.val (.bool (leB a b))) := EvF_eq (below_ok hc)
theorem below_true {k : Nat} {a b : List Int} {Q : B → Prop} (hc : a.length < 1000000) (h : LeP a b) : EvF (fnSem mod (k + 1)) "_law_below" [.val (IT a), .val (IT b)] (fun r _ => Q r) = Q (.val (.bool true)) := by
  rw [← leB_of h]
  exact EvF_eq (below_ok hc)
end LK

namespace LK
open PySem PySem.W PySem.Spec PyProof.Rows L2 DL
/-! ### the order of a number -/
theorem rowsP_at {m : Nat} : ∀ {bs : List (Nat × Nat)} {f : Nat}, f ≤ bs.length → (rowsP m bs)[f]? = some (rowN m (bs.drop f))
  | [], f, h => by
    have : f = 0 := by simpa using h
    subst this
    rfl
  | p :: bs, 0, _ => rfl
  | p :: bs, f + 1, h => by
    show (rowN m (p :: bs) :: rowsP m bs)[f + 1]? = _
    rw [List.getElem?_cons_succ, rowsP_at (by simpa using h)]
    rfl
theorem ways_most {m : Nat} {bs : List (Nat × Nat)} : List.lookup (Str.ofString "most") (WyF m bs) = some (.val (PNt m)) := by kernel_rfl
theorem ways_no2 {m : Nat} {bs : List (Nat × Nat)} : noF (Str.ofString "by_cut") (WyF m bs) = true := by kernel_rfl
theorem by_cut_ok {k m c f : Nat} {bs : List (Nat × Nat)} (hf : f ≤ bs.length) : EvF (fnSem mod (k + 1)) "Ways.by_cut" [.ins "Ways" (WyF m bs), .val (PNt c), .val (PNt f)] fun r b => r = .val (PNt (if c < m then nP (bs.drop f) (c + 1) else 0)) ∧ b = [some (.ins "Ways" (WyF m bs)), none, none] := by
  refine EvF_fn (f := f_Ways_by_cut) (by kernel_rfl) (e_Ways_by_cut _) rfl (show EvS (s_Ways_by_cut _) [some (.ins "Ways" (WyF m bs)), some (.val (PNt c)), some (.val (PNt f))] _ from ?_)
  simp [s_Ways_by_cut, ways_most, ways_rows, Ev_ifM]
  by_cases h : c < m
  · have h1 : atI ((rowsP m bs).map RD) (f : Int) = some (RD (rowN m (bs.drop f))) := by
      unfold atI
      rw [ixN_nat (by rw [List.length_map, rowsP_len]; omega)]
      simp [rowsP_at hf]
    have h2 : atI ((rowN m (bs.drop f)).map PNt) ((c : Int) + 1) = some (PNt (nP (bs.drop f) (c + 1))) := by
      unfold atI
      have e : ((c : Int) + 1) = ((c + 1 : Nat) : Int) := rfl
      rw [e, ixN_nat (by simp [rowN]; omega)]
      unfold rowN
      simp [List.getElem?_range (show c + 1 < m + 1 by omega)]
    simp [h, rowsP_at hf, h2]
    rfl
  · simp [h]
    rfl
theorem all_ways2 {k m : Nat} {bs : List (Nat × Nat)} : EvF (fnSem mod (k + 1)) "Ways.all_ways" [.ins "Ways" (WyF m bs)] fun r b => r = .val (PNt (nP bs 0)) ∧ b = [some (.ins "Ways" (WyF m bs))] := by
  refine EvF_fn (f := f_Ways_all_ways) (by kernel_rfl) (e_Ways_all_ways _) rfl (show EvS (s_Ways_all_ways _) [some (.ins "Ways" (WyF m bs))] _ from ?_)
  obtain ⟨rest, hr⟩ := rowsP_head (m := m) (ps := bs)
  have h0 : rowN m bs = nP bs 0 :: (rowN m bs).tail := by unfold rowN; rw [List.range_succ_eq_map]; rfl
  simp [s_Ways_all_ways, ways_rows, hr]
  rw [h0]
  simp
  rfl
theorem order_at_ok {k : Nat} {cs fs : List Int} {a : List Nat} {ws : List Wo} {num : Nat} (hc : cs.length < 1000) (hf : fs.length < 1000) (hl : ws.length < 100000) (h : Told cs.length fs.length a ws) (hn : num < nP (bnds cs.length fs.length ws) 0) :
    EvF (fnSem mod (k + 6)) "order_at" [.val (IL cs), .val (IL fs), .val (.list (ws.map WoD)), .val (PNt num)] fun r _ => ∃ l : List Bool, r = .val (TX l) ∧ l.count true = cs.length ∧ l.count false = fs.length ∧ FitN (numsB 0 l) (bnds cs.length fs.length ws) := by
  refine EvF_fn (f := f_order_at) (by kernel_rfl) (e_order_at _) rfl (show EvS (s_order_at _) [some (.val (IL cs)), some (.val (IL fs)), some (.val (.list (ws.map WoD))), some (.val (PNt num)), none, none, none, none, none, none] _ from ?_)
  have hcap : cap = 16777216 := rfl
  have e3 : (Str.ofString "") = textB [] := text_nil.symm
  rw [z_order_at, EvS_cons]
  simp [t_order_at_0, e3, -thenS_nx]
  refine (ways_mk hc hf hl (told_ok h) (told_bds h)).mono ?_
  rintro r _ rfl
  have hbb := told_bds h
  have hbl : (bnds cs.length fs.length ws).length = fs.length := bnds_len
  revert hn hbb hbl
  generalize bnds cs.length fs.length ws = bs
  intro hn hbb hbl
  simp only []
  refine ⟨fun x b hx => by
    simp [WyF] at hx
    rcases hx with hx | hx | hx <;> (rw [hx.2]; rfl), ?_⟩
  rw [thenS_nx, EvS_cons]
  simp [t_order_at_1, ways_no, -thenS_nx]
  refine all_ways2.mono ?_
  rintro r b' ⟨rfl, rfl⟩
  have hn2 : (num : Int) < (nP bs 0 : Int) := by omega
  simp [hn, hn2, -thenS_nx]
  rw [thenS_nx, EvS_cons]
  simp [t_order_at_2, -thenS_nx]
  obtain ⟨P, hP⟩ : ∃ P : Nat → DL.Env → Prop, ∀ j e, P j e ↔ ∃ (l : List Bool) (left : Nat) (o7 o8 o9 : Option B), l.length + j = cs.length + fs.length ∧ l.count true ≤ cs.length ∧ l.count false ≤ fs.length ∧ left < nP (bs.drop (l.count false)) (l.count true) ∧ FitN (numsB 0 l) bs ∧
    e = [some (.val (IL cs)), some (.val (IL fs)), some (.val (.list (ws.map WoD))), some (.val (PNt num)), some (.ins "Ways" (WyF cs.length bs)), some (.val (TX l)), some (.val (PNt left)), o7, o8, o9] := ⟨_, fun _ _ => Iff.rfl⟩
  refine EvS_while P (cs.length + fs.length) ((hP _ _).mpr ⟨[], num, none, none, none, by simp, by simp, by simp, by simpa using hn, fun i v p hv => by simp [numsB] at hv, rfl⟩) ?_
  intro j e hh
  obtain ⟨l, left, o7, o8, o9, hj, hct, hcf, hlt, hfit, rfl⟩ := (hP _ _).mp hh
  have hlen : l.count true + l.count false = l.length := by
    have h := List.length_eq_countP_add_countP (fun x => x == true) (l := l)
    have h2 : List.countP (fun a => decide ¬(a == true) = true) l = l.count false := List.countP_congr fun x _ => by cases x <;> simp
    have h3 : List.countP (fun x => x == true) l = l.count true := rfl
    omega
  have n1 : Txt.count (textB l) (Str.ofString "c") = (l.count true : Nat) := count_text true l
  have n2 : Txt.count (textB l) (Str.ofString "f") = (l.count false : Nat) := count_text false l
  have tl : lenS [TX l] = some (.val (PNt l.length)) := by
    unfold lenS
    dsimp only
    rw [text_len, if_pos (by omega)]
  simp [tl]
  by_cases hdone : l.length < cs.length + fs.length
  · have hd2 : (l.length : Int) < (cs.length : Int) + (fs.length : Int) := by omega
    obtain ⟨many, hmany⟩ : ∃ many, many = if l.count true < cs.length then nP (bs.drop (l.count false)) (l.count true + 1) else 0 := ⟨_, rfl⟩
    obtain ⟨st1, st2⟩ := pick_step (m := cs.length) (fun p hp => (hbb p hp).2) hfit hct (by omega) hlt (by omega) hlen hmany
    simp [hd2, t_order_at_2_0, n1, n2, -thenS_nx, -turnS_nx]
    rw [thenS_nx, EvS_cons]
    simp [t_order_at_2_1, ways_no2, -thenS_nx, -turnS_nx]
    refine (by_cut_ok (m := cs.length) (by omega)).mono ?_
    rintro r b' ⟨rfl, rfl⟩
    rw [← hmany]
    simp [-thenS_nx, -turnS_nx]
    rw [thenS_nx, EvS_cons]
    simp [t_order_at_2_2, Ev_ifM, -thenS_nx, -turnS_nx]
    have e1 : Str.ofString "c" = textB [true] := (text_one true).symm
    have e2 : Str.ofString "f" = textB [false] := (text_one false).symm
    by_cases hlm : left < many
    · have hlm2 : (left : Int) < (many : Int) := by omega
      simp [hlm, hlm2, e1, -thenS_nx, -turnS_nx]
      rw [aug_text (by simp; omega)]
      simp [-thenS_nx, -turnS_nx]
      rw [thenS_nx, EvS_cons]
      have s1 : opA .Sub (PNt left) (.int 0) = some (PNt left) := by
        show some (PyData.int ((left : Int) - 0)) = _
        rw [Int.sub_zero]
      simp [t_order_at_2_3, Ev_ifM, hlm, hlm2, s1]
      have hcm := st1 hlm
      refine ⟨j - 1, by omega, (hP _ _).mpr ⟨l ++ [true], left, _, _, _, by simp; omega, by simp; omega, by simp; omega, ?_, by rw [nums_c]; exact hfit, rfl⟩⟩
      rw [if_pos (by omega)] at hmany
      simp
      omega
    · have hlm2 : ¬ (left : Int) < (many : Int) := by omega
      simp [hlm, hlm2, e2, -thenS_nx, -turnS_nx]
      rw [aug_text (by simp; omega)]
      simp [-thenS_nx, -turnS_nx]
      rw [thenS_nx, EvS_cons]
      have s1 : opA .Sub (PNt left) (PNt many) = some (PNt (left - many)) := by
        show some (PyData.int ((left : Int) - (many : Int))) = _
        rw [show (left : Int) - (many : Int) = ((left - many : Nat) : Int) by omega]
      simp [t_order_at_2_3, Ev_ifM, hlm, hlm2, s1]
      obtain ⟨g1, g2, g3⟩ := st2 hlm
      refine ⟨j - 1, by omega, (hP _ _).mpr ⟨l ++ [false], left - many, _, _, _, by simp; omega, by simp; omega, by simp; omega, ?_, g2, rfl⟩⟩
      simpa using g3
  · have hd2 : ¬ (l.length : Int) < (cs.length : Int) + (fs.length : Int) := by omega
    simp [hd2, t_order_at_3]
    exact ⟨l, rfl, by omega, by omega, hfit⟩
end LK

namespace LK
open PySem PySem.W PySem.Spec PyProof.Rows L2 DL
/-! ### words exchanged, idle slopes left out -/
theorem dct_cf {b : Bool} : dctS "cut" "fill" "fill" "cut" (.str (if b then "cut" else "fill")) = some (.val (.str (if !b then "cut" else "fill"))) := by
  cases b <;> kernel_rfl
theorem exchanged_ok {k : Nat} {ws : List Wo} (hl : ws.length < 100000) : EvF (fnSem mod (k + 1)) "_law_exchanged" [.val (.list (ws.map WoD))] fun r _ => r = .lst ((ws.map xW).map WoD) := by
  refine EvF_fn (f := f_law_exchanged) (by kernel_rfl) (e_law_exchanged _) rfl (show EvS (s_law_exchanged _) [some (.val (.list (ws.map WoD))), none, none, none] _ from ?_)
  have hcap : cap = 16777216 := rfl
  simp [s_law_exchanged]
  refine lc_map WoD WoD xW ?_
  simp
  refine ⟨ws, rfl, by omega, ?_, ?_⟩
  · rintro ⟨b, c, f⟩ _
    simp [wipeE, dct_cf, xW]
  · simp [keepE]
theorem idle_out_ok {k : Nat} {l : List Int} (hl : l.length < 100000) : EvF (fnSem mod (k + 1)) "_law_idle_out" [.val (IL l), .val (.int 1)] fun r _ => r = .lst ((idl [] l).map .int) := by
  refine EvF_fn (f := f_law_idle_out) (by kernel_rfl) (e_law_idle_out _) rfl (show EvS (s_law_idle_out _) [some (.val (IL l)), some (.val (.int 1)), none, none, none] _ from ?_)
  have hcap : cap = 16777216 := rfl
  simp [s_law_idle_out]
  refine lc_filter (fun q : Nat × Int => PyData.tuple [PNt q.1, .int q.2]) PyData.int (·.2) (fun q => (l.take q.1).all fun t => decide (q.2 < t)) ?_
  simp
  refine ⟨l.mapIdx fun i s => (i + 0, s), ?_, by simp; omega, ?_, ?_⟩
  · unfold enumD
    apply List.ext_getElem?
    intro i
    simp
    cases l[i]? <;> rfl
  · rintro ⟨i, s⟩ hq
    have hi : i < l.length := by
      rw [List.mem_mapIdx] at hq
      obtain ⟨j, hj, e⟩ := hq
      cases e
      exact hj
    have ct : cutL (l.map PyData.int) none (some (i : Int)) = (l.take i).map PyData.int := by
      rw [cut_take (by rw [List.length_map]; omega), List.map_take]
    simp [wipeE]
    refine lc_map PyData.int PyData.bool (fun t => decide (s < t)) ?_
    simp [ct]
    refine ⟨l.take i, by simp, by simp; omega, ?_, ?_⟩
    · intro t _
      simp [wipeE]
    · simp [keepE]
      rw [← List.map_take, all_is]
      have m1 : mulOk 1 s = true := mul_small' (by decide) (by decide)
      cases h : (l.take i).all fun t => decide (s < t) <;> simp [h, m1, keepB]
  · have := idl_enum (l := l) (pre := [])
    simp [keepE]
    simp at this
    rw [← List.map_map, this]
end LK

namespace LK
open PySem PySem.W PySem.Spec PyProof.Rows L2 DL
/-! ### long books -/
theorem sumF_bd {f : Nat → Nat} {b : Nat} : ∀ {n lo : Nat}, (∀ c, f c ≤ b) → sumF f lo n ≤ n * b
  | 0, _, _ => by simp [sumF]
  | n + 1, lo, h => by
    have := sumF_bd (n := n) (lo := lo + 1) h
    have := h lo
    show f lo + sumF f (lo + 1) n ≤ _
    rw [Nat.succ_mul]
    omega
theorem nP_bd {m : Nat} : ∀ {ps : List (Nat × Nat)} {d : Nat}, (∀ p ∈ ps, p.2 ≤ m) → nP ps d ≤ (m + 1) ^ ps.length
  | [], d, _ => Nat.le_refl _
  | p :: ps, d, h => by
    have h1 := h p (by simp)
    have h2 : sumF (nP ps) (max d p.1) (p.2 + 1 - max d p.1) ≤ (p.2 + 1 - max d p.1) * (m + 1) ^ ps.length := sumF_bd fun c => nP_bd fun q hq => h q (by simp [hq])
    have h3 : (p.2 + 1 - max d p.1) * (m + 1) ^ ps.length ≤ (m + 1) * (m + 1) ^ ps.length := Nat.mul_le_mul_right _ (by omega)
    show sumF (nP ps) (max d p.1) (p.2 + 1 - max d p.1) ≤ _
    rw [List.length_cons, Nat.pow_succ, Nat.mul_comm ((m + 1) ^ ps.length)]
    omega
theorem right_wp {k n : Nat} {b0 b1 b2 : Int} {Q : B → List (Option B) → Prop} (hb : BoxP n b0 b1 b2) (hn : n + 100000 < 2 ^ 40)
    (q : ∀ d0 d1 d2 : Int, BoxP (n + 50000) d0 d1 d2 → Q (.val (.bool true)) [some (BL d0 d1 d2)]) : EvF (fnSem mod (k + 20)) "_law_right" [BL b0 b1 b2] Q := by
  refine EvF_fn (f := f_law_right) (by kernel_rfl) (e_law_right _) rfl (show EvS (s_law_right _) [some (.lst [.int b0, .int b1, .int b2]), none, none, none, none, none, none, none, none, none, none, none, none, none, none, none, none, none, none, none, none, none, none, none, none, none] _ from ?_)
  have hcap : cap = 16777216 := rfl
  rw [z_law_right, EvS_cons]
  simp [t_law_right_0, -thenS_nx]
  refine law_books_wp (k := k + 15) hb (by omega) (by decide) (by decide) fun cs fs c0 c1 c2 hcs hfs hb => ?_
  obtain ⟨lc, pc⟩ := hcs
  obtain ⟨lf, pf⟩ := hfs
  simp [-thenS_nx]
  rw [thenS_nx, EvS_cons]
  simp [t_law_right_1, -thenS_nx]
  refine dune_wp (k := k + 16) hb (by omega) (by decide) (by decide) fun x c0 c1 c2 hx hb => ?_
  obtain ⟨x0, xl, _⟩ := hx
  simp [-thenS_nx]
  refine law_order_wp (k := k + 16) (a := cs.length) (b := fs.length) hb (by omega) (by omega) (by omega) fun l c0 c1 c2 hlc hlf hb => ?_
  simp [-thenS_nx]
  have ll : l.length < 100 := by
    have h := List.length_eq_countP_add_countP (fun x => x == true) (l := l)
    have h2 : List.countP (fun a => decide ¬(a == true) = true) l = l.count false := List.countP_congr fun x _ => by cases x <;> simp
    have h3 : List.countP (fun x => x == true) l = l.count true := rfl
    omega
  rw [thenS_nx, EvS_cons]
  simp [t_law_right_2, -thenS_nx]
  refine lc_filter WoD WoD id (hasB l) ?_
  simp [-thenS_nx]
  refine law_words_wp (k := k + 16) hb (by omega) (by decide) (by decide) (by omega) fun ws0 c0 c1 c2 hin hwl hb => ?_
  simp [-thenS_nx]
  refine ⟨ws0, rfl, by omega, fun w hw => ?_, ?_⟩
  · simp [wipeE]
    rw [law_has_eq (by omega) (hin w hw).1 (hin w hw).2]
    cases hasB l w <;> simp
  · obtain ⟨ws, hws⟩ : ∃ ws, ws = ws0.filter (hasB l) := ⟨_, rfl⟩
    rw [← hws]
    have wl : (ws.length : Int) ≤ 20 := by
      have := List.length_filter_le (hasB l) ws0
      rw [hws]
      omega
    have wok : ∀ w ∈ ws, WoIn l w ∧ hasB l w = true := fun w hw => by
      rw [hws, List.mem_filter] at hw
      exact ⟨hin w hw.1, hw.2⟩
    have T : Told cs.length fs.length (numsB 0 l) ws := told_words hlc hlf wok
    obtain ⟨bs, hbs⟩ : ∃ bs, bs = bnds cs.length fs.length ws := ⟨_, rfl⟩
    have bl : bs.length = fs.length := by rw [hbs, bnds_len]
    have bb := T.bd
    have may_eq : ∀ {k : Nat} {Q : B → Prop} {a : List Nat} (x cs fs : List Int) (us : List Wo), x.length < 1000000 → cs.length < 1000 → fs.length < 1000 → us.length < 100000 → Told cs.length fs.length a us → EvF (fnSem mod (k + 6)) "may_stand" [.val (IT x), .val (IL cs), .val (IL fs), .val (.list (us.map WoD))] (fun r _ => Q r) = Q (.val (.tuple [IT (lowP x cs fs (bnds cs.length fs.length us)), IT (highP x cs fs (bnds cs.length fs.length us))])) := fun {k Q a} x cs fs us h1 h2 h3 h4 h5 => EvF_eq (may_stand_ok h1 h2 h3 h4 h5)
    obtain ⟨L, hL⟩ : ∃ L, L = lowP x cs fs bs := ⟨_, rfl⟩
    obtain ⟨G, hG⟩ : ∃ G, G = highP x cs fs bs := ⟨_, rfl⟩
    have Ll : L.length = x.length := by rw [hL]; exact behind_len
    have Gl : G.length = x.length := by rw [hG]; exact behind_len
    simp [keepE, keepB, -thenS_nx]
    rw [thenS_nx, EvS_cons]
    simp [t_law_right_3, -thenS_nx]
    rw [may_eq (k := k + 13) x cs fs ws (by omega) (by omega) (by omega) (by omega) T, ← hbs, ← hL, ← hG]
    simp [-thenS_nx]
    rw [thenS_nx, EvS_cons]
    simp [t_law_right_4, -thenS_nx]
    refine (orders_many_ok (k := k + 13) (by omega) (by omega) (by omega) (told_ok T) (told_bds T)).mono ?_
    rintro r _ rfl
    rw [← hbs]
    have many0 : 0 < nP bs 0 := nP_pos (e := 0) (by rw [hbs]; exact bb) (Nat.le_refl 0)
    have many1 : nP bs 0 ≤ 13 ^ 12 := by
      have h1 := nP_bd (m := 12) (ps := bs) (d := 0) fun p hp => by
        have := told_bds T p (by rw [← hbs]; exact hp)
        omega
      have h2 : (12 + 1) ^ bs.length ≤ 13 ^ 12 := Nat.pow_le_pow_right (by decide) (by omega)
      omega
    simp [-thenS_nx]
    rw [thenS_nx, EvS_cons]
    simp [t_law_right_5, -thenS_nx]
    refine lc_draw (fun d : D => d) TX 0 Box 4 (fun _ t => t.count true = cs.length ∧ t.count false = fs.length ∧ FitN (numsB 0 t) bs) ?_
    simp [Ev_rangeM1 (small62_of (show -(2 ^ 62) ≤ (12 : Int) by decide) (by decide)), -thenS_nx]
    refine ⟨rangeD 0 12, n + 6000, _, by simp, rfl, by simp, hb.box (by omega), by simp [rangeD]; omega, ?_, ?_⟩
    · rintro d _ m bx hm ⟨e0, e1, e2, rfl, hy⟩
      simp [rangeD] at hm
      simp [wipeE]
      refine take_wp hy (by omega) (by omega) (by omega) fun v f0 f1 f2 v1 v2 hz => ?_
      obtain ⟨num, rfl⟩ : ∃ num : Nat, v = (num : Int) := ⟨v.toNat, by omega⟩
      simp
      refine (order_at_ok (k := k + 13) (by omega) (by omega) (by omega) T (by rw [← hbs]; omega)).mono ?_
      rintro r _ ⟨t, rfl, t1, t2, t3⟩
      simp
      exact ⟨t, BL f0 f1 f2, rfl, ⟨t1, t2, by rw [hbs]; exact t3⟩, hz.box (by omega), rfl⟩
    · rintro ts bx hl2 hr ⟨e0, e1, e2, rfl, hy⟩
      simp [keepE, keepB, -thenS_nx]
      have tsl : ts.length = 12 := by rw [hl2]; simp [rangeD]
      have hts : ∀ t ∈ ts ++ [l], t.count true = cs.length ∧ t.count false = fs.length ∧ FitN (numsB 0 t) bs := fun t ht => by
        rcases List.mem_append.mp ht with h | h
        · obtain ⟨i, hi⟩ := List.getElem?_of_mem h
          have hlt := (List.getElem?_eq_some_iff.mp hi).1
          exact hr i (rangeD 0 12)[i] t (List.getElem?_eq_getElem (by omega)) hi
        · rw [List.mem_singleton.mp h]
          refine ⟨hlc, hlf, fun i v p hv hp => ?_⟩
          rw [hbs] at hp
          obtain ⟨_, rfl⟩ := bnds_at hp
          exact ⟨lo_ok T.nd T.ok hv, hi_ok T.nd T.le T.lt T.ok hv⟩
      refine ⟨by omega, ?_⟩
      rw [thenS_nx, EvS_cons]
      simp [t_law_right_6, -thenS_nx]
      obtain ⟨P, hP⟩ : ∃ P : List D → DL.Env → Prop, ∀ ds e, P ds e ↔ ∃ (rem : List (List Bool)) (o4 o17 : Option B), (∀ t ∈ rem, t.count true = cs.length ∧ t.count false = fs.length ∧ FitN (numsB 0 t) bs) ∧ ds = rem.map TX ∧
        e = [some (BL e0 e1 e2), some (B.val (PyData.list (List.map WoD ws))), some (B.val (PNt (nP bs 0))),
          some (B.val (PyData.list (List.map TX ts ++ [TX l]))), o4, none, none, none, none, none, none,
          some (B.val (IL cs)), some (B.val (IL fs)), some (B.val (IT x)), some (B.val (TX l)), some (B.val (IT L)),
          some (B.val (IT G)), o17, none, none, none, none, none, none, none, none] := ⟨_, fun _ _ => Iff.rfl⟩
      refine EvS_loop P ((hP _ _).mpr ⟨ts ++ [l], none, none, hts, by simp, rfl⟩) ?_ ?_
      · intro d ds e hh
        obtain ⟨rem, o4, o17, hrem, hd, rfl⟩ := (hP _ _).mp hh
        cases rem with
        | nil => cases hd
        | cons t rem =>
          cases hd
          obtain ⟨t1, t2, t3⟩ := hrem t (by simp)
          have tl : t.length < 100 := by
            have h := List.length_eq_countP_add_countP (fun x => x == true) (l := t)
            have h2 : List.countP (fun a => decide ¬(a == true) = true) t = t.count false := List.countP_congr fun x _ => by cases x <;> simp
            have h3 : List.countP (fun x => x == true) t = t.count true := rfl
            omega
          have btw := fit_between (x := x) pc pf (by rw [hbs]; exact bb) nums_nd (by rw [nums_len, bl]; exact t2) t3
          rw [← hL, ← hG] at btw
          simp [t_law_right_6_0, -thenS_nx]
          refine (law_almanac_ok (k := k + 18) (cs := cs) (fs := fs) (l := t) (by omega) (by omega) (by omega) (by omega) (by omega)).mono ?_
          rintro r _ rfl
          simp [-thenS_nx]
          rw [almB_nums t1 t2, lbehind_eqv (k := k + 17) (by omega) (fun w hw => almN_pos pc pf w hw)]
          have hbl : (behind x (almN cs 0 fs (numsB 0 t))).length = x.length := behind_len
          simp [-thenS_nx]
          rw [thenS_nx, EvS_cons]
          simp [t_law_right_6_1]
          rw [below_true (k := k + 18) (by omega) btw.1]
          simp [Ev_ifM]
          rw [below_true (k := k + 18) (by omega) btw.2]
          simp
          exact (hP _ _).mpr ⟨rem, _, _, fun t ht => hrem t (by simp [ht]), rfl, rfl⟩
      · intro e hh
        obtain ⟨rem, o4, o17, hrem, hd, rfl⟩ := (hP _ _).mp hh
        have s2 : ∀ {k : Nat} {Q : B → Prop} (a b : List Int), a.length < 1000000 → b.length < 1000000 → EvF (fnSem mod (k + 3)) "_law_same" [.val (.tuple [IT a, IT b]), .val (.tuple [IT a, IT b])] (fun r _ => Q r) = Q (.val (.bool true)) := fun {k Q} a b ha hb => same_eq 3 (by
          refine ok_tup (by simp; omega) ?_
          intro d hd
          simp at hd
          rcases hd with rfl | rfl
          · exact ok_IT (n := 0) (by omega)
          · exact ok_IT (n := 0) (by omega))
        have hs2 : ∀ a : List Int, (a.map fun i => -i) = neg a := fun a => rfl
        rw [thenS_nx, EvS_cons]
        simp [t_law_right_7, -thenS_nx]
        refine (upside_ok (k := k + 18) (by omega)).mono ?_
        rintro r _ rfl
        simp [hs2, -thenS_nx]
        refine (exchanged_ok (k := k + 18) (by omega)).mono ?_
        rintro r _ rfl
        obtain ⟨wx, hwx⟩ : ∃ wx, wx = ws.map xW := ⟨_, rfl⟩
        have wxl : wx.length = ws.length := by rw [hwx, List.length_map]
        have Tx := told_xW T
        have lowx := up_low (x := x) T
        have highx := up_high (x := x) T
        rw [← hwx, ← hbs] at lowx highx
        rw [← hwx] at Tx
        rw [← hL] at highx
        rw [← hG] at lowx
        rw [← hwx]
        simp [-thenS_nx]
        rw [may_eq (k := k + 13) (neg x) fs cs wx (by rw [neg_len]; omega) (by omega) (by omega) (by omega) Tx, lowx, highx]
        simp [-thenS_nx]
        rw [thenS_nx, EvS_cons]
        simp [t_law_right_8, -thenS_nx]
        refine (upside_ok (k := k + 18) (by omega)).mono ?_
        rintro r _ rfl
        simp [hs2, -thenS_nx]
        refine (upside_ok (k := k + 18) (by omega)).mono ?_
        rintro r _ rfl
        simp [hs2, -thenS_nx]
        rw [s2 (k := k + 16) (neg G) (neg L) (by rw [neg_len]; omega) (by rw [neg_len]; omega)]
        simp [-thenS_nx]
        rw [thenS_nx, EvS_cons]
        simp [t_law_right_9, -thenS_nx]
        refine take_wp hy (by omega) (by decide) (by decide) fun v f0 f1 f2 v1 v2 hz => ?_
        simp [-thenS_nx]
        rw [thenS_nx, EvS_cons]
        simp [t_law_right_10, -thenS_nx]
        refine (mirrored_ok (k := k + 18) (by omega)).mono ?_
        rintro r _ rfl
        have cl : ∀ a : List Int, (a.map PyData.int).reverse = a.reverse.map PyData.int := fun a => by simp
        simp [-thenS_nx, -List.map_reverse]
        rw [may_eq (k := k + 13) x.reverse cs fs ws (by simp; omega) (by omega) (by omega) (by omega) T, low_rev pc pf, high_rev pc pf, ← hbs, ← hL, ← hG]
        simp [-thenS_nx, -List.map_reverse]
        refine (mirrored_ok (k := k + 18) (by omega)).mono ?_
        rintro r _ rfl
        simp [-thenS_nx, -List.map_reverse]
        refine (mirrored_ok (k := k + 18) (by omega)).mono ?_
        rintro r _ rfl
        simp [-thenS_nx, -List.map_reverse]
        rw [s2 (k := k + 16) L.reverse G.reverse (by simp; omega) (by simp; omega)]
        simp [-thenS_nx]
        rw [thenS_nx, EvS_cons]
        simp [t_law_right_11, -thenS_nx]
        refine (raised_ok (k := k + 18) (by omega)).mono ?_
        rintro r _ rfl
        simp [-thenS_nx]
        rw [may_eq (k := k + 13) (up (v - 49) x) cs fs ws (by simp [up]; omega) (by omega) (by omega) (by omega) T, low_up, high_up, ← hbs, ← hL, ← hG]
        simp [-thenS_nx]
        refine (raised_ok (k := k + 18) (by omega)).mono ?_
        rintro r _ rfl
        simp [-thenS_nx]
        refine (raised_ok (k := k + 18) (by omega)).mono ?_
        rintro r _ rfl
        simp [-thenS_nx]
        rw [s2 (k := k + 16) (up (v - 49) L) (up (v - 49) G) (by simp [up]; omega) (by simp [up]; omega)]
        simp [-thenS_nx]
        have p6 : (10 : Int) ^ (6 : Int).toNat = 1000000 := by decide
        obtain ⟨md, hmd⟩ : ∃ md : List Int → List Int, md = fun l => l.map (· % 1000000) := ⟨_, rfl⟩
        have mdl : ∀ l, (md l).length = l.length := fun l => by rw [hmd]; simp
        have mdp : ∀ l, ∀ s ∈ md l, 0 ≤ s := fun l s hs => by
          rw [hmd] at hs
          obtain ⟨u, _, rfl⟩ := List.mem_map.mp hs
          exact Int.emod_nonneg _ (by decide)
        rw [thenS_nx, EvS_cons]
        simp [t_law_right_12, p6, -thenS_nx]
        refine lc_map PyData.int PyData.int (fun v => v % 1000000) ?_
        simp [-thenS_nx]
        refine ⟨x, rfl, by omega, fun v _ => by simp [wipeE, p6], ?_⟩
        have em : ∀ l : List Int, (l.map fun v => v % 1000000) = md l := fun l => by rw [hmd]
        rw [em]
        simp [keepE, keepB, -thenS_nx]
        rw [thenS_nx, EvS_cons]
        simp [t_law_right_13, p6, -thenS_nx]
        refine lc_map IL IL md ?_
        simp [-thenS_nx]
        refine ⟨[cs, fs], rfl, by simp <;> omega, fun u hu => ?_, ?_⟩
        · have ul : u.length < 1000 := by
            simp at hu
            rcases hu with rfl | rfl <;> omega
          simp [wipeE]
          refine lc_map PyData.int PyData.int (fun v => v % 1000000) ?_
          simp
          refine ⟨u, rfl, by omega, fun v _ => by simp [wipeE, p6], ?_⟩
          rw [em]
          simp [keepE, keepB]
        simp [keepE, keepB, -thenS_nx]
        rw [thenS_nx, EvS_cons]
        simp [t_law_right_14, -thenS_nx]
        have es : ∀ l : List Int, (l.map fun v => v * 7) = sc 7 l := fun l => rfl
        have scl : ∀ l : List Int, (sc 7 l).length = l.length := fun l => by simp [sc]
        have m7 : ∀ v : Int, mulOk v 7 = true := fun v => mul_small (by decide) (by decide)
        refine lc_map PyData.int PyData.int (fun v => v * 7) ?_
        simp [-thenS_nx]
        refine ⟨md x, rfl, by rw [mdl]; omega, fun v _ => by simp [wipeE, m7], ?_⟩
        rw [es]
        simp [keepE, keepB, -thenS_nx]
        rw [thenS_nx, EvS_cons]
        simp [t_law_right_15, -thenS_nx]
        refine lc_map IT IT (sc 7) ?_
        simp [-thenS_nx]
        have Tm : Told (md cs).length (md fs).length (numsB 0 l) ws := by rw [mdl, mdl]; exact T
        rw [may_eq (k := k + 13) (md x) (md cs) (md fs) ws (by rw [mdl]; omega) (by rw [mdl]; omega) (by rw [mdl]; omega) (by omega) Tm]
        obtain ⟨bm, hbm⟩ : ∃ bm, bm = bnds (md cs).length (md fs).length ws := ⟨_, rfl⟩
        rw [← hbm]
        have q1 : (lowP (md x) (md cs) (md fs) bm).length = x.length := by rw [← mdl x]; exact behind_len
        have q2 : (highP (md x) (md cs) (md fs) bm).length = x.length := by rw [← mdl x]; exact behind_len
        have low7 := low_sc (k := 7) (by decide) (x := md x) (cs := md cs) (fs := md fs) (bs := bm)
        have high7 := high_sc (k := 7) (by decide) (x := md x) (cs := md cs) (fs := md fs) (bs := bm)
        revert q1 q2 low7 high7
        generalize lowP (md x) (md cs) (md fs) bm = Lm
        generalize highP (md x) (md cs) (md fs) bm = Gm
        intro q1 q2 low7 high7
        simp [-thenS_nx]
        refine ⟨[Lm, Gm], rfl, by simp <;> omega, fun u hu => ?_, ?_⟩
        · have ul : u.length < 1000 := by
            simp at hu
            rcases hu with rfl | rfl <;> omega
          simp [wipeE]
          refine lc_map PyData.int PyData.int (fun v => v * 7) ?_
          simp
          refine ⟨u, rfl, by omega, fun v _ => by simp [wipeE, m7], ?_⟩
          rw [es]
          simp [keepE, keepB]
        simp [keepE, keepB, -thenS_nx]
        rw [thenS_nx, EvS_cons]
        simp [t_law_right_16, -thenS_nx]
        refine lc_map PyData.int PyData.int (fun v => v * 7) ?_
        simp [-thenS_nx]
        refine ⟨md cs, rfl, by rw [mdl]; omega, fun v _ => by simp [wipeE, m7], ?_⟩
        rw [es]
        simp [keepE, keepB, -thenS_nx]
        refine lc_map PyData.int PyData.int (fun v => v * 7) ?_
        simp [-thenS_nx]
        refine ⟨md fs, rfl, by rw [mdl]; omega, fun v _ => by simp [wipeE, m7], ?_⟩
        rw [es]
        simp [keepE, keepB, -thenS_nx]
        have eB : bnds (sc 7 (md cs)).length (sc 7 (md fs)).length ws = bm := by rw [scl, scl, hbm]
        rw [may_eq (k := k + 13) (sc 7 (md x)) (sc 7 (md cs)) (sc 7 (md fs)) ws (by rw [scl, mdl]; omega) (by rw [scl, mdl]; omega) (by rw [scl, mdl]; omega) (by omega) (by rw [scl, scl]; exact Tm), eB, low7, high7]
        have sL : ∀ {k : Nat} {Q : B → Prop} (a b : List Int), a.length < 1000000 → b.length < 1000000 → EvF (fnSem mod (k + 3)) "_law_same" [.val (.list [IT a, IT b]), .val (.list [IT a, IT b])] (fun r _ => Q r) = Q (.val (.bool true)) := fun {k Q} a b ha hb => same_eq 3 (by
          refine ok_lst (by simp; omega) ?_
          intro d hd
          simp at hd
          rcases hd with rfl | rfl
          · exact ok_IT (n := 0) (by omega)
          · exact ok_IT (n := 0) (by omega))
        simp [-thenS_nx]
        rw [sL (k := k + 16) (sc 7 Lm) (sc 7 Gm) (by rw [scl]; omega) (by rw [scl]; omega)]
        simp [-thenS_nx]
        have may0 : ∀ {k : Nat} {Q : B → Prop} (x cs fs : List Int), x.length < 1000000 → cs.length < 1000 → fs.length < 1000 → EvF (fnSem mod (k + 6)) "may_stand" [.val (IT x), .val (IL cs), .val (IL fs), .val (.list [])] (fun r _ => Q r) = Q (.val (.tuple [IT (lowP x cs fs (bnds cs.length fs.length [])), IT (highP x cs fs (bnds cs.length fs.length []))])) := fun {k Q} x cs fs h1 h2 h3 => may_eq x cs fs [] h1 h2 h3 (by simp) told_nil
        rw [thenS_nx, EvS_cons]
        simp [t_law_right_17, -thenS_nx]
        rw [may0 (k := k + 13) x cs fs (by omega) (by omega) (by omega)]
        simp [-thenS_nx]
        rw [thenS_nx, EvS_cons]
        simp [t_law_right_18]
        have il1 : (idl [] cs).length ≤ cs.length := idl_len
        have il2 : (idl [] fs).length ≤ fs.length := idl_len
        refine (idle_out_ok (k := k + 18) (by omega)).mono ?_
        rintro r _ rfl
        simp
        refine (idle_out_ok (k := k + 18) (by omega)).mono ?_
        rintro r _ rfl
        simp
        rw [may0 (k := k + 13) x (idl [] cs) (idl [] fs) (by omega) (by omega) (by omega), low_idl pc pf, high_idl pc pf]
        simp
        have z1 : (lowP x cs fs (bnds cs.length fs.length [])).length = x.length := behind_len
        have z2 : (highP x cs fs (bnds cs.length fs.length [])).length = x.length := behind_len
        refine (same_refl (k := k + 16) 3 (d := .tuple [IT (lowP x cs fs (bnds cs.length fs.length [])), IT (highP x cs fs (bnds cs.length fs.length []))]) ?_).mono ?_
        · refine ok_tup (by simp; omega) ?_
          intro d hd
          simp at hd
          rcases hd with rfl | rfl
          · exact ok_IT (n := 0) (by omega)
          · exact ok_IT (n := 0) (by omega)
        · rintro r _ rfl
          exact q f0 f1 f2 (hz.mono (by omega))
end LK

namespace LK
open PySem PySem.W PySem.Spec PyProof.Rows L2 DL
theorem law_ok {k : Nat} {ns : List Int} : EvF (fnSem mod (k + 20 + 1)) "law" [.scr ns] fun r _ => r = .val (.bool true) := by
  refine EvF_fn (f := f_law) (by kernel_rfl) (e_law _) rfl (show EvS (s_law _) [some (.scr ns), none, none, none] _ from ?_)
  have hcap : cap = 16777216 := rfl
  rw [z_law, EvS_cons]
  simp [t_law_0, -thenS_nx]
  generalize hm : (1 + if (ns.length : Int) < 2 then (ns.length : Int) else 2) = m
  have m0 : 0 ≤ m := by split at hm <;> omega
  have m1 : m ≤ 3 := by split at hm <;> omega
  rw [Ev_rangeM1 (small62_of (by omega) (by omega))]
  obtain ⟨P, hP⟩ : ∃ P : List D → DL.Env → Prop, ∀ ds e, P ds e ↔ (∀ d ∈ ds, ∃ j : Nat, j ≤ 100 ∧ d = .int (j : Int)) ∧ ∃ (o1 o2 o3 : Option B), e = [some (.scr ns), o1, o2, o3] := ⟨_, fun _ _ => Iff.rfl⟩
  refine EvS_loop P ((hP _ _).mpr ⟨?_, _, _, _, rfl⟩) ?_ ?_
  · intro d hd
    obtain ⟨i, hi, rfl⟩ := List.mem_map.mp hd
    rw [List.mem_range] at hi
    exact ⟨i, by omega, by simp⟩
  · intro d ds e h
    obtain ⟨hd, o1, o2, o3, rfl⟩ := (hP _ _).mp h
    obtain ⟨j, hj, rfl⟩ := hd d (by simp)
    have hds : ∀ d ∈ ds, ∃ j : Nat, j ≤ 100 ∧ d = .int (j : Int) := fun x hx => hd x (by simp [hx])
    simp [t_law_0_0, -thenS_nx]
    refine box_wp (k := k + 20 - 2) hj fun b0 b1 b2 hb => ?_
    rw [thenS_nx, EvS_cons]
    simp [t_law_0_1, -thenS_nx]
    refine lc_draw (fun d : D => d) PyData.bool 2 Box 50000 (fun _ b => b = true) ?_
    simp [Ev_rangeM1 (small62_of (show -(2 ^ 62) ≤ (2 : Int) by decide) (by decide)), -thenS_nx]
    refine ⟨rangeD 0 2, 0, _, by simp, rfl, by simp, hb.box (by omega), by simp [rangeD], ?_, ?_⟩
    · rintro d _ m bx hm ⟨c0, c1, c2, rfl, hb⟩
      simp [rangeD] at hm
      simp [wipeE]
      refine right_wp (k := k) hb (by omega) fun d0 d1 d2 hb => ?_
      simp
      exact ⟨true, BL d0 d1 d2, rfl, rfl, hb.box (by omega), rfl⟩
    · rintro bs bx hl hr ⟨c0, c1, c2, rfl, hb⟩
      have all : bs.all id = true := List.all_eq_true.mpr fun b hb' => by
        obtain ⟨i, hi⟩ := List.getElem?_of_mem hb'
        have hlt := (List.getElem?_eq_some_iff.mp hi).1
        exact hr i (rangeD 0 2)[i] b (List.getElem?_eq_getElem (by omega)) hi
      simp only [Ev_toD_lst, all_bools, all]
      simp [keepE, all]
      exact (hP _ _).mpr ⟨hds, _, _, _, rfl⟩
  · intro e h
    obtain ⟨_, o1, o2, o3, rfl⟩ := (hP _ _).mp h
    simp [t_law_1]
theorem law_true (ns : List Int) (h : ns.length ≤ 63) : ∃ bs, DL.fnSem mod 60 "law" [.scr ns] = some (.val (.bool true), bs) := by
  obtain ⟨r, b, e, rfl⟩ := law_ok (k := 59 - 20) (ns := ns)
  exact ⟨b, e⟩
end LK

namespace LK
open PySem PySem.W PySem.Spec PyProof.Rows L2 DL
abbrev R : PySem.W.OpenRow := PySem.W.OpenLaw.row PySem.Challenge.rw_dunebooks_k76_whole_long_books_between
abbrev hk : PySem.W.Hook := He.hookD 6 mod.fa mod.fn
def ob (s : PySem.W.SharedT) : He.AlD := He.obsDG 6 mod.fa mod.fn (HandSHeadRun.getT s)
theorem ob_eq (s : PySem.W.SharedT) : ob s = hk.obs s.abs := He.obsDG_eq (HandSHeadRun.getT_eq s)
def loose : List Str := (["_wall", "Clash", "NoOrder", "raised", "mirrored", "upside", "CUT", "FILL", "cut_once", "cut_down", "blown", "dunes_of", "behind", "almanac_of", "order_by", "do_clash", "look_words", "bounds", "Ways", "orders_many", "order_at", "least_order", "greatest_order", "may_stand", "_law_cell_at", "_law_box", "_law_take", "_law_same", "_law_blown", "_law_behind"] : List Str) ++ (["_law_dune", "_law_slope", "_law_books", "_law_almanac", "_law_order", "_law_has", "_law_words", "_law_below", "_law_exchanged", "_law_idle_out", "_law_right"] : List Str)
theorem run (w : World) : HandSHeadRun.RunEq R (PySem.W.view R.prog [48]) hk ob 6000 loose w := by
  intro os
  kernel_rfl
end LK
open PySem PySem.W PySem.Calls PyProof.Rows
theorem PySem.Challenge.cw_dunebooks_k76_whole_long_books_between_holds : PySem.Challenge.rw_dunebooks_k76_whole_long_books_between.Holds := by
  w_on; o_law
  refine HandSHeadRun.head_any (r := OpenLaw.row PySem.Challenge.rw_dunebooks_k76_whole_long_books_between) (q := view (OpenLaw.row PySem.Challenge.rw_dunebooks_k76_whole_long_books_between).prog [48]) (H := LK.hk) (ob := LK.ob) (M := 6000) (loose := LK.loose) (d := HandSHeadRun.topDef (OpenLaw.row PySem.Challenge.rw_dunebooks_k76_whole_long_books_between).prog 48) (kwd := []) LK.ob_eq
    (by kernel_rfl) (fun s => by kernel_rfl) LK.run (by kernel_rfl) (by kernel_rfl) (by kernel_rfl) (by rfl) (by first | assumption | decide +kernel) (by decide +kernel) ⟨rfl, rfl, rfl, rfl, rfl, by decide +kernel⟩ ?hw ?hc
  case hw => w_witness2
  case hc =>
    refine L2.walk_ofE (l := PySem.Challenge.rw_dunebooks_k76_whole_long_books_between) (n := 63) (k := 60) (x := "_law_script") (CX := L2.CX0) rfl (by decide) (by kernel_rfl) ⟨rfl, by decide, by decide⟩ ?F (fun _ _ _ _ z => z)
    intro w mg fa h Y G hmg0
    obtain ⟨K, KX, c⟩ := Y
    have hmg : mg ("law" : PySem.Str) = some (.ref fa) := by
      have e : (HandSHeadRun.topDef (OpenLaw.row PySem.Challenge.rw_dunebooks_k76_whole_long_books_between).prog 48).name = ("law" : PySem.Str) := by kernel_rfl
      rw [← e]
      exact hmg0
    obtain ⟨fd, hb, hF⟩ := DL.facts_of (M := LK.mod) (P := (PySem.Challenge.rw_dunebooks_k76_whole_long_books_between).prog) (w := w) (k := 60) LK.oks (by decide +kernel) KX G hmg c (d := LK.f_law) (by kernel_rfl) rfl rfl rfl
    exact ⟨K, fd, _, KX, hb, fun H a ns hl _ hS => DL.law_of hS (LK.law_true ns hl), fun base _ _ => hF base⟩
