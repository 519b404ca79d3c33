import PyProof.Rows.All
import Wide.All
import OpenK.AllK
import Wide.FinOn
import HandS.ForMost
import HandS.Exc
import HandS.TryOnly
import HandS.ExcOwn
import HandS.WordsExc
import HandS.IsInst
import HandS.Style
import HandS.Walk
import HandS.Zip
import HandS.Deep
import KE.SortData
import KE.DataMinMax
import KE.DatumOrd
import HandS.TupAny
import HandS.TupMul
import HandS.Conv
import HandS.SetFor
import HandS.Strs
import HandS.RaiseMore
import HandS.TupSets
import HandS.IterVal
import HandS.HeadEnd
import HandS.HeadHook1
import HandS.Head0
import HandS.Head1
import HandS.Head2
import PySem.Challenge.RW_keysinhand_k81_whole_hits_that_fill_cycl
set_option Elab.async false
set_option linter.all false
set_option maxRecDepth 100000
set_option maxHeartbeats 4000000
/-! KH: data, stores, outcomes. -/
namespace KH
open PySem PySem.Spec PyProof.Rows L2
abbrev D := PyData
/-- a list that is changed: by its number in the store -/
def cellD (n : Nat) : D := .dict [(.int n, .none)]
/-- a def as a value -/
def fnD (n : Nat) : D := .dict [(.none, .int n)]
/-- the script -/
def scrD (ns : List Int) : D := .dict [(.list (ns.map .int), .none)]
abbrev CS := List (Option (List D))
abbrev Env := List (Option D)
inductive Exc where
  | plain (c : Nat)
  | lim (c : Nat) (n : Int)
inductive Res (α : Type) where
  | ok (a : α) (c : CS)
  | exc (e : Exc) (c : CS)
  | stuck
abbrev M (α : Type) := CS → Res α
def ret {α : Type} (a : α) : M α := fun c => .ok a c
def stk {α : Type} : M α := fun _ => .stuck
def mb {α β : Type} (m : M α) (k : α → M β) : M β := fun c => match m c with
  | .ok a c' => k a c'
  | .exc e c' => .exc e c'
  | .stuck => .stuck
/-- what is raised in it is not told -/
def nox {α : Type} (m : M α) : M α := fun c => match m c with
  | .ok a c' => .ok a c'
  | _ => .stuck
def Sat {α : Type} (r : Res α) (P : α → CS → Prop) (R : Exc → CS → Prop) : Prop := match r with
  | .ok a c => P a c
  | .exc e c => R e c
  | .stuck => False
section
variable {α β : Type} {m : M α} {k : α → M β} {c : CS}
theorem sat_bind {P : β → CS → Prop} {R : Exc → CS → Prop} : Sat (mb m k c) P R ↔ Sat (m c) (fun a c' => Sat (k a c') P R) R := by
  unfold mb
  cases m c <;> exact Iff.rfl
theorem Sat.imp {r : Res α} {P P' : α → CS → Prop} {R R' : Exc → CS → Prop} (h : Sat r P R) (hp : ∀ a c, P a c → P' a c) (hr : ∀ e c, R e c → R' e c) : Sat r P' R' := by
  cases r with
  | ok a c => exact hp _ _ h
  | exc e c => exact hr _ _ h
  | stuck => exact h
theorem sat_nox {P : α → CS → Prop} {R : Exc → CS → Prop} : Sat (nox m c) P R ↔ Sat (m c) P (fun _ _ => False) := by
  unfold nox
  cases m c <;> exact Iff.rfl
theorem sat_ret {a : α} {P : α → CS → Prop} {R : Exc → CS → Prop} : Sat (ret a c) P R ↔ P a c := Iff.rfl
theorem sat_stk {P : α → CS → Prop} {R : Exc → CS → Prop} : Sat ((stk : M α) c) P R ↔ False := Iff.rfl
end
/-! ### data in a heap -/
mutual
inductive At (K : PySem.W.Frag) (fa : List Addr) (Hs : Hp) (ca : List Addr) : V → D → Prop
  | non : At K fa Hs ca .non .none
  | bl (b : Bool) : At K fa Hs ca (.bl b) (.bool b)
  | int (i : Int) : At K fa Hs ca (.int i) (.int i)
  | str (x : Str) : At K fa Hs ca (.str x) (.str x)
  | lst {a : Addr} {xs : List V} {ds : List D} : Hs a = some (.lst xs) → xs.length ≤ sizeLine → AtAll K fa Hs ca xs ds → At K fa Hs ca (.ref a) (.list ds)
  | tup {a : Addr} {xs : List V} {ds : List D} : SqT K Hs a xs → xs.length ≤ sizeLine → AtAll K fa Hs ca xs ds → At K fa Hs ca (.ref a) (.tuple ds)
  | cell {a : Addr} {n : Nat} : ca[n]? = some a → At K fa Hs ca (.ref a) (cellD n)
  | fn {a : Addr} {n : Nat} : fa[n]? = some a → At K fa Hs ca (.ref a) (fnD n)
  | scr {a : Addr} {ns : List Int} : SqL K Hs a (ns.map V.int) → At K fa Hs ca (.ref a) (scrD ns)
inductive AtAll (K : PySem.W.Frag) (fa : List Addr) (Hs : Hp) (ca : List Addr) : List V → List D → Prop
  | nil : AtAll K fa Hs ca [] []
  | cons {v : V} {vs : List V} {d : D} {ds : List D} : At K fa Hs ca v d → AtAll K fa Hs ca vs ds → AtAll K fa Hs ca (v :: vs) (d :: ds)
end
section
variable {K : PySem.W.Frag} {fa fa' : List Addr} {Hs Hs' : Hp} {ca ca' : List Addr}
theorem seqT {H H' : Hp} {a : Addr} {xs : List V} (e : Same H H') (h : SqT K H a xs) : SqT K H' a xs := by
  rcases h with (h | ⟨o, h⟩) | h
  · exact .inl (.inl (e _ _ h))
  · exact .inl (.inr ⟨o, e _ _ h⟩)
  · exact .inr h
mutual
theorem At.mono' (hs : Same Hs Hs') (hc : ∀ (n : Nat) (a : Addr), ca[n]? = some a → ca'[n]? = some a) (hf : ∀ (n : Nat) (a : Addr), fa[n]? = some a → fa'[n]? = some a) : ∀ {d : D} {v : V}, At K fa Hs ca v d → At K fa' Hs' ca' v d
  | _, _, .non => .non
  | _, _, .bl b => .bl b
  | _, _, .int i => .int i
  | _, _, .str x => .str x
  | _, _, .lst h z r => .lst (hs _ _ h) z (AtAll.mono' hs hc hf r)
  | _, _, .tup h z r => .tup (seqT hs h) z (AtAll.mono' hs hc hf r)
  | _, _, .cell h => .cell (hc _ _ h)
  | _, _, .fn h => .fn (hf _ _ h)
  | _, _, .scr h => .scr (hs.seq h)
theorem AtAll.mono' (hs : Same Hs Hs') (hc : ∀ (n : Nat) (a : Addr), ca[n]? = some a → ca'[n]? = some a) (hf : ∀ (n : Nat) (a : Addr), fa[n]? = some a → fa'[n]? = some a) : ∀ {ds : List D} {vs : List V}, AtAll K fa Hs ca vs ds → AtAll K fa' Hs' ca' vs ds
  | _, _, .nil => .nil
  | _, _, .cons h t => .cons (At.mono' hs hc hf h) (AtAll.mono' hs hc hf t)
end
theorem At.mono (hs : Same Hs Hs') (hc : ∀ (n : Nat) (a : Addr), ca[n]? = some a → ca'[n]? = some a) {d : D} {v : V} (h : At K fa Hs ca v d) : At K fa Hs' ca' v d := h.mono' hs hc fun _ _ z => z
theorem AtAll.mono (hs : Same Hs Hs') (hc : ∀ (n : Nat) (a : Addr), ca[n]? = some a → ca'[n]? = some a) {ds : List D} {vs : List V} (h : AtAll K fa Hs ca vs ds) : AtAll K fa Hs' ca' vs ds := h.mono' hs hc fun _ _ z => z
/-- without cells and defs: with any -/
theorem AtAll.base {ds : List D} {vs : List V} (h : AtAll K [] Hs [] vs ds) : AtAll K fa Hs ca vs ds := h.mono' (Same.refl _) (fun _ _ z => by simp at z) fun _ _ z => by simp at z
theorem At.base {d : D} {v : V} (h : At K [] Hs [] v d) : At K fa Hs ca v d := h.mono' (Same.refl _) (fun _ _ z => by simp at z) fun _ _ z => by simp at z
/-- what holds of each place -/
def Pts (K : PySem.W.Frag) (fa : List Addr) (Hs : Hp) (ca : List Addr) (vs : List V) (ds : List D) : Prop := vs.length = ds.length ∧ ∀ (i : Nat) (v : V) (d : D), vs[i]? = some v → ds[i]? = some d → At K fa Hs ca v d
theorem atAll_pts : ∀ {ds : List D} {vs : List V}, AtAll K fa Hs ca vs ds ↔ Pts K fa Hs ca vs ds := by
  intro ds
  induction ds with
  | nil =>
    intro vs
    constructor
    · intro h
      cases h
      exact ⟨rfl, fun i v d h => by simp at h⟩
    · intro h
      have := h.1
      cases vs with
      | nil => exact .nil
      | cons v vs => simp at this
  | cons d ds ih =>
    intro vs
    constructor
    · intro h
      cases h with
      | cons h t =>
        have q := ih.mp t
        refine ⟨by simp [q.1], fun i v' d' h1 h2 => ?_⟩
        cases i with
        | zero =>
          simp only [List.getElem?_cons_zero, Option.some.injEq] at h1 h2
          subst h1 h2
          exact h
        | succ i =>
          simp only [List.getElem?_cons_succ] at h1 h2
          exact q.2 i _ _ h1 h2
    · intro h
      cases vs with
      | nil => have := h.1; simp at this
      | cons v vs =>
        exact .cons (h.2 0 v d rfl rfl) (ih.mpr ⟨by have := h.1; simpa using this, fun i v' d' h1 h2 => h.2 (i + 1) v' d' (by simpa using h1) (by simpa using h2)⟩)
theorem AtAll.len {vs : List V} {ds : List D} (h : AtAll K fa Hs ca vs ds) : vs.length = ds.length := (atAll_pts.mp h).1
theorem AtAll.at {vs : List V} {ds : List D} (h : AtAll K fa Hs ca vs ds) {i : Nat} {v : V} {d : D} (h1 : vs[i]? = some v) (h2 : ds[i]? = some d) : At K fa Hs ca v d := (atAll_pts.mp h).2 i v d h1 h2
theorem AtAll.get {vs : List V} {ds : List D} (h : AtAll K fa Hs ca vs ds) {i : Nat} {d : D} (h2 : ds[i]? = some d) : ∃ v, vs[i]? = some v ∧ At K fa Hs ca v d := by
  obtain ⟨hi, e⟩ := List.getElem?_eq_some_iff.mp h2
  have hv : i < vs.length := by rw [h.len]; exact hi
  exact ⟨vs[i], List.getElem?_eq_getElem hv, h.at (List.getElem?_eq_getElem hv) h2⟩
theorem AtAll.append {vs ws : List V} {ds es : List D} : AtAll K fa Hs ca vs ds → AtAll K fa Hs ca ws es → AtAll K fa Hs ca (vs ++ ws) (ds ++ es)
  | .nil, k => k
  | .cons h t, k => .cons h (AtAll.append t k)
theorem AtAll.take {vs : List V} {ds : List D} (h : AtAll K fa Hs ca vs ds) (n : Nat) : AtAll K fa Hs ca (vs.take n) (ds.take n) := by
  refine atAll_pts.mpr ⟨by simp [h.len], fun i v d h1 h2 => ?_⟩
  rw [List.getElem?_take] at h1 h2
  by_cases hi : i < n
  · rw [if_pos hi] at h1 h2
    exact h.at h1 h2
  · rw [if_neg hi] at h1
    exact absurd h1 (by simp)
theorem AtAll.drop {vs : List V} {ds : List D} (h : AtAll K fa Hs ca vs ds) (n : Nat) : AtAll K fa Hs ca (vs.drop n) (ds.drop n) := by
  refine atAll_pts.mpr ⟨by simp [h.len], fun i v d h1 h2 => ?_⟩
  rw [List.getElem?_drop] at h1 h2
  exact h.at h1 h2
theorem AtAll.set {vs : List V} {ds : List D} (h : AtAll K fa Hs ca vs ds) {v : V} {d : D} (n : Nat) (hv : At K fa Hs ca v d) : AtAll K fa Hs ca (vs.set n v) (ds.set n d) := by
  refine atAll_pts.mpr ⟨by simp [h.len], fun i v' d' h1 h2 => ?_⟩
  rw [List.getElem?_set] at h1 h2
  split at h1
  · rename_i e
    rw [if_pos e] at h2
    split at h1 <;> split at h2 <;> simp_all
  · rename_i e
    rw [if_neg e] at h2
    exact h.at h1 h2
theorem AtAll.rev {vs : List V} {ds : List D} : AtAll K fa Hs ca vs ds → AtAll K fa Hs ca vs.reverse ds.reverse
  | .nil => .nil
  | .cons h t => by
    rw [List.reverse_cons, List.reverse_cons]
    exact AtAll.append (AtAll.rev t) (.cons h .nil)
theorem AtAll.rep {vs : List V} {ds : List D} (h : AtAll K fa Hs ca vs ds) : ∀ k : Nat, AtAll K fa Hs ca (List.replicate k vs).flatten (List.replicate k ds).flatten
  | 0 => .nil
  | k + 1 => by
    rw [List.replicate_succ, List.replicate_succ, List.flatten_cons, List.flatten_cons]
    exact h.append (AtAll.rep h k)
theorem AtAll.dropLast {vs : List V} {ds : List D} (h : AtAll K fa Hs ca vs ds) : AtAll K fa Hs ca vs.dropLast ds.dropLast := by
  rw [List.dropLast_eq_take, List.dropLast_eq_take, h.len]
  exact h.take _
theorem AtAll.ints : ∀ {ns : List Int} {vs : List V}, AtAll K fa Hs ca vs (ns.map .int) → vs = ns.map V.int
  | [], _, .nil => rfl
  | n :: ns, _, .cons (.int _) t => by rw [AtAll.ints t]; rfl
theorem AtAll.of_ints : ∀ (ns : List Int), AtAll K fa Hs ca (ns.map V.int) (ns.map .int)
  | [] => .nil
  | n :: ns => .cons (.int n) (AtAll.of_ints ns)
theorem AtAll.bls : ∀ {bs : List Bool} {vs : List V}, AtAll K fa Hs ca vs (bs.map .bool) → vs = bs.map V.bl
  | [], _, .nil => rfl
  | b :: bs, _, .cons (.bl _) t => by rw [AtAll.bls t]; rfl
/-! plain data: as the hand layer reads them -/
mutual
theorem At.dp {H : Hp} (hs : Same Hs H) : ∀ {d : D} {v : V}, d.canLay0 = true → At K fa Hs ca v d → Dp K H v d
  | _, _, _, .non => .non
  | _, _, _, .bl b => .bl b
  | _, _, _, .int i => .int i
  | _, _, _, .str x => .str x
  | .list ds, _, c, .lst h _ r => .lst (SqL.of (hs _ _ h)) (AtAll.dp hs (by simpa only [PyData.canLay0] using c) r)
  | .tuple ds, _, c, .tup h _ r => .tup (seqT hs h) (AtAll.dp hs (by simpa only [PyData.canLay0] using c) r)
  | _, _, c, .cell h => by simp [cellD, PyData.canLay0] at c
  | _, _, c, .fn h => by simp [fnD, PyData.canLay0] at c
  | _, _, c, .scr h => by simp [scrD, PyData.canLay0] at c
theorem AtAll.dp {H : Hp} (hs : Same Hs H) : ∀ {ds : List D} {vs : List V}, PyData.canLayAll0 ds = true → AtAll K fa Hs ca vs ds → DpAll K H vs ds
  | _, _, _, .nil => .nil
  | d :: ds, _, c, .cons h t => by
    simp only [PyData.canLayAll0, Bool.and_eq_true] at c
    exact .cons (At.dp hs c.1 h) (AtAll.dp hs c.2 t)
end
mutual
/-- plain data hold no cells, no defs -/
theorem At.plain {ca' : List Addr} : ∀ {d : D} {v : V}, d.canLay0 = true → At K fa Hs ca v d → At K fa' Hs ca' v d
  | _, _, _, .non => .non
  | _, _, _, .bl b => .bl b
  | _, _, _, .int i => .int i
  | _, _, _, .str x => .str x
  | .list ds, _, c, .lst h z r => .lst h z (AtAll.plain (by simpa only [PyData.canLay0] using c) r)
  | .tuple ds, _, c, .tup h z r => .tup h z (AtAll.plain (by simpa only [PyData.canLay0] using c) r)
  | _, _, c, .cell h => by simp [cellD, PyData.canLay0] at c
  | _, _, c, .fn h => by simp [fnD, PyData.canLay0] at c
  | _, _, c, .scr h => by simp [scrD, PyData.canLay0] at c
theorem AtAll.plain {ca' : List Addr} : ∀ {ds : List D} {vs : List V}, PyData.canLayAll0 ds = true → AtAll K fa Hs ca vs ds → AtAll K fa' Hs ca' vs ds
  | _, _, _, .nil => .nil
  | d :: ds, _, c, .cons h t => by
    simp only [PyData.canLayAll0, Bool.and_eq_true] at c
    exact .cons (At.plain c.1 h) (AtAll.plain c.2 t)
end
end
/-! ### the store -/
structure S3 where
  H : Hp
  Hs : Hp
  ca : List Addr
structure OkS (K : PySem.W.Frag) (s : S3) (cs : CS) : Prop where
  same : Same s.Hs s.H
  len : s.ca.length = cs.length
  nd : s.ca.Nodup
  live : ∀ a ∈ s.ca, ∃ o, s.H a = some o
  cel : ∀ (n : Nat) (a : Addr) (ds : List D), s.ca[n]? = some a → cs[n]? = some (some (ds : List D)) → s.Hs a = none ∧ ∃ vs, s.H a = some (.lst vs) ∧ vs.length ≤ sizeLine ∧ AtAll K [] s.Hs [] vs ds
structure Step (s s' : S3) : Prop where
  hs : Same s.Hs s'.Hs
  ca : ∃ l, s'.ca = s.ca ++ l
  keep : ∀ b o, b ∉ s.ca → s.H b = some o → s'.H b = some o
  newS : ∀ b o, b ∉ s.ca → s.H b = some o → s.Hs b = none → s'.Hs b = none
  newC : ∀ b ∈ s'.ca, b ∈ s.ca ∨ s.H b = none
theorem Step.refl (s : S3) : Step s s := ⟨Same.refl _, ⟨[], by simp⟩, fun _ _ _ h => h, fun _ _ _ _ h => h, fun _ h => .inl h⟩
theorem Step.trans {a b c : S3} (h : Step a b) (k : Step b c) : Step a c := by
  refine ⟨h.hs.trans k.hs, ?_, fun x o hx e => ?_, fun x o hx e n => ?_, fun x hx => ?_⟩
  · obtain ⟨l, e⟩ := h.ca
    obtain ⟨m, f⟩ := k.ca
    exact ⟨l ++ m, by rw [f, e, List.append_assoc]⟩
  · refine k.keep x o (fun z => ?_) (h.keep x o hx e)
    rcases h.newC x z with q | q
    · exact hx q
    · rw [q] at e; cases e
  · have nb : x ∉ b.ca := fun z => by
      rcases h.newC x z with q | q
      · exact hx q
      · rw [q] at e; cases e
    exact k.newS x o nb (h.keep x o hx e) (h.newS x o hx e n)
  · rcases k.newC x hx with q | q
    · exact h.newC x q
    · by_cases hx' : x ∈ a.ca
      · exact .inl hx'
      · refine .inr ?_
        cases e : a.H x with
        | none => rfl
        | some o => rw [h.keep x o hx' e] at q; cases q
end KH

/-! KH: contexts, judgements, first rules. -/
namespace KH
open PySem PySem.Spec PyProof.Rows L2
structure Ctx where
  P : Program
  w : World
  K : PySem.W.Frag
  mg : Str → Option Value
  base : Heap
  N : List Str
  sc : Scope
  st : Str → Bool
  k : Nat
  E : XK
  fa : List Addr
  xc : Nat → Option Addr
structure Good (Γ : Ctx) (X : Cx) : Prop where
  prog : X.prog = Γ.P
  w : X.w = Γ.w
  K : X.K = Γ.K
  mg : X.mg = Γ.mg
  base : X.base = Γ.base
  N : X.N = Γ.N
  sc : X.env.scope = Γ.sc
  calm : X.calm = true
  room : Room Γ.k X.A
  nd : X.N.Nodup
  takes : Takes X (fun cls d _ H => Γ.E cls d H)
  sto : ∀ x, Γ.st x = true → Loc X.env.scope x ∧ (X.fn x = true ∨ X.env.scope.names.lookup x = some .local)
/-- how an exception lies in a heap -/
def excRel (Γ : Ctx) : Exc → Value → Option Addr → Hp → Prop
  | .plain c, cls, d, _ => ∃ C, Γ.xc c = some C ∧ cls = .ref C ∧ d = none
  | .lim c n, cls, d, H => ∃ C a, Γ.xc c = some C ∧ cls = .ref C ∧ d = some a ∧ H a = some (.xd [("limit", .int n)])
def Wish (Γ : Ctx) (e : Exc) (H : Hp) : Prop := ∀ cls d, excRel Γ e cls d H → Γ.E cls d H
structure EnvOk (Γ : Ctx) (s : S3) (σ : L2.St) (env : Env) : Prop where
  len : σ.length = env.length
  at_ : ∀ (i : Nat) (d : D), env[i]? = some (some d) → ∃ v, σ[i]? = some (some v) ∧ At Γ.K Γ.fa s.Hs s.ca v d
/-- behind: what is wanted of a value -/
def Beh (Γ : Ctx) (s : S3) (Q : VK) (d : D) (cs' : CS) : Prop := ∀ v s', Step s s' → OkS Γ.K s' cs' → At Γ.K Γ.fa s'.Hs s'.ca v d → Q v s'.H
def BehX (Γ : Ctx) (s : S3) (e : Exc) (cs' : CS) : Prop := ∀ s', Step s s' → OkS Γ.K s' cs' → Wish Γ e s'.H
def BehL (Γ : Ctx) (s : S3) (Q : List V → Hp → Prop) (ds : List D) (cs' : CS) : Prop := ∀ vs s', Step s s' → OkS Γ.K s' cs' → AtAll Γ.K Γ.fa s'.Hs s'.ca vs ds → Q vs s'.H
def SemE (Γ : Ctx) (t : TE) (f : Env → M D) : Prop := ∀ (σ : L2.St) (s : S3) (env : Env) (cs : CS) (Q : VK), OkS Γ.K s cs → EnvOk Γ s σ env → Sat (f env cs) (Beh Γ s Q) (BehX Γ s) → t σ s.H Q
def SE (Γ : Ctx) (e : Expr) (f : Env → M D) : Prop := ∃ t, (∀ X, Good Γ X → PE X e t) ∧ SemE Γ t f
def asB (d : D) : M Bool := match d with
  | .bool b => ret b
  | _ => stk
def SemT (Γ : Ctx) (t : TT) (f : Env → M D) : Prop := ∀ (σ : L2.St) (s : S3) (env : Env) (cs : CS) (Q : Bool → Hp → Prop), OkS Γ.K s cs → EnvOk Γ s σ env →
  Sat (f env cs) (fun d cs' => ∃ b, d = .bool b ∧ ∀ s', Step s s' → OkS Γ.K s' cs' → Q b s'.H) (BehX Γ s) → t σ s.H Q
def ST (Γ : Ctx) (e : Expr) (f : Env → M D) : Prop := ∃ t, (∀ X, Good Γ X → PT X e t) ∧ SemT Γ t f
def SemA (Γ : Ctx) (t : TA) (f : Env → M (List D)) : Prop := ∀ (σ : L2.St) (s : S3) (env : Env) (cs : CS) (Q : List V → Hp → Prop), OkS Γ.K s cs → EnvOk Γ s σ env → Sat (f env cs) (BehL Γ s Q) (BehX Γ s) → t σ s.H Q
def SA (Γ : Ctx) (es : List Expr) (f : Env → M (List D)) : Prop := ∃ t, (∀ X, Good Γ X → PA X es t) ∧ SemA Γ t f
section
variable {Γ : Ctx} {s s' s'' : S3} {σ : L2.St} {env : Env} {cs cs' : CS}
theorem pre_of {ca ca' : List Addr} (h : ∃ l, ca' = ca ++ l) : ∀ (n : Nat) (a : Addr), ca[n]? = some a → ca'[n]? = some a := fun n a e => by
  obtain ⟨l, rfl⟩ := h
  rw [List.getElem?_append_left (List.getElem?_eq_some_iff.mp e).1]
  exact e
theorem At.step {v : V} {d : D} (h : At Γ.K Γ.fa s.Hs s.ca v d) (st : Step s s') : At Γ.K Γ.fa s'.Hs s'.ca v d := h.mono st.hs (pre_of st.ca)
theorem AtAll.step {vs : List V} {ds : List D} (h : AtAll Γ.K Γ.fa s.Hs s.ca vs ds) (st : Step s s') : AtAll Γ.K Γ.fa s'.Hs s'.ca vs ds := h.mono st.hs (pre_of st.ca)
theorem EnvOk.step (h : EnvOk Γ s σ env) (st : Step s s') : EnvOk Γ s' σ env := ⟨h.len, fun i d e => let ⟨v, e1, a⟩ := h.at_ i d e; ⟨v, e1, a.step st⟩⟩
theorem BehX.step {e : Exc} (h : BehX Γ s e cs') (st : Step s s') : BehX Γ s' e cs' := fun s2 st2 ok => h s2 (st.trans st2) ok
theorem EnvOk.set (h : EnvOk Γ s σ env) {v : V} {d : D} (i : Nat) (a : At Γ.K Γ.fa s.Hs s.ca v d) : EnvOk Γ s (σ.set i (some v)) (env.set i (some d)) := by
  refine ⟨by simp [h.len], fun j d' e => ?_⟩
  rw [List.getElem?_set] at e
  by_cases hij : i = j
  · subst hij
    rw [if_pos rfl] at e
    by_cases hl : i < env.length
    · rw [if_pos hl] at e
      cases e
      exact ⟨v, by rw [List.getElem?_set_self (by rw [h.len]; exact hl)], a⟩
    · rw [if_neg hl] at e; cases e
  · rw [if_neg hij] at e
    obtain ⟨v', e', a'⟩ := h.at_ j d' e
    exact ⟨v', by rw [List.getElem?_set_ne hij]; exact e', a'⟩
theorem EnvOk.unset (h : EnvOk Γ s σ env) (i : Nat) : EnvOk Γ s (σ.set i none) (env.set i none) := by
  refine ⟨by simp [h.len], fun j d' e => ?_⟩
  rw [List.getElem?_set] at e
  by_cases hij : i = j
  · subst hij
    rw [if_pos rfl] at e
    split at e <;> cases e
  · rw [if_neg hij] at e
    obtain ⟨v', e', a'⟩ := h.at_ j d' e
    exact ⟨v', by rw [List.getElem?_set_ne hij]; exact e', a'⟩
/-- a new object that stands for ever -/
theorem step_new {o : HO} {p : Addr} (ok : OkS Γ.K s cs) (hp : s.H p = none) : Step s ⟨upd s.H p o, upd s.Hs p o, s.ca⟩ ∧ OkS Γ.K ⟨upd s.H p o, upd s.Hs p o, s.ca⟩ cs := by
  have hs : Same s.Hs (upd s.Hs p o) := fun b u e => by
    rw [upd_ne (ne_of_none (ok.same b u e) hp)]; exact e
  have np : ∀ a ∈ s.ca, a ≠ p := fun a ha => let ⟨o, e⟩ := ok.live a ha; ne_of_none e hp
  refine ⟨⟨hs, ⟨[], by simp⟩, fun b u _ e => ?_, fun b u _ e n => ?_, fun b h => .inl h⟩, ⟨fun b u e => ?_, ok.len, ok.nd, fun a ha => ?_, fun n a ds h1 h2 => ?_⟩⟩
  · show upd s.H p o b = some u
    rw [upd_ne (ne_of_none e hp)]; exact e
  · show upd s.Hs p o b = none
    rw [upd_ne (ne_of_none e hp)]; exact n
  · by_cases hb : b = p
    · subst hb
      have e' : upd s.Hs b o b = some u := e
      rw [upd_same] at e'; cases e'
      exact upd_same
    · have e' : upd s.Hs p o b = some u := e
      rw [upd_ne hb] at e'
      show upd s.H p o b = some u
      rw [upd_ne hb]; exact ok.same b u e'
  · obtain ⟨u, e⟩ := ok.live a ha
    exact ⟨u, by show upd s.H p o a = some u; rw [upd_ne (np a ha)]; exact e⟩
  · obtain ⟨h3, vs, h4, hz, h5⟩ := ok.cel n a ds h1 h2
    have na := np a (List.mem_of_getElem? h1)
    exact ⟨by show upd s.Hs p o a = none; rw [upd_ne na]; exact h3, vs, by show upd s.H p o a = _; rw [upd_ne na]; exact h4, hz, h5.mono hs fun _ _ z => z⟩
theorem new_tup {p : Addr} {vs : List V} {ds : List D} (ok : OkS Γ.K s cs) (hp : s.H p = none) (hz : vs.length ≤ sizeLine) (h : AtAll Γ.K Γ.fa s.Hs s.ca vs ds) :
    Step s ⟨upd s.H p (.tup vs), upd s.Hs p (.tup vs), s.ca⟩ ∧ OkS Γ.K ⟨upd s.H p (.tup vs), upd s.Hs p (.tup vs), s.ca⟩ cs ∧ At Γ.K Γ.fa (upd s.Hs p (.tup vs)) s.ca (.ref p) (.tuple ds) := by
  obtain ⟨h1, h2⟩ := step_new (o := .tup vs) ok hp
  exact ⟨h1, h2, .tup (SqT.of upd_same) hz (AtAll.step h h1)⟩
theorem new_lst {p : Addr} {vs : List V} {ds : List D} (ok : OkS Γ.K s cs) (hp : s.H p = none) (hz : vs.length ≤ sizeLine) (h : AtAll Γ.K Γ.fa s.Hs s.ca vs ds) :
    Step s ⟨upd s.H p (.lst vs), upd s.Hs p (.lst vs), s.ca⟩ ∧ OkS Γ.K ⟨upd s.H p (.lst vs), upd s.Hs p (.lst vs), s.ca⟩ cs ∧ At Γ.K Γ.fa (upd s.Hs p (.lst vs)) s.ca (.ref p) (.list ds) := by
  obtain ⟨h1, h2⟩ := step_new (o := .lst vs) ok hp
  exact ⟨h1, h2, .lst upd_same hz (AtAll.step h h1)⟩
end
/-! ### names, constants -/
section
variable {Γ : Ctx} {pos : Pos}
def evVar (i : Nat) : Env → M D := fun env => match env[i]? with
  | some (some d) => ret d
  | _ => stk
theorem se_var {i : Nat} {x : Str} (hN : Γ.N[i]? = some x) (hv : Vis Γ.sc x) (hd : (x == ("__debug__" : Str)) = false) (hcd : (x == ("__classdict__" : Str)) = false) : SE Γ (.Name x pos) (evVar i) := by
  refine ⟨tVar i, fun X G => pe_var (by rw [G.N]; exact hN) (by rw [G.sc]; exact hv) hd hcd, fun σ s env cs Q ok eo h => ?_⟩
  unfold evVar at h
  cases e : env[i]? with
  | none => rw [e] at h; exact h.elim
  | some od =>
    cases od with
    | none => rw [e] at h; exact h.elim
    | some d =>
      rw [e] at h
      obtain ⟨v, e1, a⟩ := eo.at_ i d e
      exact ⟨v, e1, h v s (Step.refl s) ok a⟩
def evC (d : D) : Env → M D := fun _ => ret d
theorem se_int {i j} : SE Γ (.Constant (.int i) j pos) (evC (.int i)) := ⟨_, fun X G => pe_int, fun σ s env cs Q ok eo h => h _ s (Step.refl s) ok (.int i)⟩
theorem se_bl {i j} : SE Γ (.Constant (.bool i) j pos) (evC (.bool i)) := ⟨_, fun X G => pe_bl, fun σ s env cs Q ok eo h => h _ s (Step.refl s) ok (.bl i)⟩
theorem se_non {j} : SE Γ (.Constant .none j pos) (evC .none) := ⟨_, fun X G => pe_non, fun σ s env cs Q ok eo h => h _ s (Step.refl s) ok .non⟩
theorem se_str {i j} : SE Γ (.Constant (.str i) j pos) (evC (.str i)) := ⟨_, fun X G => pe_str, fun σ s env cs Q ok eo h => h _ s (Step.refl s) ok (.str i)⟩
/-- a module's constant -/
theorem se_con {x : Str} {v : V} {u : Value} {d : D} (hg : Γ.sc.names.lookup x = some .globalImplicit) (hm : Γ.mg x = some u) (r : RelV v u) (a : At Γ.K Γ.fa (fun _ => none) [] v d) (hd : (x == ("__debug__" : Str)) = false) : SE Γ (.Name x pos) (evC d) :=
  ⟨_, fun X G => pe_glob (by show X.env.scope.names.lookup x = _; rw [G.sc]; exact hg) (by rw [G.mg]; exact hm) r hd, fun σ s env cs Q ok eo h => h _ s (Step.refl s) ok (a.mono (fun _ _ z => by cases z) fun _ _ z => by simp at z)⟩
end
/-! ### arguments, displays -/
section
variable {Γ : Ctx} {pos : Pos} {a b e : Expr} {es : List Expr} {f g : Env → M D} {fl : Env → M (List D)}
def evNil : Env → M (List D) := fun _ => ret []
def evCons (f : Env → M D) (g : Env → M (List D)) : Env → M (List D) := fun env => mb (f env) fun x => mb (g env) fun xs => ret (x :: xs)
theorem sa_nil : SA Γ [] evNil := ⟨_, fun X G => pa_nil, fun σ s env cs Q ok eo h => h [] s (Step.refl s) ok .nil⟩
def noStar : Expr → Bool
  | .Starred .. => false
  | _ => true
theorem star_of {e : Expr} {env : PySem.Env} (h : noStar e = true) : starEach (e :: es) env = (false, eval e env) :: starEach es env := by
  cases e <;> first | rfl | simp [noStar] at h
theorem sa_cons (hn : noStar e = true) (h : SE Γ e f) (hr : SA Γ es fl) : SA Γ (e :: es) (evCons f fl) := by
  obtain ⟨t, h1, h2⟩ := h
  obtain ⟨u, r1, r2⟩ := hr
  refine ⟨tCons t u, fun X G => pa_cons (h1 X G) (r1 X G) (star_of hn), fun σ s env cs Q ok eo h => ?_⟩
  refine h2 σ s env cs _ ok eo ?_
  have h := sat_bind.mp h
  refine h.imp (fun d cs1 h => ?_) fun _ _ z => z
  intro v s1 st1 ok1 a1
  refine r2 σ s1 env cs1 _ ok1 (eo.step st1) ?_
  have h := sat_bind.mp h
  refine h.imp (fun ds cs2 h => ?_) fun _ _ z => z.step st1
  intro vs s2 st2 ok2 a2
  exact h (v :: vs) s2 (st1.trans st2) ok2 (.cons (a1.step st2) a2)
def evTup (fl : Env → M (List D)) : Env → M D := fun env => mb (fl env) fun xs => if xs.length ≤ 16777216 then ret (.tuple xs) else stk
def evLst (fl : Env → M (List D)) : Env → M D := fun env => mb (fl env) fun xs => if xs.length ≤ 16777216 then ret (.list xs) else stk
theorem line_eq : (sizeLine : Nat) = 16777216 := by decide
theorem se_tup {k} (h : SA Γ es fl) : SE Γ (.Tuple es k pos) (evTup fl) := by
  obtain ⟨t, h1, h2⟩ := h
  refine ⟨tTup t, fun X G => pe_tup (h1 X G), fun σ s env cs Q ok eo h => ?_⟩
  refine h2 σ s env cs _ ok eo ?_
  have h := sat_bind.mp h
  refine h.imp (fun ds cs1 h => ?_) fun _ _ z => z
  intro vs s1 st1 ok1 a1
  by_cases hz : ds.length ≤ 16777216
  · rw [if_pos hz] at h
    have hz' : vs.length ≤ sizeLine := by rw [a1.len, line_eq]; exact hz
    refine ⟨hz', fun p hp => ?_⟩
    obtain ⟨q1, q2, q3⟩ := new_tup ok1 hp hz' a1
    exact h (.ref p) _ (st1.trans q1) q2 q3
  · rw [if_neg hz] at h; exact h.elim
theorem se_lst (h : SA Γ es fl) : SE Γ (.List es pos) (evLst fl) := by
  obtain ⟨t, h1, h2⟩ := h
  refine ⟨tLst t, fun X G => pe_lst (h1 X G), fun σ s env cs Q ok eo h => ?_⟩
  refine h2 σ s env cs _ ok eo ?_
  have h := sat_bind.mp h
  refine h.imp (fun ds cs1 h => ?_) fun _ _ z => z
  intro vs s1 st1 ok1 a1
  by_cases hz : ds.length ≤ 16777216
  · rw [if_pos hz] at h
    have hz' : vs.length ≤ sizeLine := by rw [a1.len, line_eq]; exact hz
    refine ⟨hz', fun p hp => ?_⟩
    obtain ⟨q1, q2, q3⟩ := new_lst ok1 hp hz' a1
    exact h (.ref p) _ (st1.trans q1) q2 q3
  · rw [if_neg hz] at h; exact h.elim
end
/-! ### operators -/
section
variable {Γ : Ctx} {pos : Pos} {a b e : Expr} {es : List Expr} {f g : Env → M D} {fl : Env → M (List D)}
/-- what a rule of two values asks is met by a function of data -/
def OpD (Γ : Ctx) (r : R2) (o : D → D → M D) : Prop := ∀ (s : S3) (cs : CS) (x y : V) (d e : D) (Q : VK), OkS Γ.K s cs → At Γ.K Γ.fa s.Hs s.ca x d → At Γ.K Γ.fa s.Hs s.ca y e → Sat (o d e cs) (Beh Γ s Q) (BehX Γ s) → r x y s.H Q
def UnD (Γ : Ctx) (r : V → Hp → VK → Prop) (o : D → M D) : Prop := ∀ (s : S3) (cs : CS) (x : V) (d : D) (Q : VK), OkS Γ.K s cs → At Γ.K Γ.fa s.Hs s.ca x d → Sat (o d cs) (Beh Γ s Q) (BehX Γ s) → r x s.H Q
def CallD (Γ : Ctx) (r : List V → Hp → VK → Prop) (o : List D → M D) : Prop := ∀ (s : S3) (cs : CS) (xs : List V) (ds : List D) (Q : VK), OkS Γ.K s cs → AtAll Γ.K Γ.fa s.Hs s.ca xs ds → Sat (o ds cs) (Beh Γ s Q) (BehX Γ s) → r xs s.H Q
def ev2 (o : D → D → M D) (f g : Env → M D) : Env → M D := fun env => mb (f env) fun x => mb (g env) fun y => o x y
def ev1 (o : D → M D) (f : Env → M D) : Env → M D := fun env => mb (f env) fun x => o x
def evA (o : List D → M D) (f : Env → M (List D)) : Env → M D := fun env => mb (f env) fun x => o x
theorem sem_op {r : R2} {o : D → D → M D} {t u : TE} (od : OpD Γ r o) (h2 : SemE Γ t f) (r2 : SemE Γ u g) : SemE Γ (tOp r t u) (ev2 o f g) := by
  intro σ s env cs Q ok eo h
  refine h2 σ s env cs _ ok eo ?_
  have h := sat_bind.mp h
  refine h.imp (fun d cs1 h => ?_) fun _ _ z => z
  intro v s1 st1 ok1 a1
  refine r2 σ s1 env cs1 _ ok1 (eo.step st1) ?_
  have h := sat_bind.mp h
  refine h.imp (fun d2 cs2 h => ?_) fun _ _ z => z.step st1
  intro v2 s2 st2 ok2 a2
  refine od s2 cs2 v v2 d d2 Q ok2 (a1.step st2) a2 ?_
  exact h.imp (fun z cs3 h v3 s3 st3 ok3 a3 => h v3 s3 ((st1.trans st2).trans st3) ok3 a3) fun _ _ z => z.step (st1.trans st2)
theorem sem_un {r : V → Hp → VK → Prop} {o : D → M D} {t : TE} (od : UnD Γ r o) (h2 : SemE Γ t f) : SemE Γ (tUn r t) (ev1 o f) := by
  intro σ s env cs Q ok eo h
  refine h2 σ s env cs _ ok eo ?_
  have h := sat_bind.mp h
  refine h.imp (fun d cs1 h => ?_) fun _ _ z => z
  intro v s1 st1 ok1 a1
  refine od s1 cs1 v d Q ok1 a1 ?_
  exact h.imp (fun z cs3 h v3 s3 st3 ok3 a3 => h v3 s3 (st1.trans st3) ok3 a3) fun _ _ z => z.step st1
theorem sem_call {r : List V → Hp → VK → Prop} {o : List D → M D} {t : TA} (od : CallD Γ r o) (h2 : SemA Γ t fl) : SemE Γ (tCB r t) (evA o fl) := by
  intro σ s env cs Q ok eo h
  refine h2 σ s env cs _ ok eo ?_
  have h := sat_bind.mp h
  refine h.imp (fun d cs1 h => ?_) fun _ _ z => z
  intro v s1 st1 ok1 a1
  refine od s1 cs1 v d Q ok1 a1 ?_
  exact h.imp (fun z cs3 h v3 s3 st3 ok3 a3 => h v3 s3 (st1.trans st3) ok3 a3) fun _ _ z => z.step st1
theorem se_op {op : Operator} {r : R2} {o : D → D → M D} (ho : ∀ X, Good Γ X → OpR X (binaryOp op) r) (od : OpD Γ r o) (ha : SE Γ a f) (hb : SE Γ b g) : SE Γ (.BinOp a op b pos) (ev2 o f g) := by
  obtain ⟨t, h1, h2⟩ := ha
  obtain ⟨u, r1, r2⟩ := hb
  exact ⟨tOp r t u, fun X G => pe_op (ho X G) (h1 X G) (r1 X G), sem_op od h2 r2⟩
theorem se_un {op : UnaryOp} {r : V → Hp → VK → Prop} {o : D → M D} (ho : ∀ X, Good Γ X → UnR X (unaryOp op) r) (od : UnD Γ r o) (ha : SE Γ a f) : SE Γ (.UnaryOp op a pos) (ev1 o f) := by
  obtain ⟨t, h1, h2⟩ := ha
  exact ⟨tUn r t, fun X G => pe_un (ho X G) (h1 X G), sem_un od h2⟩
theorem se_cmp {op : CmpOp} {r : R2} {o : D → D → M D} (ho : ∀ X, Good Γ X → OpR X (compareOp op) r) (od : OpD Γ r o) (ha : SE Γ a f) (hb : SE Γ b g) (hm : behindInMarks op b = false) : SE Γ (.Compare a [op] [b] pos) (ev2 o f g) := by
  obtain ⟨t, h1, h2⟩ := ha
  obtain ⟨u, r1, r2⟩ := hb
  exact ⟨tOp r t u, fun X G => pe_cmpR (ho X G) (h1 X G) (r1 X G) hm, sem_op od h2 r2⟩
theorem semT_of {t : TE} (h : SemE Γ t f) : SemT Γ (tTest t) f := by
  intro σ s env cs Q ok eo hq
  refine h σ s env cs _ ok eo (hq.imp (fun d cs1 q => ?_) fun _ _ z => z)
  obtain ⟨b, rfl, q⟩ := q
  intro v s1 st1 ok1 a1
  cases a1
  exact ⟨b, rfl, q s1 st1 ok1⟩
theorem st_cmp {op : CmpOp} {r : R2} {o : D → D → M D} (ho : ∀ X, Good Γ X → OpR X (compareOp op) r) (od : OpD Γ r o) (ha : SE Γ a f) (hb : SE Γ b g) (hm : behindInMarks op b = false) : ST Γ (.Compare a [op] [b] pos) (ev2 o f g) := by
  obtain ⟨t, h1, h2⟩ := ha
  obtain ⟨u, r1, r2⟩ := hb
  exact ⟨tTest (tOp r t u), fun X G => pt_cmpR (ho X G) (h1 X G) (r1 X G) hm, semT_of (sem_op od h2 r2)⟩
def plainTest : Expr → Bool
  | .UnaryOp .Not _ _ => false
  | .BoolOp .. => false
  | .IfExp .. => false
  | .Compare .. => false
  | _ => true
theorem st_val (hp : plainTest e = true) (h : SE Γ e f) : ST Γ e f := by
  obtain ⟨t, h1, h2⟩ := h
  refine ⟨tB t, fun X G => pt_val (h1 X G) (fun whole => ?_), semT_of h2⟩
  cases e with
  | UnaryOp op x p => cases op <;> first | rfl | simp [plainTest] at hp
  | BoolOp => simp [plainTest] at hp
  | IfExp => simp [plainTest] at hp
  | Compare => simp [plainTest] at hp
  | _ => rfl
end
end KH

/-! KH: and, or, not, if; calls of own defs. -/
namespace KH
open PySem PySem.Spec PyProof.Rows L2
section
variable {Γ : Ctx} {pos : Pos} {a b c e : Expr} {es rest : List Expr} {f g h : Env → M D} {fl : Env → M (List D)}
def evAnd (f g : Env → M D) : Env → M D := fun env => mb (f env) fun x => match x with
  | .bool true => g env
  | .bool false => ret (.bool false)
  | _ => stk
def evOr (f g : Env → M D) : Env → M D := fun env => mb (f env) fun x => match x with
  | .bool true => ret (.bool true)
  | .bool false => g env
  | _ => stk
def evIf (c f g : Env → M D) : Env → M D := fun env => mb (c env) fun x => match x with
  | .bool true => f env
  | .bool false => g env
  | _ => stk
def notD : D → M D
  | .bool b => ret (.bool (!b))
  | _ => stk
def SW (Γ : Ctx) (e : Expr) (f : Env → M D) : Prop := ∃ t, (∀ X, Good Γ X → PW X e t) ∧ SemT Γ t f
theorem SW.st (h : SW Γ e f) : ST Γ e f := let ⟨t, h1, h2⟩ := h; ⟨t, fun X G => (h1 X G).pt, h2⟩
theorem se_one {op} (h : SE Γ a f) : SE Γ (.BoolOp op [a] pos) f := let ⟨t, h1, h2⟩ := h; ⟨t, fun X G => pe_one (h1 X G), h2⟩
theorem sw_one {op} (h : ST Γ a f) : SW Γ (.BoolOp op [a] pos) f := by
  obtain ⟨t, h1, h2⟩ := h
  cases op
  · exact ⟨t, fun X G => pw_and1 (h1 X G), h2⟩
  · exact ⟨t, fun X G => pw_or1 (h1 X G), h2⟩
theorem se_and (ha : SE Γ a f) (hb : SE Γ (.BoolOp .And (b :: rest) pos) g) : SE Γ (.BoolOp .And (a :: b :: rest) pos) (evAnd f g) := by
  obtain ⟨t, h1, h2⟩ := ha
  obtain ⟨u, r1, r2⟩ := hb
  refine ⟨_, fun X G => pe_and (h1 X G) (r1 X G), fun σ s env cs Q ok eo h => ?_⟩
  refine h2 σ s env cs _ ok eo ?_
  have h := sat_bind.mp h
  refine h.imp (fun d cs1 h => ?_) fun _ _ z => z
  intro v s1 st1 ok1 a1
  cases d with
  | bool k =>
    cases a1
    refine ⟨k, rfl, ?_⟩
    cases k with
    | true => exact iteT (r2 σ s1 env cs1 _ ok1 (eo.step st1) (h.imp (fun z cs3 h v3 s3 st3 ok3 a3 => h v3 s3 (st1.trans st3) ok3 a3) fun _ _ z => z.step st1))
    | false => exact iteF (h _ s1 st1 ok1 (.bl false))
  | _ => exact h.elim
theorem se_or (ha : SE Γ a f) (hb : SE Γ (.BoolOp .Or (b :: rest) pos) g) : SE Γ (.BoolOp .Or (a :: b :: rest) pos) (evOr f g) := by
  obtain ⟨t, h1, h2⟩ := ha
  obtain ⟨u, r1, r2⟩ := hb
  refine ⟨_, fun X G => pe_or (h1 X G) (r1 X G), fun σ s env cs Q ok eo h => ?_⟩
  refine h2 σ s env cs _ ok eo ?_
  have h := sat_bind.mp h
  refine h.imp (fun d cs1 h => ?_) fun _ _ z => z
  intro v s1 st1 ok1 a1
  cases d with
  | bool k =>
    cases a1
    refine ⟨k, rfl, ?_⟩
    cases k with
    | true => exact iteT (h _ s1 st1 ok1 (.bl true))
    | false => exact iteF (r2 σ s1 env cs1 _ ok1 (eo.step st1) (h.imp (fun z cs3 h v3 s3 st3 ok3 a3 => h v3 s3 (st1.trans st3) ok3 a3) fun _ _ z => z.step st1))
  | _ => exact h.elim
theorem sw_and (ha : ST Γ a f) (hb : SW Γ (.BoolOp .And (b :: rest) pos) g) : SW Γ (.BoolOp .And (a :: b :: rest) pos) (evAnd f g) := by
  obtain ⟨t, h1, h2⟩ := ha
  obtain ⟨u, r1, r2⟩ := hb
  refine ⟨_, fun X G => pw_and (h1 X G) (r1 X G), fun σ s env cs Q ok eo h => ?_⟩
  refine h2 σ s env cs _ ok eo ?_
  have h := sat_bind.mp h
  refine h.imp (fun d cs1 h => ?_) fun _ _ z => z
  cases d with
  | bool k =>
    refine ⟨k, rfl, fun s1 st1 ok1 => ?_⟩
    cases k with
    | true => exact iteT (r2 σ s1 env cs1 _ ok1 (eo.step st1) (h.imp (fun z cs3 ⟨q, e, h⟩ => ⟨q, e, fun s3 st3 ok3 => h s3 (st1.trans st3) ok3⟩) fun _ _ z => z.step st1))
    | false =>
      obtain ⟨q, e, h⟩ := h
      cases e
      exact iteF (h s1 st1 ok1)
  | _ => exact h.elim
theorem sw_or (ha : ST Γ a f) (hb : SW Γ (.BoolOp .Or (b :: rest) pos) g) : SW Γ (.BoolOp .Or (a :: b :: rest) pos) (evOr f g) := by
  obtain ⟨t, h1, h2⟩ := ha
  obtain ⟨u, r1, r2⟩ := hb
  refine ⟨_, fun X G => pw_or (h1 X G) (r1 X G), fun σ s env cs Q ok eo h => ?_⟩
  refine h2 σ s env cs _ ok eo ?_
  have h := sat_bind.mp h
  refine h.imp (fun d cs1 h => ?_) fun _ _ z => z
  cases d with
  | bool k =>
    refine ⟨k, rfl, fun s1 st1 ok1 => ?_⟩
    cases k with
    | true =>
      obtain ⟨q, e, h⟩ := h
      cases e
      exact iteT (h s1 st1 ok1)
    | false => exact iteF (r2 σ s1 env cs1 _ ok1 (eo.step st1) (h.imp (fun z cs3 ⟨q, e, h⟩ => ⟨q, e, fun s3 st3 ok3 => h s3 (st1.trans st3) ok3⟩) fun _ _ z => z.step st1))
  | _ => exact h.elim
theorem se_not (ha : SE Γ a f) : SE Γ (.UnaryOp .Not a pos) (ev1 notD f) := by
  obtain ⟨t, h1, h2⟩ := ha
  refine ⟨_, fun X G => pe_not (h1 X G), fun σ s env cs Q ok eo h => ?_⟩
  refine h2 σ s env cs _ ok eo ?_
  have h := sat_bind.mp h
  refine h.imp (fun d cs1 h => ?_) fun _ _ z => z
  intro v s1 st1 ok1 a1
  cases d with
  | bool k =>
    cases a1
    exact ⟨k, rfl, h _ s1 st1 ok1 (.bl _)⟩
  | _ => exact h.elim
theorem st_not (ha : ST Γ a f) : ST Γ (.UnaryOp .Not a pos) (ev1 notD f) := by
  obtain ⟨t, h1, h2⟩ := ha
  refine ⟨_, fun X G => pt_not (h1 X G), fun σ s env cs Q ok eo h => ?_⟩
  refine h2 σ s env cs _ ok eo ?_
  have h := sat_bind.mp h
  refine h.imp (fun d cs1 h => ?_) fun _ _ z => z
  cases d with
  | bool k =>
    obtain ⟨q, e, h⟩ := h
    cases e
    exact ⟨k, rfl, fun s1 st1 ok1 => h s1 st1 ok1⟩
  | _ => exact h.elim
theorem se_if (hc : ST Γ c h) (ha : SE Γ a f) (hb : SE Γ b g) : SE Γ (.IfExp c a b pos) (evIf h f g) := by
  obtain ⟨t, h1, h2⟩ := hc
  obtain ⟨u, r1, r2⟩ := ha
  obtain ⟨w, p1, p2⟩ := hb
  refine ⟨_, fun X G => pe_ifExp (h1 X G) (r1 X G) (p1 X G), fun σ s env cs Q ok eo h => ?_⟩
  refine h2 σ s env cs _ ok eo ?_
  have h := sat_bind.mp h
  refine h.imp (fun d cs1 h => ?_) fun _ _ z => z
  cases d with
  | bool k =>
    refine ⟨k, rfl, fun s1 st1 ok1 => ?_⟩
    cases k with
    | true => exact iteT (r2 σ s1 env cs1 _ ok1 (eo.step st1) (h.imp (fun z cs3 h v3 s3 st3 ok3 a3 => h v3 s3 (st1.trans st3) ok3 a3) fun _ _ z => z.step st1))
    | false => exact iteF (p2 σ s1 env cs1 _ ok1 (eo.step st1) (h.imp (fun z cs3 h v3 s3 st3 ok3 a3 => h v3 s3 (st1.trans st3) ok3 a3) fun _ _ z => z.step st1))
  | _ => exact h.elim
theorem pt_ifExp {X : Cx} {tA tB tC : TT} (hc : PT X c tA) (ha : PT X a tB) (hb : PT X b tC) : PT X (.IfExp c a b pos) (fun σ H Q => tA σ H fun k H1 => if k = true then tB σ H1 Q else tC σ H1 Q) := by
  refine ⟨fun pins s σ H Q I h => ?_⟩
  show wpAny _ _ (do if ← isTrue c X.env (eval c X.env) then isTrue a X.env (eval a X.env) else isTrue b X.env (eval b X.env)) _ _ _
  refine wpAny_bind (thn (hc.run pins s σ H _ I h) fun k s1 ⟨H1, I1, q⟩ => ?_)
  cases k with
  | true => exact ha.run pins s1 σ H1 Q I1 (by rw [if_pos rfl] at q; exact q)
  | false => exact hb.run pins s1 σ H1 Q I1 (by rw [if_neg Bool.false_ne_true] at q; exact q)
theorem st_if (hc : ST Γ c h) (ha : ST Γ a f) (hb : ST Γ b g) : ST Γ (.IfExp c a b pos) (evIf h f g) := by
  obtain ⟨t, h1, h2⟩ := hc
  obtain ⟨u, r1, r2⟩ := ha
  obtain ⟨w, p1, p2⟩ := hb
  refine ⟨_, fun X G => pt_ifExp (h1 X G) (r1 X G) (p1 X G), fun σ s env cs Q ok eo h => ?_⟩
  refine h2 σ s env cs _ ok eo ?_
  have h := sat_bind.mp h
  refine h.imp (fun d cs1 h => ?_) fun _ _ z => z
  cases d with
  | bool k =>
    refine ⟨k, rfl, fun s1 st1 ok1 => ?_⟩
    cases k with
    | true => exact iteT (r2 σ s1 env cs1 _ ok1 (eo.step st1) (h.imp (fun z cs3 ⟨q, e, h⟩ => ⟨q, e, fun s3 st3 ok3 => h s3 (st1.trans st3) ok3⟩) fun _ _ z => z.step st1))
    | false => exact iteF (p2 σ s1 env cs1 _ ok1 (eo.step st1) (h.imp (fun z cs3 ⟨q, e, h⟩ => ⟨q, e, fun s3 st3 ok3 => h s3 (st1.trans st3) ok3⟩) fun _ _ z => z.step st1))
  | _ => exact h.elim
/-! chains: a < b < c -/
def ev3 (o p : D → D → M D) (f g h : Env → M D) : Env → M D := fun env => mb (f env) fun x => mb (g env) fun y => mb (o x y) fun z => match z with
  | .bool true => mb (h env) fun w => p y w
  | .bool false => ret (.bool false)
  | _ => stk
theorem sem_chain {r r' : R2} {o o' : D → D → M D} {t u w : TE} (od : OpD Γ r o) (od' : OpD Γ r' o') (h2 : SemE Γ t f) (r2 : SemE Γ u g) (p2 : SemE Γ w h) : SemE Γ (tChain r r' t u w) (ev3 o o' f g h) := by
  intro σ s env cs Q ok eo h
  refine h2 σ s env cs _ ok eo ?_
  have h := sat_bind.mp h
  refine h.imp (fun d cs1 h => ?_) fun _ _ z => z
  intro v s1 st1 ok1 a1
  refine r2 σ s1 env cs1 _ ok1 (eo.step st1) ?_
  have h := sat_bind.mp h
  refine h.imp (fun d2 cs2 h => ?_) fun _ _ z => z.step st1
  intro v2 s2 st2 ok2 a2
  refine od s2 cs2 v v2 d d2 _ ok2 (a1.step st2) a2 ?_
  have h := sat_bind.mp h
  have st12 := st1.trans st2
  refine h.imp (fun d3 cs3 h => ?_) fun _ _ z => z.step st12
  intro v3 s3 st3 ok3 a3
  cases d3 with
  | bool k =>
    cases a3
    refine ⟨k, rfl, ?_⟩
    cases k with
    | false => exact iteF (h _ s3 (st12.trans st3) ok3 (.bl false))
    | true =>
      refine iteT (p2 σ s3 env cs3 _ ok3 ((eo.step st12).step st3) ?_)
      have h := sat_bind.mp h
      refine h.imp (fun d4 cs4 h => ?_) fun _ _ z => z.step (st12.trans st3)
      intro v4 s4 st4 ok4 a4
      refine od' s4 cs4 v2 v4 d2 d4 Q ok4 ((a2.step st3).step st4) a4 ?_
      exact h.imp (fun z cs5 h v5 s5 st5 ok5 a5 => h v5 s5 (((st12.trans st3).trans st4).trans st5) ok5 a5) fun _ _ z => z.step ((st12.trans st3).trans st4)
  | _ => exact h.elim
theorem se_chain {op op' : CmpOp} {r r' : R2} {o o' : D → D → M D} (ho : ∀ X, Good Γ X → OpR X (compareOp op) r) (od : OpD Γ r o) (ho' : ∀ X, Good Γ X → OpR X (compareOp op') r') (od' : OpD Γ r' o') (ha : SE Γ a f) (hb : SE Γ b g) (hc : SE Γ c h)
    (hm : lastMarks [op, op'] [b, c] = false) : SE Γ (.Compare a [op, op'] [b, c] pos) (ev3 o o' f g h) := by
  obtain ⟨t, h1, h2⟩ := ha
  obtain ⟨u, r1, r2⟩ := hb
  obtain ⟨w, p1, p2⟩ := hc
  exact ⟨_, fun X G => pe_chain (ho X G) (ho' X G) (h1 X G) (r1 X G) (p1 X G) hm, sem_chain od od' h2 r2 p2⟩
theorem st_chain {op op' : CmpOp} {r r' : R2} {o o' : D → D → M D} (ho : ∀ X, Good Γ X → OpR X (compareOp op) r) (od : OpD Γ r o) (ho' : ∀ X, Good Γ X → OpR X (compareOp op') r') (od' : OpD Γ r' o') (ha : SE Γ a f) (hb : SE Γ b g) (hc : SE Γ c h)
    (hm : lastMarks [op, op'] [b, c] = false) : ST Γ (.Compare a [op, op'] [b, c] pos) (ev3 o o' f g h) := by
  obtain ⟨t, h1, h2⟩ := ha
  obtain ⟨u, r1, r2⟩ := hb
  obtain ⟨w, p1, p2⟩ := hc
  exact ⟨_, fun X G => pt_chain (ho X G) (ho' X G) (h1 X G) (r1 X G) (p1 X G) hm, semT_of (sem_chain od od' h2 r2 p2)⟩
end
/-! ### calls of own defs -/
/-- a def's promise, by a function of data -/
def spD (Γ : Ctx) (n : Nat) (F : List D → M D) : Sp := fun vs H Q E => ∃ (s : S3) (cs : CS) (ds : List D), s.H = H ∧ vs.length = n ∧ OkS Γ.K s cs ∧ AtAll Γ.K Γ.fa s.Hs s.ca vs ds ∧ Sat (F ds cs) (Beh Γ s Q) (BehX { Γ with E := E } s)
structure FnI (Γ : Ctx) (x : Str) (F : List D → M D) : Prop where
  ex : ∃ (f : Addr) (fd : FuncData) (ps : List Str), Γ.mg x = some (.ref f) ∧ PySem.W.keepIn Γ.K (.ref f) = true ∧ Binds Γ.K fd ps [] ∧ (∀ ds cs, ds.length ≠ ps.length → F ds cs = .stuck) ∧ FnOk Γ.P Γ.w Γ.K Γ.mg Γ.base (L2.CX Γ.P Γ.w) Γ.k f fd ps (spD Γ ps.length F)
section
variable {Γ : Ctx} {pos p : Pos} {a b c e : Expr} {es rest : List Expr} {fl : Env → M (List D)} {x : Str} {F : List D → M D}
theorem no_splice : ∀ {es : List Expr} {env : PySem.Env} (pos : Pos), es.all noStar = true → (backTo pos (starEach es env)).any (·.1) = false
  | [], _, _, _ => rfl
  | e :: es, env, pos, h => by
    rw [List.all_cons, Bool.and_eq_true] at h
    rw [star_of h.1]
    have ih := no_splice (es := es) (env := env) pos h.2
    unfold backTo at ih ⊢
    rw [List.map_cons, List.any_cons, ih]
    rfl
theorem se_call (I : FnI Γ x F) (hg : Γ.sc.names.lookup x = some .globalImplicit) (hd : (x == ("__debug__" : Str)) = false) (hs : (e :: es).all noStar = true)
    (ha : SA Γ (e :: es) fl) : SE Γ (.Call (.Name x p) (e :: es) [] pos) (evA F fl) := by
  obtain ⟨f, fd, ps, gm, kp, bd, ar, ok⟩ := I.ex
  obtain ⟨t, h1, h2⟩ := ha
  refine ⟨tCallS (spD Γ ps.length F) (fun _ => Γ.E) t, fun X G => ?_, fun σ s env cs Q ok eo h => ?_⟩
  · have F' : FnOk X.prog X.w X.K X.mg X.base (L2.CX X.prog X.w) Γ.k f fd ps (spD Γ ps.length F) := by rw [G.prog, G.w, G.K, G.mg, G.base]; exact ok
    refine pe_callS F' G.room (by show X.env.scope.names.lookup x = _; rw [G.sc]; exact hg) (by rw [G.mg]; exact gm) (by rw [G.K]; exact kp) (by rw [G.K]; exact bd) (fun σ => passAt G.takes σ) (h1 X G) hd ?_ (no_splice pos (by rw [List.all_cons, Bool.and_eq_true] at hs; exact hs.2))
    rw [List.all_cons, Bool.and_eq_true] at hs
    exact star_of hs.1
  · refine h2 σ s env cs _ ok eo ?_
    have h := sat_bind.mp h
    refine h.imp (fun ds cs1 h => ?_) fun _ _ z => z
    intro vs s1 st1 ok1 a1
    have hl : ds.length = ps.length := by
      by_cases e : ds.length = ps.length
      · exact e
      · rw [ar ds cs1 e] at h; exact h.elim
    refine ⟨s1, cs1, ds, rfl, by rw [a1.len, hl], ok1, a1, ?_⟩
    exact h.imp (fun z cs3 h v3 s3 st3 ok3 a3 => h v3 s3 (st1.trans st3) ok3 a3) fun _ _ z => z.step st1
theorem se_call0 (I : FnI Γ x F) (hg : Γ.sc.names.lookup x = some .globalImplicit) (hd : (x == ("__debug__" : Str)) = false) : SE Γ (.Call (.Name x p) [] [] pos) (evA F evNil) := by
  obtain ⟨f, fd, ps, gm, kp, bd, ar, ok⟩ := I.ex
  refine ⟨tCall (spD Γ ps.length F) [] Γ.E tNil, fun X G => ?_, fun σ s env cs Q ok eo h => ?_⟩
  · have F' : FnOk X.prog X.w X.K X.mg X.base (L2.CX X.prog X.w) Γ.k f fd ps (spD Γ ps.length F) := by rw [G.prog, G.w, G.K, G.mg, G.base]; exact ok
    exact pe_call0 F' G.room (by show X.env.scope.names.lookup x = _; rw [G.sc]; exact hg) (by rw [G.mg]; exact gm) (by rw [G.K]; exact kp) (by rw [G.K]; exact bd) .nil (passes_call G.takes fun _ _ _ _ z => z) hd
  · have h := sat_bind.mp h
    have h : Sat (F [] cs) (Beh Γ s Q) (BehX Γ s) := h
    have hl : ([] : List D).length = ps.length := by
      by_cases e : ([] : List D).length = ps.length
      · exact e
      · rw [ar [] cs e] at h; exact h.elim
    exact ⟨s, cs, [], rfl, hl, ok, .nil, h⟩
end
end KH

/-! KH: what operators and built-ins do with data. -/
namespace KH
open PySem PySem.Spec PyProof.Rows L2
/-- a list's items, also of a list in the store -/
def lstOf (d : D) (cs : CS) : Option (List D) := match d with
  | .list ds => some ds
  | .dict [(.int n, .none)] => match cs[n.toNat]? with
    | some (some ds) => some ds
    | _ => none
  | _ => none
def drf (d : D) (cs : CS) : D := match lstOf d cs with
  | some ds => .list ds
  | none => d
/-- items of a list or tuple -/
def seqOf (d : D) (cs : CS) : Option (List D) := match d with
  | .tuple ds => some ds
  | d => lstOf d cs
section
variable {Γ : Ctx} {s : S3} {cs : CS} {v : V} {d : D} {ds : List D}
theorem lst_of (ok : OkS Γ.K s cs) (a : At Γ.K Γ.fa s.Hs s.ca v d) (h : lstOf d cs = some ds) : ∃ p vs, v = .ref p ∧ s.H p = some (.lst vs) ∧ vs.length ≤ sizeLine ∧ AtAll Γ.K Γ.fa s.Hs s.ca vs ds := by
  cases a with
  | @lst p xs ds' h1 hz h2 =>
    cases (show some ds' = some ds from h)
    exact ⟨_, _, rfl, ok.same _ _ h1, hz, h2⟩
  | @cell p n h1 =>
    have h : (match cs[(n : Int).toNat]? with | some (some ds) => some ds | _ => none) = some ds := h
    rw [Int.toNat_natCast] at h
    cases e : cs[n]? with
    | none => rw [e] at h; cases h
    | some o =>
      cases o with
      | none => rw [e] at h; cases h
      | some ds' =>
        rw [e] at h
        cases (show some ds' = some ds from h)
        obtain ⟨_, vs, h2, hz, h3⟩ := ok.cel n p _ h1 e
        exact ⟨p, vs, rfl, h2, hz, h3.base⟩
  | _ => cases h
theorem tup_of (ok : OkS Γ.K s cs) (a : At Γ.K Γ.fa s.Hs s.ca v (.tuple ds)) : ∃ p vs, v = .ref p ∧ SqT Γ.K s.H p vs ∧ vs.length ≤ sizeLine ∧ AtAll Γ.K Γ.fa s.Hs s.ca vs ds := by
  cases a with
  | tup h1 hz h2 => exact ⟨_, _, rfl, seqT ok.same h1, hz, h2⟩
theorem seq_of (ok : OkS Γ.K s cs) (a : At Γ.K Γ.fa s.Hs s.ca v d) (h : seqOf d cs = some ds) : ∃ p vs, v = .ref p ∧ (s.H p = some (.lst vs) ∨ SqT Γ.K s.H p vs) ∧ vs.length ≤ sizeLine ∧ AtAll Γ.K Γ.fa s.Hs s.ca vs ds := by
  cases d with
  | tuple ds' =>
    cases (show some ds' = some ds from h)
    obtain ⟨p, vs, h1, h2, h3⟩ := tup_of ok a
    exact ⟨p, vs, h1, .inr h2, h3⟩
  | _ =>
    obtain ⟨p, vs, h1, h2, h3⟩ := lst_of ok a h
    exact ⟨p, vs, h1, .inl h2, h3⟩
theorem seq_or {p : Addr} {vs : List V} (h : s.H p = some (.lst vs) ∨ SqT Γ.K s.H p vs) : SqL Γ.K s.H p vs ∨ SqT Γ.K s.H p vs := h.imp SqL.of id
theorem drf_dp (ok : OkS Γ.K s cs) (a : At Γ.K Γ.fa s.Hs s.ca v d) (c : (drf d cs).canLay0 = true) : Dp Γ.K s.H v (drf d cs) := by
  unfold drf at c ⊢
  cases e : lstOf d cs with
  | none =>
    rw [e] at c
    exact a.dp ok.same c
  | some ds =>
    rw [e] at c
    obtain ⟨p, vs, rfl, h1, _, h2⟩ := lst_of ok a e
    exact .lst (SqL.of h1) (h2.dp ok.same (by simpa only [PyData.canLay0] using c))
end
theorem shaped_lay {d : D} (h : SeqAt.shaped d = true) : d.canLay0 = true := SeqAt.canLay_of_shaped h
/-- behind nothing new -/
theorem Beh.here {Γ : Ctx} {s : S3} {Q : VK} {d : D} {cs : CS} {v : V} (h : Beh Γ s Q d cs) (ok : OkS Γ.K s cs) (a : At Γ.K Γ.fa s.Hs s.ca v d) : Q v s.H := h v s (Step.refl s) ok a
theorem Beh.tup {Γ : Ctx} {s : S3} {Q : VK} {ds : List D} {cs : CS} {vs : List V} (h : Beh Γ s Q (.tuple ds) cs) (ok : OkS Γ.K s cs) (hz : vs.length ≤ sizeLine) (a : AtAll Γ.K Γ.fa s.Hs s.ca vs ds) : ∀ p, s.H p = none → Q (.ref p) (upd s.H p (.tup vs)) := fun p hp => by
  obtain ⟨q1, q2, q3⟩ := new_tup ok hp hz a
  exact h _ _ q1 q2 q3
theorem Beh.lst {Γ : Ctx} {s : S3} {Q : VK} {ds : List D} {cs : CS} {vs : List V} (h : Beh Γ s Q (.list ds) cs) (ok : OkS Γ.K s cs) (hz : vs.length ≤ sizeLine) (a : AtAll Γ.K Γ.fa s.Hs s.ca vs ds) : ∀ p, s.H p = none → Q (.ref p) (upd s.H p (.lst vs)) := fun p hp => by
  obtain ⟨q1, q2, q3⟩ := new_lst ok hp hz a
  exact h _ _ q1 q2 q3
/-! ### new rules over the library's -/
section
variable {X : Cx}
def rInT (K : PySem.W.Frag) : R2 := fun x y H Q => ∃ d ds, Dp K H x d ∧ Dp K H y (.tuple ds) ∧ SeqAt.shaped d = true ∧ SeqAt.shaped (.tuple ds) = true ∧ Q (.bl (ds.any fun z => PyData.eqv z d)) H
def rNotInT (K : PySem.W.Frag) : R2 := fun x y H Q => ∃ d ds, Dp K H x d ∧ Dp K H y (.tuple ds) ∧ SeqAt.shaped d = true ∧ SeqAt.shaped (.tuple ds) = true ∧ Q (.bl (!ds.any fun z => PyData.eqv z d)) H
theorem op_inTup (hu : X.A.units + 65 < cLine) : OpR X (compareOp .In) (rInT X.K) := by
  intro pins s σ H x y v u Q I rx ry h
  obtain ⟨d, ds, hd, he, sd, se, q⟩ := h
  obtain ⟨as, r1⟩ := Dp.reads I d x v hd rx
  obtain ⟨bs, r2⟩ := Dp.reads I (.tuple ds) y u he ry
  exact SeqAt.in_tuple_reads r2 r1 (SeqAt.canLay_of_shaped se) (SeqAt.canLay_of_shaped sd) (room_in_shaped sd hu) ⟨.bl _, H, I, rfl, q⟩
theorem op_notInTup (hu : X.A.units + 65 < cLine) : OpR X (compareOp .NotIn) (rNotInT X.K) := by
  intro pins s σ H x y v u Q I rx ry h
  obtain ⟨d, ds, hd, he, sd, se, q⟩ := h
  obtain ⟨as, r1⟩ := Dp.reads I d x v hd rx
  obtain ⟨bs, r2⟩ := Dp.reads I (.tuple ds) y u he ry
  exact SeqAt.notIn_tuple_reads r2 r1 (SeqAt.canLay_of_shaped se) (SeqAt.canLay_of_shaped sd) (room_in_shaped sd hu) ⟨.bl _, H, I, rfl, q⟩
/-- an order of data: which of the four -/
def ordD : CmpOp → D → D → Bool
  | .Lt, d, e => PySem.W.dataLt d e
  | .Gt, d, e => PySem.W.dataLt e d
  | .LtE, d, e => !PySem.W.dataLt e d
  | .GtE, d, e => !PySem.W.dataLt d e
  | _, _, _ => false
def isOrd : CmpOp → Bool
  | .Lt => true
  | .Gt => true
  | .LtE => true
  | .GtE => true
  | _ => false
def rOrd (K : PySem.W.Frag) (op : CmpOp) : R2 := fun x y H Q => ∃ d e, Dp K H x d ∧ Dp K H y e ∧ PySem.W.alike d e = true ∧ d ≠ .none ∧ SeqAt.shaped d = true ∧ Q (.bl (ordD op d e)) H
theorem op_ord {op : CmpOp} (ho : isOrd op = true) (hu : X.A.units + 64 < cLine) : OpR X (compareOp op) (rOrd X.K op) := by
  intro pins s σ H x y v u Q I rx ry h
  obtain ⟨d, e, hd, he, al, nn, sd, q⟩ := h
  obtain ⟨as, r1⟩ := Dp.reads I d x v hd rx
  obtain ⟨bs, r2⟩ := Dp.reads I e y u he ry
  have hu' : X.A.units + min d.depth e.depth < cLine := SeqAt.room_of_shaped sd hu
  cases op with
  | Lt => exact PySem.W.lt_data r1 r2 al nn hu' ⟨.bl _, H, I, rfl, q⟩
  | Gt => exact PySem.W.gt_data r1 r2 al nn hu' ⟨.bl _, H, I, rfl, q⟩
  | LtE => exact PySem.W.le_data r1 r2 al nn hu' ⟨.bl _, H, I, rfl, q⟩
  | GtE => exact PySem.W.ge_data r1 r2 al nn hu' ⟨.bl _, H, I, rfl, q⟩
  | _ => simp [isOrd] at ho
end
end KH

/-! KH: the operators, as functions of data, with their rules. -/
namespace KH
open PySem PySem.Spec PyProof.Rows L2
section
variable {Γ : Ctx}
/-! ### + - * // % ** -/
def catL (d e : D) : M D := fun cs => match lstOf d cs, lstOf e cs with
  | some xs, some ys => if xs.length + ys.length ≤ 16777216 then .ok (.list (xs ++ ys)) cs else .stuck
  | _, _ => .stuck
def addD : D → D → M D
  | .int i, .int j => ret (.int (i + j))
  | .str x, .str y => if x.length + y.length ≤ 16777216 then ret (.str (x ++ y)) else stk
  | .tuple xs, .tuple ys => if xs.length + ys.length ≤ 16777216 then ret (.tuple (xs ++ ys)) else stk
  | d, e => catL d e
def rAddD (K : PySem.W.Frag) : R2 := fun x y H Q => (rI0 fun i j => .int (i + j)) x y H Q ∨ (∃ i j, x = .str i ∧ y = .str j ∧ i.length + j.length ≤ sizeLine ∧ Q (.str (i ++ j)) H) ∨ rCatA K x y H Q ∨ rCat x y H Q
theorem op_addD (X : Cx) (G : Good Γ X) : OpR X (binaryOp .Add) (rAddD Γ.K) := by
  have h := OpR.or (X := X) op_add (OpR.or op_add_str (OpR.or op_catA op_cat))
  rw [G.K] at h
  exact h
theorem catL_ok {s : S3} {cs : CS} {x y : V} {d e : D} {Q : VK} (ok : OkS Γ.K s cs) (a : At Γ.K Γ.fa s.Hs s.ca x d) (b : At Γ.K Γ.fa s.Hs s.ca y e) (h : Sat (catL d e cs) (Beh Γ s Q) (BehX Γ s)) : rCat x y s.H Q := by
  unfold catL at h
  cases e1 : lstOf d cs with
  | none => rw [e1] at h; exact h.elim
  | some xs =>
    cases e2 : lstOf e cs with
    | none => rw [e1, e2] at h; exact h.elim
    | some ys =>
      rw [e1, e2] at h
      by_cases hz : xs.length + ys.length ≤ 16777216
      · have h : Sat (if xs.length + ys.length ≤ 16777216 then _ else _) (Beh Γ s Q) (BehX Γ s) := h
        rw [if_pos hz] at h
        obtain ⟨p, vs, rfl, h1, _, a1⟩ := lst_of ok a e1
        obtain ⟨q, ws, rfl, h2, _, a2⟩ := lst_of ok b e2
        have hl : vs.length + ws.length ≤ sizeLine := by rw [a1.len, a2.len, line_eq]; exact hz
        exact ⟨p, q, vs, ws, rfl, rfl, h1, h2, hl, Beh.lst h ok (by rw [List.length_append]; exact hl) (a1.append a2)⟩
      · have h : Sat (if xs.length + ys.length ≤ 16777216 then _ else _) (Beh Γ s Q) (BehX Γ s) := h
        rw [if_neg hz] at h; exact h.elim
theorem addD_ok : OpD Γ (rAddD Γ.K) addD := by
  intro s cs x y d e Q ok a b h
  unfold addD at h
  split at h
  · cases a; cases b
    exact .inl ⟨_, _, rfl, rfl, Beh.here h ok (.int _)⟩
  · cases a; cases b
    split at h
    · rename_i hz
      exact .inr (.inl ⟨_, _, rfl, rfl, by rw [line_eq]; exact hz, Beh.here h ok (.str _)⟩)
    · exact h.elim
  · rename_i xs ys
    split at h
    · rename_i hz
      obtain ⟨p, vs, rfl, h1, hz1, a1⟩ := tup_of ok a
      obtain ⟨q, ws, rfl, h2, hz2, a2⟩ := tup_of ok b
      have hl : vs.length + ws.length ≤ sizeLine := by rw [a1.len, a2.len, line_eq]; exact hz
      refine .inr (.inr (.inl ⟨p, q, vs, ws, rfl, rfl, h1, h2, hl, fun e0 => ?_, fun _ e0 => ?_, fun _ _ => Beh.tup h ok (by rw [List.length_append]; exact hl) (a1.append a2)⟩))
      · subst e0
        have : xs = [] := by have := a1.len; simpa using this.symm
        subst this
        exact Beh.here h ok b
      · subst e0
        have : ys = [] := by have := a2.len; simpa using this.symm
        subst this
        exact Beh.here h ok (by rw [List.append_nil]; exact a)
    · exact h.elim
  · exact .inr (.inr (.inr (catL_ok ok a b h)))
def subD : D → D → M D
  | .int i, .int j => ret (.int (i - j))
  | _, _ => stk
theorem op_subD (X : Cx) (G : Good Γ X) : OpR X (binaryOp .Sub) (rI0 fun i j => .int (i - j)) := op_sub
theorem subD_ok : OpD Γ (rI0 fun i j => .int (i - j)) subD := by
  intro s cs x y d e Q ok a b h
  unfold subD at h
  split at h
  · cases a; cases b
    exact ⟨_, _, rfl, rfl, Beh.here h ok (.int _)⟩
  · exact h.elim
def small64I (i : Int) : Bool := decide (-18446744073709551616 < i) && decide (i < 18446744073709551616)
def repL (d : D) (k : Int) : M D := fun cs => match lstOf d cs with
  | some xs => if -1000000 ≤ k ∧ k ≤ 1000000 ∧ xs.length * k.toNat ≤ 16777216 then .ok (.list (List.replicate k.toNat xs).flatten) cs else .stuck
  | none => .stuck
def mulD : D → D → M D
  | .int i, .int j => if small64I i || small64I j then ret (.int (i * j)) else stk
  | .tuple xs, .int k => if xs ≠ [] ∧ 2 ≤ k ∧ k ≤ 1000 ∧ xs.length ≤ 1000 then ret (.tuple (List.replicate k.toNat xs).flatten) else stk
  | d, .int k => repL d k
  | _, _ => stk
def rMulD (K : PySem.W.Frag) : R2 := fun x y H Q => (rI CMul fun i j => .int (i * j)) x y H Q ∨ rRepT K x y H Q ∨ rRep x y H Q
theorem op_mulD (X : Cx) (G : Good Γ X) : OpR X (binaryOp .Mult) (rMulD Γ.K) := by
  have h := OpR.or (X := X) op_mul (OpR.or op_repT op_rep)
  rw [G.K] at h
  exact h
theorem small64I_ok {i : Int} (h : small64I i = true) : -(2 ^ 64) < i ∧ i < 2 ^ 64 := by
  unfold small64I at h
  rw [Bool.and_eq_true, decide_eq_true_eq, decide_eq_true_eq] at h
  exact h
theorem len_rep {α : Type} (xs : List α) : ∀ k : Nat, (List.replicate k xs).flatten.length = xs.length * k
  | 0 => rfl
  | k + 1 => by rw [List.replicate_succ, List.flatten_cons, List.length_append, len_rep xs k, Nat.mul_succ, Nat.add_comm]
theorem mulD_ok : OpD Γ (rMulD Γ.K) mulD := by
  intro s cs x y d e Q ok a b h
  unfold mulD at h
  split at h
  · cases a; cases b
    split at h
    · rename_i i j hz
      refine .inl ⟨_, _, rfl, rfl, ?_, Beh.here h ok (.int _)⟩
      rw [Bool.or_eq_true] at hz
      exact hz.imp small64I_ok small64I_ok
    · exact h.elim
  · rename_i xs k
    split at h
    · rename_i hz
      obtain ⟨h0, h1, h2, h3⟩ := hz
      cases b
      obtain ⟨p, vs, rfl, q1, hz1, a1⟩ := tup_of ok a
      have hl := a1.len
      refine .inr (.inl ⟨p, k, vs, rfl, rfl, q1, fun e0 => h0 ?_, h1, h2, by omega, Beh.tup h ok ?_ (a1.rep _)⟩)
      · subst e0; simpa using hl.symm
      · rw [len_rep, line_eq]
        have : vs.length * k.toNat ≤ 1000 * 1000 := Nat.mul_le_mul (by omega) (by omega)
        omega
    · exact h.elim
  · rename_i k _ _
    cases b
    unfold repL at h
    cases e1 : lstOf d cs with
    | none => rw [e1] at h; exact h.elim
    | some xs =>
      rw [e1] at h
      have h : Sat (if -1000000 ≤ k ∧ k ≤ 1000000 ∧ xs.length * k.toNat ≤ 16777216 then _ else _) (Beh Γ s Q) (BehX Γ s) := h
      split at h
      · rename_i hz
        obtain ⟨p, vs, rfl, q1, hz1, a1⟩ := lst_of ok a e1
        have hl := a1.len
        have hb : vs.length * k.toNat ≤ sizeLine := by rw [hl, line_eq]; exact hz.2.2
        exact .inr (.inr ⟨p, k, vs, rfl, rfl, q1, by omega, by omega, hb, Beh.lst h ok (by rw [len_rep]; exact hb) (a1.rep _)⟩)
      · exact h.elim
  · exact h.elim
def fdivD : D → D → M D
  | .int i, .int j => if 0 < j ∧ j < 1073741824 then ret (.int (i / j)) else stk
  | _, _ => stk
theorem op_fdivD (X : Cx) (G : Good Γ X) : OpR X (binaryOp .FloorDiv) (rI CDiv fun i j => .int (i / j)) := op_fdiv
theorem fdivD_ok : OpD Γ (rI CDiv fun i j => .int (i / j)) fdivD := by
  intro s cs x y d e Q ok a b h
  unfold fdivD at h
  split at h
  · cases a; cases b
    split at h
    · rename_i hz
      exact ⟨_, _, rfl, rfl, hz, Beh.here h ok (.int _)⟩
    · exact h.elim
  · exact h.elim
def modD : D → D → M D
  | .int i, .int j => if 0 < j then ret (.int (i % j)) else stk
  | _, _ => stk
theorem op_modD (X : Cx) (G : Good Γ X) : OpR X (binaryOp .Mod) (rI (fun _ j => 0 < j) fun i j => .int (i % j)) := op_mod
theorem modD_ok : OpD Γ (rI (fun _ j => 0 < j) fun i j => .int (i % j)) modD := by
  intro s cs x y d e Q ok a b h
  unfold modD at h
  split at h
  · cases a; cases b
    split at h
    · rename_i hz
      exact ⟨_, _, rfl, rfl, hz, Beh.here h ok (.int _)⟩
    · exact h.elim
  · exact h.elim
def powD : D → D → M D
  | .int i, .int j => if 0 ≤ j ∧ j ≤ 1000 ∧ i.natAbs < 1000 then ret (.int (i ^ j.toNat)) else stk
  | _, _ => stk
theorem op_powD (X : Cx) (G : Good Γ X) : OpR X (binaryOp .Pow) (rI CPow fun i j => .int (i ^ j.toNat)) := op_pow
theorem powD_ok : OpD Γ (rI CPow fun i j => .int (i ^ j.toNat)) powD := by
  intro s cs x y d e Q ok a b h
  unfold powD at h
  split at h
  · cases a; cases b
    split at h
    · rename_i hz
      exact ⟨_, _, rfl, rfl, ⟨hz.1, by omega, by omega⟩, Beh.here h ok (.int _)⟩
    · exact h.elim
  · exact h.elim
def negD : D → M D
  | .int i => ret (.int (-i))
  | _ => stk
theorem un_negD (X : Cx) (G : Good Γ X) : UnR X (unaryOp .USub) (rU fun i => .int (-i)) := un_neg
theorem negD_ok : UnD Γ (rU fun i => .int (-i)) negD := by
  intro s cs x d Q ok a h
  unfold negD at h
  split at h
  · cases a
    exact ⟨_, rfl, Beh.here h ok (.int _)⟩
  · exact h.elim
/-! ### comparisons -/
def eqD (d e : D) : M D := fun cs => if (SeqAt.shaped (drf d cs) && SeqAt.shaped (drf e cs)) = true then .ok (.bool (PyData.eqv (drf d cs) (drf e cs))) cs else .stuck
def neD (d e : D) : M D := fun cs => if (SeqAt.shaped (drf d cs) && SeqAt.shaped (drf e cs)) = true then .ok (.bool (!PyData.eqv (drf d cs) (drf e cs))) cs else .stuck
theorem op_eqD' (X : Cx) (G : Good Γ X) : OpR X (compareOp .Eq) (rEqD Γ.K) := by rw [← G.K]; exact op_eqD G.room.units
theorem op_neD' (X : Cx) (G : Good Γ X) : OpR X (compareOp .NotEq) (rNeD Γ.K) := by rw [← G.K]; exact op_neD G.room.units
theorem eqD_ok : OpD Γ (rEqD Γ.K) eqD := by
  intro s cs x y d e Q ok a b h
  unfold eqD at h
  split at h
  · rename_i hz
    rw [Bool.and_eq_true] at hz
    exact ⟨_, _, drf_dp ok a (shaped_lay hz.1), drf_dp ok b (shaped_lay hz.2), hz.1, hz.2, Beh.here h ok (.bl _)⟩
  · exact h.elim
theorem neD_ok : OpD Γ (rNeD Γ.K) neD := by
  intro s cs x y d e Q ok a b h
  unfold neD at h
  split at h
  · rename_i hz
    rw [Bool.and_eq_true] at hz
    exact ⟨_, _, drf_dp ok a (shaped_lay hz.1), drf_dp ok b (shaped_lay hz.2), hz.1, hz.2, Beh.here h ok (.bl _)⟩
  · exact h.elim
def isNon : D → Bool
  | .none => true
  | _ => false
/-- <, >, <=, >= -/
def cmpD (op : CmpOp) (d e : D) : M D := match op, d, e with
  | .Lt, .int i, .int j => ret (.bool (decide (i < j)))
  | .Gt, .int i, .int j => ret (.bool (decide (j < i)))
  | .LtE, .int i, .int j => ret (.bool (decide (i ≤ j)))
  | .GtE, .int i, .int j => ret (.bool (decide (j ≤ i)))
  | op, d, e => if (PySem.W.alike d e && !isNon d && SeqAt.shaped d && e.canLay0) = true then ret (.bool (ordD op d e)) else stk
def rCmpD (K : PySem.W.Frag) (op : CmpOp) : R2 := fun x y H Q => (match op with
  | .Lt => (rI0 fun i j => .bl (decide (i < j))) x y H Q
  | .Gt => (rI0 fun i j => .bl (decide (j < i))) x y H Q
  | .LtE => (rI0 fun i j => .bl (decide (i ≤ j))) x y H Q
  | .GtE => (rI0 fun i j => .bl (decide (j ≤ i))) x y H Q
  | _ => False) ∨ rOrd K op x y H Q
theorem op_cmpD {op : CmpOp} (ho : isOrd op = true) (X : Cx) (G : Good Γ X) : OpR X (compareOp op) (rCmpD Γ.K op) := by
  have h := op_ord (X := X) ho G.room.units
  rw [G.K] at h
  cases op with
  | Lt => exact OpR.or op_lt h
  | Gt => exact OpR.or op_gt h
  | LtE => exact OpR.or op_le h
  | GtE => exact OpR.or op_ge h
  | _ => simp [isOrd] at ho
theorem cmpD_ok {op : CmpOp} : OpD Γ (rCmpD Γ.K op) (cmpD op) := by
  intro s cs x y d e Q ok a b h
  unfold cmpD at h
  split at h
  · cases a; cases b
    exact .inl ⟨_, _, rfl, rfl, Beh.here h ok (.bl _)⟩
  · cases a; cases b
    exact .inl ⟨_, _, rfl, rfl, Beh.here h ok (.bl _)⟩
  · cases a; cases b
    exact .inl ⟨_, _, rfl, rfl, Beh.here h ok (.bl _)⟩
  · cases a; cases b
    exact .inl ⟨_, _, rfl, rfl, Beh.here h ok (.bl _)⟩
  · split at h
    · rename_i hz
      simp only [Bool.and_eq_true, Bool.not_eq_true'] at hz
      obtain ⟨⟨⟨h1, h2⟩, h3⟩, h4⟩ := hz
      exact .inr ⟨_, _, a.dp ok.same (shaped_lay h3), b.dp ok.same h4, h1, fun e0 => by subst e0; simp [isNon] at h2, h3, Beh.here h ok (.bl _)⟩
    · exact h.elim
/-! is None, is True -/
def isD (d e : D) : M D := match e, d with
  | .none, d => ret (.bool (isNon d))
  | .bool b, .bool a => ret (.bool (decide (a = b)))
  | _, _ => stk
def isnD (d e : D) : M D := match e, d with
  | .none, d => ret (.bool (!isNon d))
  | .bool b, .bool a => ret (.bool (!decide (a = b)))
  | _, _ => stk
theorem non_dec {s : S3} {x : V} {d : D} (a : At Γ.K Γ.fa s.Hs s.ca x d) : decide (x = .non) = isNon d := by
  cases a <;> first | rfl | (refine decide_eq_false (fun e => ?_); cases e)
def rIsD : R2 := fun x y H Q => (y = .non ∧ Q (.bl (decide (x = .non))) H) ∨ rIsB x y H Q
def rIsnD : R2 := fun x y H Q => (y = .non ∧ Q (.bl (!decide (x = .non))) H) ∨ rNotB x y H Q
theorem op_isD (X : Cx) (G : Good Γ X) : OpR X (compareOp .Is) rIsD := OpR.or op_isN op_isBl
theorem op_isnD (X : Cx) (G : Good Γ X) : OpR X (compareOp .IsNot) rIsnD := OpR.or op_notN op_notBl
theorem isD_ok : OpD Γ rIsD isD := by
  intro s cs x y d e Q ok a b h
  unfold isD at h
  split at h
  · cases b
    refine .inl ⟨rfl, ?_⟩
    rw [non_dec a]
    exact Beh.here h ok (.bl _)
  · cases a; cases b
    exact .inr ⟨_, _, rfl, rfl, Beh.here h ok (.bl _)⟩
  · exact h.elim
theorem isnD_ok : OpD Γ rIsnD isnD := by
  intro s cs x y d e Q ok a b h
  unfold isnD at h
  split at h
  · cases b
    refine .inl ⟨rfl, ?_⟩
    rw [non_dec a]
    exact Beh.here h ok (.bl _)
  · cases a; cases b
    exact .inr ⟨_, _, rfl, rfl, Beh.here h ok (.bl _)⟩
  · exact h.elim
/-! in, not in -/
def inLT (neg : Bool) (d : D) (ds : List D) (c : Bool) : M D := if c = true then ret (.bool (if neg then !ds.any fun z => PyData.eqv z d else ds.any fun z => PyData.eqv z d)) else stk
def inD (neg : Bool) (d e : D) : M D := fun cs => match e with
  | .tuple ds => inLT neg (drf d cs) ds (SeqAt.shaped (drf d cs) && SeqAt.shaped (.tuple ds)) cs
  | .str y => (match d with
    | .str x => .ok (.bool (if neg then !(!(Builtin.Str.occurrences y x 0 y.length 1).isEmpty) else !(Builtin.Str.occurrences y x 0 y.length 1).isEmpty)) cs
    | _ => .stuck)
  | e => match lstOf e cs with
    | some ds => inLT neg (drf d cs) ds (SeqAt.shaped (drf d cs) && SeqAt.shaped (.list ds)) cs
    | none => .stuck
def rInD' (K : PySem.W.Frag) : R2 := fun x y H Q => rInT K x y H Q ∨ rInD K x y H Q ∨ (∃ i j, x = .str i ∧ y = .str j ∧ Q (.bl (!(Builtin.Str.occurrences j i 0 j.length 1).isEmpty)) H)
def rNotInD' (K : PySem.W.Frag) : R2 := fun x y H Q => rNotInT K x y H Q ∨ rNotInD K x y H Q ∨ (∃ i j, x = .str i ∧ y = .str j ∧ Q (.bl (!(!(Builtin.Str.occurrences j i 0 j.length 1).isEmpty))) H)
theorem room65 {X : Cx} (G : Good Γ X) : X.A.units + 65 < cLine := by
  have := G.room.un
  omega
theorem op_inD' (X : Cx) (G : Good Γ X) : OpR X (compareOp .In) (rInD' Γ.K) := by
  have h := OpR.or (op_inTup (room65 G)) (OpR.or (op_inD (room65 G)) op_in_str)
  rw [G.K] at h
  exact h
theorem op_notInD' (X : Cx) (G : Good Γ X) : OpR X (compareOp .NotIn) (rNotInD' Γ.K) := by
  have h := OpR.or (op_notInTup (room65 G)) (OpR.or (op_notInD (room65 G)) op_notin_str)
  rw [G.K] at h
  exact h
theorem drf_list {e : D} {cs : CS} {ds : List D} (h : lstOf e cs = some ds) : drf e cs = .list ds := by unfold drf; rw [h]
theorem inD_ok : OpD Γ (rInD' Γ.K) (inD false) := by
  intro s cs x y d e Q ok a b h
  unfold inD at h
  split at h
  · unfold inLT at h
    split at h
    · rename_i ds hz
      rw [Bool.and_eq_true] at hz
      exact .inl ⟨_, ds, drf_dp ok a (shaped_lay hz.1), b.dp ok.same (shaped_lay hz.2), hz.1, hz.2, Beh.here h ok (.bl _)⟩
    · exact h.elim
  · cases b
    split at h
    · cases a
      exact .inr (.inr ⟨_, _, rfl, rfl, Beh.here h ok (.bl _)⟩)
    · exact h.elim
  · split at h
    · rename_i ds e1
      unfold inLT at h
      split at h
      · rename_i hz
        rw [Bool.and_eq_true] at hz
        have hb := drf_dp (v := y) ok b (by rw [drf_list e1]; exact shaped_lay hz.2)
        rw [drf_list e1] at hb
        exact .inr (.inl ⟨_, ds, drf_dp ok a (shaped_lay hz.1), hb, hz.1, hz.2, Beh.here h ok (.bl _)⟩)
      · exact h.elim
    · exact h.elim
theorem notInD_ok : OpD Γ (rNotInD' Γ.K) (inD true) := by
  intro s cs x y d e Q ok a b h
  unfold inD at h
  split at h
  · unfold inLT at h
    split at h
    · rename_i ds hz
      rw [Bool.and_eq_true] at hz
      exact .inl ⟨_, ds, drf_dp ok a (shaped_lay hz.1), b.dp ok.same (shaped_lay hz.2), hz.1, hz.2, Beh.here h ok (.bl _)⟩
    · exact h.elim
  · cases b
    split at h
    · cases a
      exact .inr (.inr ⟨_, _, rfl, rfl, Beh.here h ok (.bl _)⟩)
    · exact h.elim
  · split at h
    · rename_i ds e1
      unfold inLT at h
      split at h
      · rename_i hz
        rw [Bool.and_eq_true] at hz
        have hb := drf_dp (v := y) ok b (by rw [drf_list e1]; exact shaped_lay hz.2)
        rw [drf_list e1] at hb
        exact .inr (.inl ⟨_, ds, drf_dp ok a (shaped_lay hz.1), hb, hz.1, hz.2, Beh.here h ok (.bl _)⟩)
      · exact h.elim
    · exact h.elim
/-! ### items, slices -/
def atD {α : Type} (xs : List α) (k : Int) (f : α → D) : M D := fun cs => match atI xs k with
  | some d => .ok (f d) cs
  | none => .stuck
def ixD (o i : D) : M D := fun cs => match i with
  | .int k => (match o with
    | .tuple xs => atD xs k id cs
    | .str z => if z.length ≤ 16777216 then atD z.cps.toList k (fun c => .str ⟨#[c]⟩) cs else .stuck
    | o => (match lstOf o cs with
      | some xs => atD xs k id cs
      | none => .stuck))
  | _ => .stuck
theorem ix_seqD (X : Cx) (G : Good Γ X) : IxR X (rIx Γ.K) := by rw [← G.K]; exact ix_seq
theorem atI_all {fa ca : List Addr} {K : PySem.W.Frag} {Hs : Hp} {vs : List V} {ds : List D} {k : Int} {d : D} (a : AtAll K fa Hs ca vs ds) (h : atI ds k = some d) : ∃ v, atI vs k = some v ∧ At K fa Hs ca v d := by
  unfold atI at h ⊢
  rw [a.len]
  cases e : ixN ds.length k with
  | none => rw [e] at h; cases h
  | some j =>
    rw [e] at h
    have h : ds[j]? = some d := h
    obtain ⟨v, e1, a1⟩ := a.get h
    exact ⟨v, e1, a1⟩
theorem ixD_ok : OpD Γ (rIx Γ.K) ixD := by
  intro s cs x y d e Q ok a b h
  unfold ixD at h
  split at h
  · rename_i k
    cases b
    split at h
    · rename_i xs
      obtain ⟨p, vs, rfl, h1, hz, a1⟩ := tup_of ok a
      unfold atD at h
      split at h
      · rename_i d' e1
        obtain ⟨v, e2, a2⟩ := atI_all a1 e1
        exact .inr (.inl ⟨p, vs, k, v, rfl, rfl, h1, e2, Beh.here h ok a2⟩)
      · exact h.elim
    · split at h
      · rename_i z hz
        cases a
        unfold atD at h
        split at h
        · rename_i c e1
          exact .inr (.inr ⟨_, k, c, rfl, rfl, by rw [line_eq]; exact hz, e1, Beh.here h ok (.str _)⟩)
        · exact h.elim
      · exact h.elim
    · split at h
      · rename_i xs e0
        obtain ⟨p, vs, rfl, h1, hz, a1⟩ := lst_of ok a e0
        unfold atD at h
        split at h
        · rename_i d' e1
          obtain ⟨v, e2, a2⟩ := atI_all a1 e1
          exact .inl ⟨p, vs, k, v, rfl, rfl, SqL.of h1, e2, Beh.here h ok a2⟩
        · exact h.elim
      · exact h.elim
  · exact h.elim
end
def plainIx : Expr → Bool
  | .Slice .. => false
  | .Tuple .. => false
  | _ => true
theorem plainIx_of {b : Expr} (h : plainIx b = true) : PlainIx b := by
  intro o i
  cases b <;> first | rfl | simp [plainIx] at h
section
variable {Γ : Ctx} {pos : Pos} {a b e : Expr} {f g : Env → M D}
theorem se_ix (hb : plainIx b = true) (ha : SE Γ a f) (hi : SE Γ b g) : SE Γ (.Subscript a b pos) (ev2 ixD f g) := by
  obtain ⟨t, h1, h2⟩ := ha
  obtain ⟨u, r1, r2⟩ := hi
  exact ⟨_, fun X G => pe_ix (ix_seqD X G) (h1 X G) (r1 X G) (plainIx_of hb), sem_op ixD_ok h2 r2⟩
/-! slices -/
def SO (Γ : Ctx) (oe : Option Expr) (f : Env → M (Option Int)) : Prop := ∃ t, (∀ X, Good Γ X → PO X oe t) ∧ ∀ (σ : L2.St) (s : S3) (env : Env) (cs : CS) (Q : Option Int → Hp → Prop), OkS Γ.K s cs → EnvOk Γ s σ env →
  Sat (f env cs) (fun o cs' => ∀ s', Step s s' → OkS Γ.K s' cs' → Q o s'.H) (BehX Γ s) → t σ s.H Q
def evNoPart : Env → M (Option Int) := fun _ => ret none
def intPart : D → M (Option Int)
  | .int i => ret (some i)
  | _ => stk
def evPart (f : Env → M D) : Env → M (Option Int) := fun env => mb (f env) intPart
theorem so_none : SO Γ none evNoPart := ⟨tNoPart, fun X G => po_none, fun σ s env cs Q ok eo h => h s (Step.refl s) ok⟩
theorem so_some (h : SE Γ e f) : SO Γ (some e) (evPart f) := by
  obtain ⟨t, h1, h2⟩ := h
  refine ⟨tPart t, fun X G => po_some (h1 X G), fun σ s env cs Q ok eo h => ?_⟩
  refine h2 σ s env cs _ ok eo ?_
  have h := sat_bind.mp h
  refine h.imp (fun d cs1 h => ?_) fun _ _ z => z
  intro v s1 st1 ok1 a1
  unfold intPart at h
  split at h
  · cases a1
    exact ⟨_, rfl, h s1 st1 ok1⟩
  · exact h.elim
def cutL {α : Type} (xs : List α) (lo hi : Option Int) : List α := (xs.drop (HT.sIx xs.length 0 lo)).take (HT.sIx xs.length xs.length hi - HT.sIx xs.length 0 lo)
theorem cutL_len {α : Type} (xs : List α) (lo hi : Option Int) : (cutL xs lo hi).length ≤ xs.length := by
  unfold cutL
  rw [List.length_take, List.length_drop]
  omega
def cutD (d : D) (lo hi : Option Int) : M D := fun cs => match d with
  | .tuple xs => .ok (.tuple (cutL xs lo hi)) cs
  | .str z => if z.length ≤ 16777216 then .ok (.str (cutS z lo hi)) cs else .stuck
  | d => match lstOf d cs with
    | some xs => .ok (.list (cutL xs lo hi)) cs
    | none => .stuck
def evSlice (f : Env → M D) (l u : Env → M (Option Int)) : Env → M D := fun env => mb (f env) fun d => mb (l env) fun lo => mb (u env) fun hi => cutD d lo hi
end
end KH

/-! KH: slices, built-in calls. -/
namespace KH
open PySem PySem.Spec PyProof.Rows L2
section
variable {Γ : Ctx} {pos p2 p : Pos} {a b e : Expr} {es : List Expr} {f g : Env → M D} {fl : Env → M (List D)}
def rSlD (K : PySem.W.Frag) : V → Option Int → Option Int → Hp → VK → Prop := fun x lo hi H Q => rSlA K x lo hi H Q ∨ rSlL K x lo hi H Q ∨ rSlS x lo hi H Q
theorem sl_D (X : Cx) (G : Good Γ X) : SlR X (rSlD Γ.K) := by
  rw [← G.K]
  exact SlR.or sl_tupA (SlR.or sl_list sl_str)
theorem AtAll.cut {K : PySem.W.Frag} {fa ca : List Addr} {Hs : Hp} {vs : List V} {ds : List D} (h : AtAll K fa Hs ca vs ds) (lo hi : Option Int) : AtAll K fa Hs ca (cutV vs lo hi) (cutL ds lo hi) := by
  unfold cutV cutL
  rw [h.len]
  exact (h.drop _).take _
theorem cut_whole {α : Type} {xs : List α} {lo hi : Option Int} (h : HT.sIx xs.length 0 lo = 0 ∧ HT.sIx xs.length xs.length hi = xs.length) : cutL xs lo hi = xs := by
  unfold cutL
  rw [h.1, h.2, List.drop_zero, Nat.sub_zero, List.take_length]
theorem cutD_ok {s : S3} {cs : CS} {x : V} {d : D} {lo hi : Option Int} {Q : VK} (ok : OkS Γ.K s cs) (a : At Γ.K Γ.fa s.Hs s.ca x d) (h : Sat (cutD d lo hi cs) (Beh Γ s Q) (BehX Γ s)) : rSlD Γ.K x lo hi s.H Q := by
  unfold cutD at h
  split at h
  · rename_i xs
    obtain ⟨p, vs, rfl, h1, hz, a1⟩ := tup_of ok a
    have hz' : (cutV vs lo hi).length ≤ sizeLine := Nat.le_trans (cutV_length _ _ _) hz
    refine .inl ⟨p, vs, rfl, h1, fun hw => ?_, fun _ => Beh.tup h ok hz' (a1.cut lo hi)⟩
    rw [a1.len] at hw
    have h : Beh Γ s Q (.tuple (cutL xs lo hi)) cs := h
    rw [cut_whole hw] at h
    exact Beh.here h ok a
  · split at h
    · rename_i hz
      cases a
      exact .inr (.inr ⟨_, rfl, by rw [line_eq]; exact hz, Beh.here h ok (.str _)⟩)
    · exact h.elim
  · split at h
    · rename_i xs e0
      obtain ⟨p, vs, rfl, h1, hz, a1⟩ := lst_of ok a e0
      have hz' : (cutV vs lo hi).length ≤ sizeLine := Nat.le_trans (cutV_length _ _ _) hz
      exact .inr (.inl ⟨p, vs, rfl, SqL.of h1, Beh.lst h ok hz' (a1.cut lo hi)⟩)
    · exact h.elim
theorem se_slice {lo hi : Option Expr} {fl fh : Env → M (Option Int)} (ha : SE Γ a f) (hl : SO Γ lo fl) (hh : SO Γ hi fh) : SE Γ (.Subscript a (.Slice lo hi none p2) pos) (evSlice f fl fh) := by
  obtain ⟨t, h1, h2⟩ := ha
  obtain ⟨u, r1, r2⟩ := hl
  obtain ⟨w, q1, q2⟩ := hh
  refine ⟨_, fun X G => pe_slice (sl_D X G) (h1 X G) (r1 X G) (q1 X G), fun σ s env cs Q ok eo h => ?_⟩
  refine h2 σ s env cs _ ok eo ?_
  have h := sat_bind.mp h
  refine h.imp (fun d cs1 h => ?_) fun _ _ z => z
  intro v s1 st1 ok1 a1
  refine r2 σ s1 env cs1 _ ok1 (eo.step st1) ?_
  have h := sat_bind.mp h
  refine h.imp (fun l cs2 h => ?_) fun _ _ z => z.step st1
  intro s2 st2 ok2
  have st12 := st1.trans st2
  refine q2 σ s2 env cs2 _ ok2 (eo.step st12) ?_
  have h := sat_bind.mp h
  refine h.imp (fun u cs3 h => ?_) fun _ _ z => z.step st12
  intro s3 st3 ok3
  have st := st12.trans st3
  refine cutD_ok ok3 ((a1.step st2).step st3) ?_
  exact h.imp (fun z cs4 h v4 s4 st4 ok4 a4 => h v4 s4 (st.trans st4) ok4 a4) fun _ _ z => z.step st
/-! ### built-in calls -/
theorem noStars {e : Expr} {es : List Expr} (hs : (e :: es).all noStar = true) {env : PySem.Env} : starEach (e :: es) env = (false, eval e env) :: starEach es env := by
  rw [List.all_cons, Bool.and_eq_true] at hs
  exact star_of hs.1
theorem se_blt {x : Str} {id : String} {r : List V → Hp → VK → Prop} {o : List D → M D} (hr : ∀ X, Good Γ X → CallR X (.builtin id) r) (od : CallD Γ r o) (hg : Γ.sc.names.lookup x = some .globalImplicit) (hm : Γ.mg x = none) (hv : bootBuiltins x = some (.builtin id))
    (hn : x ≠ "__name__") (hd : (x == ("__debug__" : Str)) = false) (hs : (e :: es).all noStar = true) (ha : SA Γ (e :: es) fl) : SE Γ (.Call (.Name x p) (e :: es) [] pos) (evA o fl) := by
  obtain ⟨t, h1, h2⟩ := ha
  exact ⟨_, fun X G => pe_callB (hr X G) (by show X.env.scope.names.lookup x = _; rw [G.sc]; exact hg) (by rw [G.mg]; exact hm) hv (h1 X G) hn hd (noStars hs) (no_splice pos (by rw [List.all_cons, Bool.and_eq_true] at hs; exact hs.2)), sem_call od h2⟩
theorem se_ty {x : Str} {T : String} {r : List V → Hp → VK → Prop} {o : List D → M D} (hr : ∀ X, Good Γ X → CallR X (.type T) r) (od : CallD Γ r o) (hg : Γ.sc.names.lookup x = some .globalImplicit) (hm : Γ.mg x = none) (hv : bootBuiltins x = some (.type T))
    (hn : x ≠ "__name__") (hd : (x == ("__debug__" : Str)) = false) (hs : (e :: es).all noStar = true) (ha : SA Γ (e :: es) fl) : SE Γ (.Call (.Name x p) (e :: es) [] pos) (evA o fl) := by
  obtain ⟨t, h1, h2⟩ := ha
  exact ⟨_, fun X G => pe_callTy (hr X G) (by show X.env.scope.names.lookup x = _; rw [G.sc]; exact hg) (by rw [G.mg]; exact hm) hv (h1 X G) hn hd (noStars hs) (no_splice pos (by rw [List.all_cons, Bool.and_eq_true] at hs; exact hs.2)), sem_call od h2⟩
/-! len -/
def lenD (ds : List D) : M D := fun cs => match ds with
  | [.str z] => if z.length ≤ 16777216 then .ok (.int z.length) cs else .stuck
  | [d] => (match seqOf d cs with
    | some xs => .ok (.int xs.length) cs
    | none => .stuck)
  | _ => .stuck
def rLenD (K : PySem.W.Frag) : List V → Hp → VK → Prop := fun xs H Q => ∃ x n, xs = [x] ∧ LenV K x H n ∧ Q (.int n) H
theorem cr_lenD (X : Cx) (G : Good Γ X) : CallR X (.builtin "len") (rLenD Γ.K) := by rw [← G.K]; exact call_len
theorem lenD_ok : CallD Γ (rLenD Γ.K) lenD := by
  intro s cs xs ds Q ok a h
  unfold lenD at h
  split at h
  · split at h
    · rename_i hz
      cases a with
      | cons a t =>
        cases a; cases t
        exact ⟨_, _, rfl, ⟨by rw [line_eq]; exact hz, rfl⟩, Beh.here h ok (.int _)⟩
    · exact h.elim
  · split at h
    · rename_i ys e1
      cases a with
      | cons a t =>
        cases t
        obtain ⟨p, vs, rfl, h1, hz, a1⟩ := seq_of ok a e1
        refine ⟨_, vs.length, rfl, (seq_or h1).imp (fun q => ⟨_, q, rfl⟩) fun q => ⟨_, q, rfl⟩, ?_⟩
        have := Beh.here h ok (.int _)
        rw [a1.len]
        exact this
    · exact h.elim
  · exact h.elim
/-! abs, int -/
def absD (ds : List D) : M D := match ds with
  | [.int i] => ret (.int (if i < 0 then -i else i))
  | _ => stk
theorem cr_absD (X : Cx) (G : Good Γ X) : CallR X (.builtin "abs") (fun xs H Q => ∃ i, xs = [.int i] ∧ Q (.int (if i < 0 then -i else i)) H) := call_abs
theorem absD_ok : CallD Γ (fun xs H Q => ∃ i, xs = [.int i] ∧ Q (.int (if i < 0 then -i else i)) H) absD := by
  intro s cs xs ds Q ok a h
  unfold absD at h
  split at h
  · cases a with
    | cons a t =>
      cases a; cases t
      exact ⟨_, rfl, Beh.here h ok (.int _)⟩
  · exact h.elim
def intD (ds : List D) : M D := match ds with
  | [.int i] => ret (.int i)
  | [.bool k] => ret (.int (if k then 1 else 0))
  | _ => stk
theorem cr_intD (X : Cx) (G : Good Γ X) : CallR X (.type "int") (fun xs H Q => (∃ i, xs = [.int i] ∧ Q (.int i) H) ∨ ∃ k, xs = [.bl k] ∧ Q (.int (if k then 1 else 0)) H) := call_int1
theorem intD_ok : CallD Γ (fun xs H Q => (∃ i, xs = [.int i] ∧ Q (.int i) H) ∨ ∃ k, xs = [.bl k] ∧ Q (.int (if k then 1 else 0)) H) intD := by
  intro s cs xs ds Q ok a h
  unfold intD at h
  split at h
  · cases a with
    | cons a t =>
      cases a; cases t
      exact .inl ⟨_, rfl, Beh.here h ok (.int _)⟩
  · cases a with
    | cons a t =>
      cases a; cases t
      exact .inr ⟨_, rfl, Beh.here h ok (.int _)⟩
  · exact h.elim
/-! tuple, list -/
def tupD (ds : List D) : M D := fun cs => match ds with
  | [.tuple xs] => .ok (.tuple xs) cs
  | [d] => (match lstOf d cs with
    | some xs => .ok (.tuple xs) cs
    | none => .stuck)
  | _ => .stuck
def rTupD (K : PySem.W.Frag) : List V → Hp → VK → Prop := fun xs H Q => ∃ p ys, xs = [.ref p] ∧ ((SqL K H p ys ∧ ∀ l, H l = none → Q (.ref l) (upd H l (.tup ys))) ∨ (SqT K H p ys ∧ Q (.ref p) H))
theorem cr_tupD (X : Cx) (G : Good Γ X) : CallR X (.type "tuple") (rTupD Γ.K) := by rw [← G.K]; exact call_tuple_of
theorem tupD_ok : CallD Γ (rTupD Γ.K) tupD := by
  intro s cs xs ds Q ok a h
  unfold tupD at h
  split at h
  · cases a with
    | cons a t =>
      cases t
      obtain ⟨p, vs, rfl, h1, hz, a1⟩ := tup_of ok a
      exact ⟨p, vs, rfl, .inr ⟨h1, Beh.here h ok a⟩⟩
  · split at h
    · rename_i ys e1
      cases a with
      | cons a t =>
        cases t
        obtain ⟨p, vs, rfl, h1, hz, a1⟩ := lst_of ok a e1
        exact ⟨p, vs, rfl, .inl ⟨SqL.of h1, Beh.tup h ok hz a1⟩⟩
    · exact h.elim
  · exact h.elim
def listD (ds : List D) : M D := fun cs => match ds with
  | [.dict [(.list xs, .none)]] => if xs.length ≤ 16777216 then .ok (.list xs) cs else .stuck
  | [d] => (match seqOf d cs with
    | some xs => .ok (.list xs) cs
    | none => .stuck)
  | _ => .stuck
def rListD' (K : PySem.W.Frag) : List V → Hp → VK → Prop := fun xs H Q => ∃ p ys, xs = [.ref p] ∧ (SqL K H p ys ∨ SqT K H p ys) ∧ ∀ l, H l = none → Q (.ref l) (upd H l (.lst ys))
theorem cr_listD (X : Cx) (G : Good Γ X) : CallR X (.type "list") (rListD' Γ.K) := by rw [← G.K]; exact call_list_of
theorem listD_ok : CallD Γ (rListD' Γ.K) listD := by
  intro s cs xs ds Q ok a h
  unfold listD at h
  split at h
  · rename_i ys
    split at h
    · rename_i hz
      cases a with
      | cons a t =>
        cases t
        cases a with
        | scr h1 =>
          rename_i ns
          rw [List.length_map] at hz
          exact ⟨_, _, rfl, .inl (ok.same.seq h1), Beh.lst h ok (by rw [List.length_map, line_eq]; exact hz) (AtAll.of_ints ns)⟩
    · exact h.elim
  · split at h
    · rename_i ys e1
      cases a with
      | cons a t =>
        cases t
        obtain ⟨p, vs, rfl, h1, hz, a1⟩ := seq_of ok a e1
        exact ⟨p, vs, rfl, seq_or h1, Beh.lst h ok hz a1⟩
    · exact h.elim
  · exact h.elim
/-! sum, all, any -/
def intsOf : List D → Option (List Int)
  | [] => some []
  | .int i :: ds => (intsOf ds).map (i :: ·)
  | _ :: _ => none
def blsOf : List D → Option (List Bool)
  | [] => some []
  | .bool i :: ds => (blsOf ds).map (i :: ·)
  | _ :: _ => none
theorem intsOf_eq : ∀ {ds : List D} {ns : List Int}, intsOf ds = some ns → ds = ns.map .int := by
  intro ds
  induction ds with
  | nil => intro ns h; cases h; rfl
  | cons d ds ih =>
    intro ns h
    cases d with
    | int i =>
      unfold intsOf at h
      obtain ⟨ms, e, rfl⟩ := Option.map_eq_some_iff.mp h
      rw [ih e]; rfl
    | _ => cases h
theorem blsOf_eq : ∀ {ds : List D} {ns : List Bool}, blsOf ds = some ns → ds = ns.map .bool := by
  intro ds
  induction ds with
  | nil => intro ns h; cases h; rfl
  | cons d ds ih =>
    intro ns h
    cases d with
    | bool i =>
      unfold blsOf at h
      obtain ⟨ms, e, rfl⟩ := Option.map_eq_some_iff.mp h
      rw [ih e]; rfl
    | _ => cases h
@[simp] theorem intsOf_map : ∀ ns : List Int, intsOf (ns.map .int) = some ns
  | [] => rfl
  | n :: ns => by rw [List.map_cons]; unfold intsOf; rw [intsOf_map ns]; rfl
@[simp] theorem blsOf_map : ∀ ns : List Bool, blsOf (ns.map .bool) = some ns
  | [] => rfl
  | n :: ns => by rw [List.map_cons]; unfold blsOf; rw [blsOf_map ns]; rfl
def sumD (ds : List D) : M D := fun cs => match ds with
  | [d] => (match (lstOf d cs).bind intsOf with
    | some ns => .ok (.int ns.sum) cs
    | none => .stuck)
  | _ => .stuck
theorem cr_sumD (X : Cx) (G : Good Γ X) : CallR X (.builtin "sum") (rSum Γ.K) := by rw [← G.K]; exact cr_sum G.calm
theorem lst_ints {s : S3} {cs : CS} {v : V} {d : D} {ns : List Int} (ok : OkS Γ.K s cs) (a : At Γ.K Γ.fa s.Hs s.ca v d) (h : (lstOf d cs).bind intsOf = some ns) : ∃ p, v = .ref p ∧ SqL Γ.K s.H p (ns.map V.int) := by
  obtain ⟨ys, e1, e2⟩ := Option.bind_eq_some_iff.mp h
  obtain ⟨p, vs, rfl, h1, hz, a1⟩ := lst_of ok a e1
  rw [intsOf_eq e2] at a1
  rw [a1.ints] at h1
  exact ⟨p, rfl, SqL.of h1⟩
theorem lst_bls {s : S3} {cs : CS} {v : V} {d : D} {ns : List Bool} (ok : OkS Γ.K s cs) (a : At Γ.K Γ.fa s.Hs s.ca v d) (h : (lstOf d cs).bind blsOf = some ns) : ∃ p, v = .ref p ∧ SqL Γ.K s.H p (ns.map V.bl) := by
  obtain ⟨ys, e1, e2⟩ := Option.bind_eq_some_iff.mp h
  obtain ⟨p, vs, rfl, h1, hz, a1⟩ := lst_of ok a e1
  rw [blsOf_eq e2] at a1
  rw [a1.bls] at h1
  exact ⟨p, rfl, SqL.of h1⟩
theorem sumD_ok : CallD Γ (rSum Γ.K) sumD := by
  intro s cs xs ds Q ok a h
  unfold sumD at h
  split at h
  · split at h
    · rename_i ns e1
      cases a with
      | cons a t =>
        cases t
        obtain ⟨p, rfl, h1⟩ := lst_ints ok a e1
        exact ⟨p, ns, rfl, h1, Beh.here h ok (.int _)⟩
    · exact h.elim
  · exact h.elim
def allD (ds : List D) : M D := fun cs => match ds with
  | [d] => (match (lstOf d cs).bind blsOf with
    | some ns => .ok (.bool (ns.all id)) cs
    | none => .stuck)
  | _ => .stuck
def anyD (ds : List D) : M D := fun cs => match ds with
  | [d] => (match (lstOf d cs).bind blsOf with
    | some ns => .ok (.bool (ns.any id)) cs
    | none => .stuck)
  | _ => .stuck
theorem cr_allD (X : Cx) (G : Good Γ X) : CallR X (.builtin "all") (rAll Γ.K) := by rw [← G.K]; exact cr_all G.calm
theorem cr_anyD (X : Cx) (G : Good Γ X) : CallR X (.builtin "any") (rAny Γ.K) := by rw [← G.K]; exact cr_any G.calm
theorem allD_ok : CallD Γ (rAll Γ.K) allD := by
  intro s cs xs ds Q ok a h
  unfold allD at h
  split at h
  · split at h
    · rename_i ns e1
      cases a with
      | cons a t =>
        cases t
        obtain ⟨p, rfl, h1⟩ := lst_bls ok a e1
        exact ⟨p, ns, rfl, h1, Beh.here h ok (.bl _)⟩
    · exact h.elim
  · exact h.elim
theorem anyD_ok : CallD Γ (rAny Γ.K) anyD := by
  intro s cs xs ds Q ok a h
  unfold anyD at h
  split at h
  · split at h
    · rename_i ns e1
      cases a with
      | cons a t =>
        cases t
        obtain ⟨p, rfl, h1⟩ := lst_bls ok a e1
        exact ⟨p, ns, rfl, h1, Beh.here h ok (.bl _)⟩
    · exact h.elim
  · exact h.elim
/-! isinstance -/
def tyOf : D → Option String
  | .none => some "NoneType"
  | .bool _ => some "bool"
  | .int _ => some "int"
  | .str _ => some "str"
  | .list _ => some "list"
  | .tuple _ => some "tuple"
  | .dict [(.int _, .none)] => some "list"
  | _ => none
end
end KH

/-! KH: sorted of tuples of which the first one is empty. -/
namespace PySem.SeqAt
open PySem PySem.Spec PyProof.Rows
section
variable {A : Around} {s : Shared}
theorem call_tuple_lt {prog : Program} {w : World} {E : Value → Shared → Prop} {Q : Value → Shared → Prop} {l b : Addr} {items items2 : Array Value} {e r : Nat → Bool} (hl : s.heap.IsTuple l items) (hb : s.heap.IsTuple b items2)
    (he : ∀ j (h1 : j < items.size) (h2 : j < items2.size), EqAt A.in1 s items[j] items2[j] (e j)) (hr : ∀ j (h1 : j < items.size) (h2 : j < items2.size), e j = false → RcLt A.in1 s items[j] items2[j] (r j))
    (h : Q (.bool (firstLt e r (decide (items.size < items2.size)) (List.range (min items.size items2.size)))) s) : wpAny (model prog w) A (call (.builtin "tuple.__lt__") [.ref l, .ref b]) Q E s := by
  obtain ⟨⟨cls, dd, data, sl⟩, ho, hc, n, hd⟩ := id hl
  obtain ⟨⟨cls2, dd2, data2, sl2⟩, ho2, hc2, n2, hd2⟩ := id hb
  simp only at hc hd hc2 hd2
  subst hc hd hc2 hd2
  exact call_meets F.slot_tuple_lt ⟨_, ho, rfl⟩ F.entry_tuple_lt (F.args_tuple_lt_2 _ _) (tuple_ltAt l b items items2 n n2 dd dd2 sl sl2 e r) ⟨ho, ho2, he, hr, h⟩
end
end PySem.SeqAt
namespace PySem.W
open PySem PySem.Calls PyProof.Rows PySem.SeqAt
section
variable {prog : Program} {w : World} {A : Around} {E : Value → Shared → Prop} {s : Shared}
theorem oneLt_tup {xs ys : List PyData} {a b : Value} {as bs : List Addr} {Q : Bool → Shared → Prop} (ra : Reads s.heap a (.tuple xs) as) (rb : Reads s.heap b (.tuple ys) bs) (h : alike (.tuple xs) (.tuple ys) = true)
    (hu : A.units + min (PyData.tuple xs).depth (PyData.tuple ys).depth < cLine) (hq : Q (dataLt (.tuple xs) (.tuple ys)) s) : wpAny (model prog w) A (oneLt' true a b) Q E s := by
  have hal : alikeAll xs ys = true := by simpa [alike] using h
  cases ra with
  | @tuple l o vs n _ as₁ h1 h2 h3 h4 =>
    cases rb with
    | @tuple l' o' vs' n' _ bs₁ k1 k2 k3 k4 =>
      have n1 : vs.size = xs.length := by simpa using ReadsAll.length _ _ _ h4
      have n2 : vs'.size = ys.length := by simpa using ReadsAll.length _ _ _ k4
      rw [dataLt_tuple, ← firstLt_toks xs ys hal, ← n1, ← n2] at hq
      rw [oneLt'_eq]
      simp only [if_true]
      refine wpAny_bind (wpAny_cRoomFor (room_here hu) ?_)
      refine wpAny_bind (wpAny_callSpecialIfBound?_slot (T := "tuple") ⟨_, h1, h2⟩ F.slot_tuple_lt (call_tuple_lt (e := pairEq xs ys) (r := fun j => dataLt (xs.getD j .none) (ys.getD j .none)) ⟨_, h1, h2, _, h3⟩ ⟨_, k1, k2, _, k3⟩ (fun j j1 j2 => ?_) (fun j j1 j2 hj => ?_) ?_))
      · have := eqAt_alikeAll xs ys A.in1 s vs.toList vs'.toList _ _ h4 k4 hal (room_in hu) j (by simpa using j1) (by simpa using j2)
        simpa using this
      · have := rcLt_alikeAll xs ys A.in1 s vs.toList vs'.toList _ _ h4 k4 hal (room_in hu) j (by simpa using j1) (by simpa using j2) hj
        simpa using this
      · exact wpAny_truthy_bool hq
/-- what the first items are: some or none -/
theorem first_tup {M : Model} {v : Value} {xs : List PyData} {as : List Addr} {Q : Option Value → Shared → Prop} (r : Reads s.heap v (.tuple xs) as) (h : ∀ o, (xs = [] → o = none) → Q o s) : wpAny M A (firstOfTuple' v) Q E s := by
  cases r with
  | @tuple l o vs n _ as₁ h1 h2 h3 h4 =>
    rw [kas_first_eq]
    refine wpAny_bind (Looks.here (show Looks M s.heap (typeOf (.ref l)) o.cls from (Looks.ld h1).andThen .now) ?_)
    rw [h2, if_neg (by first | decide | simp)]
    refine wpAny_bind (listItems_at h1 h3 (wpAny_pure (h _ fun e => ?_)))
    subst e
    have hn : vs.size = 0 := by simpa using ReadsAll.length _ _ _ h4
    rw [Array.getElem?_eq_none (by omega)]
theorem firsts_tup {M : Model} : ∀ (vs : List Value) {Q : List (Option Value) → Shared → Prop}, (∀ v ∈ vs, ∃ xs as, Reads s.heap v (.tuple xs) as) → (∀ fs : List (Option Value), fs.length = vs.length → Q fs s) → wpAny M A (vs.mapM firstOfTuple') Q E s
  | [], _, _, h => by rw [List.mapM_nil]; exact wpAny_pure (h [] rfl)
  | v :: vs, Q, t, h => by
    rw [List.mapM_cons]
    obtain ⟨xs, as, r⟩ := t v List.mem_cons_self
    refine wpAny_bind (first_tup r fun o _ => ?_)
    exact wpAny_bind (firsts_tup vs (fun u hu => t u (List.mem_cons_of_mem _ hu)) fun fs hl => wpAny_pure (h (o :: fs) (by simp [hl])))
theorem tup0_kind {M : Model} {v : Value} {vs : List Value} {as : List Addr} {Q : SortKind → Shared → Prop} (r : Reads s.heap v (.tuple []) as) (t : ∀ u ∈ v :: vs, ∃ xs as, Reads s.heap u (.tuple xs) as) (h : Q oneType' s) : wpAny M A (keyKind' (v :: vs).toArray) Q E s := by
  rw [kat_kind_eq, List.mapM_toArray, map_eq_pure_bind, List.mapM_cons]
  refine wpAny_bind (wpAny_bind (wpAny_bind (first_tup r fun o ho => ?_)))
  have ho := ho rfl
  subst ho
  refine wpAny_bind (firsts_tup vs (fun u hu => t u (List.mem_cons_of_mem _ hu)) fun fs hl => wpAny_pure (wpAny_pure ?_))
  rw [if_neg (by simp), if_neg (by simp)]
  have hT : ∀ u ∈ v :: vs, Looks M s.heap (typeOf u) (Value.type "tuple") := fun u hu => by
    obtain ⟨xs, as, r⟩ := t u hu
    exact looks_reads r
  rw [oneTypeOnly'_eq, List.mapM_toArray, map_eq_pure_bind]
  refine wpAny_bind (wpAny_bind (wpAny_bind (kas_mapM (r := Value.type "tuple") _ (fun v hv Q' hq => (hT v hv).here hq) (wpAny_pure ?_))))
  have hall : ((List.map (fun _ => Value.type "tuple") (v :: vs)).toArray.all fun x => x == Value.type "tuple") = true := by
    simp only [List.all_toArray, List.all_map, List.all_eq_true]
    intro _ _
    exact beq_self_eq_true _
  have h0 : (List.map (fun _ => Value.type "tuple") (v :: vs)).toArray[0]? = some (Value.type "tuple") := by simp
  rw [h0]
  simp only [hall, if_true]
  exact wpAny_pure (wpAny_pure h)
/-- all are tuples, the first one is empty -/
def Sort0 (ds : List PyData) : Prop := (∀ d, d ∈ ds → ∃ xs, d = .tuple xs) ∧ ∃ r, ds = .tuple [] :: r
theorem SortsAt.tup0 {vs : List Value} {ds : List PyData} (e : EachIs (fun v d => ∃ as, Reads s.heap v d as) vs ds) (hal : AllAlike ds) (hk : Sort0 ds) (hu : ∀ d, d ∈ ds → A.units + d.depth < cLine) : SortsAt prog w A s (dataKind s.heap ds) vs := by
  have room : ∀ {d d' : PyData}, d ∈ ds → A.units + min d.depth d'.depth < cLine := fun {d d'} hd => Nat.lt_of_le_of_lt (Nat.add_le_add_left (Nat.min_le_left _ _) _) (hu d hd)
  obtain ⟨ht, r, rfl⟩ := hk
  refine ⟨fun v hv => ?_, oneType', ?_, fun h2 E Q hq => ?_⟩
  · obtain ⟨d, hd, as, r⟩ := e.left v hv
    exact ⟨_, dataKind_some hal hd r⟩
  · intro E x y a b Q ha hb hq
    obtain ⟨d, as, hd, ra, rfl⟩ := dataKind_inv ha
    obtain ⟨d', as', hd', rb, rfl⟩ := dataKind_inv hb
    rw [keyLt'_oneType]
    obtain ⟨xs, rfl⟩ := ht d hd
    obtain ⟨ys, rfl⟩ := ht d' hd'
    exact oneLt_tup ra rb (hal _ hd _ hd') (room hd) hq
  · have t : ∀ u ∈ vs, ∃ xs as, Reads s.heap u (.tuple xs) as := fun u hu => by
      obtain ⟨d, hd, as, r⟩ := e.left u hu
      obtain ⟨xs, rfl⟩ := ht d hd
      exact ⟨xs, as, r⟩
    cases e with
    | cons r0 t0 =>
      obtain ⟨as, r0⟩ := r0
      exact tup0_kind r0 t hq
def SortableX (ds : List PyData) : Prop := Sortable ds ∨ Sort0 ds
theorem SortsAt.dataX {vs : List Value} {ds : List PyData} (e : EachIs (fun v d => ∃ as, Reads s.heap v d as) vs ds) (hal : AllAlike ds) (hk : SortableX ds) (hu : ∀ d, d ∈ ds → A.units + d.depth < cLine) : SortsAt prog w A s (dataKind s.heap ds) vs := by
  rcases hk with hk | hk
  · exact SortsAt.data e hal hk hu
  · exact SortsAt.tup0 e hal hk hu
theorem sorted_dataX {β : Type} {vs : List Value} {bs : List β} {enc : β → PyData} {R : Value → β → Prop} {l : Addr} {Q : Value → Shared → Prop} (hl : s.heap.IsList l vs.toArray) (e : EachIs R vs bs) (er : EachIs (fun v b => ∃ as, Reads s.heap v (enc b) as) vs bs) (hal : AllAlike (bs.map enc)) (hk : SortableX (bs.map enc)) (hL : bs.length ≤ sizeLine)
    (hu : ∀ b, b ∈ bs → A.units + 2 + (enc b).depth < cLine) (h : ∀ out, out.length = bs.length → EachIs R out (bs.mergeSort (dataLe false enc)) → Q (.ref (s.heap.objs.size + 1)) { s with heap := sortedAll s.heap vs (List.toArray out) }) :
    wpAny (model prog w) A (call (.builtin "sorted") [.ref l]) Q E s := by
  have er' : EachIs (fun v b => ∃ as, Reads (sortingHeap (copyHeap s.heap vs) (s.heap.objs.size + 1) vs) v (enc b) as) vs bs := er.mono fun _ _ ⟨as, r⟩ => ⟨as, PyProof.Rows.Reads.keeps (fun _ _ => sorting_copy_old) r⟩
  exact sorted_vals hl (SortsAt.dataX (s := { s with heap := sortingHeap (copyHeap s.heap vs) (s.heap.objs.size + 1) vs }) (each_map (R := fun v d => ∃ as, Reads (sortingHeap (copyHeap s.heap vs) (s.heap.objs.size + 1) vs) v d as) enc er') hal hk (bound_map hu)) (by rw [e.length]; exact hL)
    (h _ (by rw [sortVals_length false rfl]; exact e.length) (sortVals_data false e er' hal))
end
end PySem.W

/-! KH: sorted of a tuple. -/
namespace KH
open PySem PySem.Spec PyProof.Rows L2
section
variable {prog : Program} {w : World} {A : Around} {E : Value → Shared → Prop} {s : Shared}
theorem iadd_tup {Q : Fin → Shared → Prop} (l : Addr) (items : Array Value) (n : Nat) (b : Addr) (items2 : Array Value) (n2 : Nat) {dd : Option Addr} {sl : Array (Option Value)} (h1 : ¬(!items.isEmpty && Builtin.List.listTooLong (items.size + items2.size)) = true) (h2 : items.size ≤ sizeLine) (h3 : items.size + items2.size ≤ sizeLine + 1)
    (hl : s.heap.get? l = some { cls := .type "list", data := .seq items n }) (hb : s.heap.get? b = some { cls := .type "tuple", dict := dd, data := .seq items2 n2, slots := sl }) (hr : Q (.done (.ret (.ref l))) { s with heap := s.heap.update l (Obj.mapSeq fun x => x ++ items2) }) :
    wpAny (model prog w) A (Builtin.«list.__iadd__» { pos := [.ref l, .ref b] }) Q E s := by
  have hT : Shared.TypeIs s (.ref b) "tuple" := ⟨_, hb, rfl⟩
  unfold Builtin.«list.__iadd__» Builtin.List.listExtendWith
  wp_walk
  have hp : (Obj.mapSeq (fun x => x ++ items2) { cls := Value.type "list", data := Data.seq items n }).data.pastItsLine = none := by
    show Data.pastItsLine (Data.seq (items ++ items2) _) = none
    unfold Data.pastItsLine
    simp only [Array.size_append]
    rw [if_neg (by omega)]
  rw [hp]
  wp_walk
  exact hr
theorem collect_tup {l : Addr} {vs : List Value} {n : Nat} {dd : Option Addr} {sl : Array (Option Value)} {Q : List Value → Shared → Prop} (hl : s.heap.get? l = some { cls := .type "tuple", dict := dd, data := .seq vs.toArray n, slots := sl })
    (h : Q vs { s with heap := (s.heap.push (seqObj "list" #[] 0)).update s.heap.objs.size (Obj.mapSeq fun x => x ++ vs.toArray) }) (hz : vs.length ≤ sizeLine) : wpAny (model prog w) A (collect (.ref l)) Q E s := by
  unfold collect
  wp_walk
  refine codeAny_builtin entry_proto_collect' ?_
  unfold Builtin.«proto.collect»
  wp_walk
  refine ⟨Code.quiet_builtin _ (by decide +kernel), codeAny_builtin entry_list_iadd' ?_⟩
  have hb : (s.heap.push { cls := Value.type "list", data := Data.seq #[] }).get? l = some { cls := .type "tuple", dict := dd, data := .seq vs.toArray n, slots := sl } := Heap.get?_push_of_some _ hl
  have hn : (s.heap.push { cls := Value.type "list", data := Data.seq #[] }).get? s.heap.objs.size = some { cls := Value.type "list", data := Data.seq #[] } := Heap.get?_push_size _ rfl
  refine iadd_tup s.heap.objs.size #[] 0 l vs.toArray n (by simp) (by simp) (by simp; omega) hn hb ?_
  show wpAny _ _ _ _ _ _
  obtain ⟨e, hu⟩ : ∃ e, ((s.heap.push { cls := Value.type "list", data := Data.seq #[] }).update s.heap.objs.size (Obj.mapSeq fun x => x ++ vs.toArray)).get? s.heap.objs.size = some { cls := Value.type "list", data := Data.seq (#[] ++ vs.toArray) e } := ⟨_, Heap.get?_update_self _ hn rfl⟩
  wp_walk
  have e2 : (#[] ++ vs.toArray).toList = vs := by simp
  rw [e2]
  exact h
/-- sorted of a tuple, by the list that it is copied to -/
theorem sorted_of_tup {l : Addr} {vs : List Value} {n : Nat} {dd : Option Addr} {sl : Array (Option Value)} {Q : Value → Shared → Prop} (hl : s.heap.get? l = some { cls := .type "tuple", dict := dd, data := .seq vs.toArray n, slots := sl }) (hz : vs.length ≤ sizeLine)
    (h : ∀ E' : Value → Shared → Prop, wpAny (model prog w) A.in1.in1 (Builtin.«list.sort» { pos := [.ref (s.heap.objs.size + 1)] }) (fun f s' => f = .done (.ret .none) ∧ Q (.ref (s.heap.objs.size + 1)) s') E' { s with heap := PySem.W.copyHeap s.heap vs }) :
    wpAny (model prog w) A (call (.builtin "sorted") [.ref l]) Q E s := by
  refine wpAny_call (codeAny_of_tree ?_)
  show wpAny _ _ (callAny (.builtin "sorted") _) _ _ _
  refine wpAny_pure ⟨Code.quiet_builtin _ (by decide +kernel), codeAny_builtin entry_sorted ?_⟩
  unfold Builtin.sorted
  generalize hC : collect = C
  wp_walk
  subst hC
  refine collect_tup hl ?_ hz
  generalize hK : holding = K
  wp_walk
  subst hK
  refine wpAny_holding ?_
  rw [Around.under_plain (plainId_weight plain_sorted _) rfl]
  have hsz : ((s.heap.push (seqObj "list" #[] 0)).update s.heap.objs.size (Obj.mapSeq fun x => x ++ vs.toArray)).objs.size = s.heap.objs.size + 1 := by rw [Heap.size_update, Heap.size_push]
  rw [hsz]
  refine wpAny_call ?_
  refine codeAny_mono (codeAny_call_builtin (R := wants (fun r s' => r = .none ∧ Q (.ref (s.heap.objs.size + 1)) s') (fun _ _ => False)) (by decide +kernel) entry_list_sort ?_) ?_
  · have hT : Shared.TypeIs { s with heap := PySem.W.copyHeap s.heap vs } (.ref (s.heap.objs.size + 1)) "list" := by
      refine ⟨seqObj "list" vs.toArray 0, ?_, rfl⟩
      show (PySem.W.copyHeap s.heap vs).get? _ = some (seqObj "list" vs.toArray 0)
      unfold PySem.W.copyHeap
      rw [← hsz]
      exact Heap.get?_push_size _ rfl
    have hk := args_list_sort (.ref (s.heap.objs.size + 1))
    show wpAny _ _ _ _ _ { s with heap := PySem.W.copyHeap s.heap vs }
    generalize PySem.W.copyHeap s.heap vs = hp at *
    have k1 : splitId "list.sort" = some ("list", "sort") := by decide +kernel
    have k2 : builtinKind "list.sort" = some .method := by decide +kernel
    unfold checkBuiltinCall
    simp only [k1, k2]
    have k3 : isSubtype (.type "list") (.type "list") = pure true := F.sub_list_list
    unfold argsOk at hk
    generalize hL : Builtin.«list.sort» = LS at *
    wp_walk
    refine wpAny_mono (h (fun _ _ => False)) ?_ ?_
    · rintro f s' ⟨rfl, hq⟩
      exact ⟨rfl, hq⟩
    · intro _ _ hf
      exact hf.elim
  · rintro r s' hr
    cases r with
    | error e => exact hr.elim
    | ok fl =>
      cases fl with
      | ret v => exact wpAny_pure hr.2
      | _ => exact hr.elim
theorem sorted_valsT {κ : KeyKind} {l : Addr} {vs : List Value} {Q : Value → Shared → Prop} (hl : IsTup s.heap l vs.toArray) (hs : PySem.W.SortsAt prog w A.in1.in1 { s with heap := PySem.W.sortingHeap (PySem.W.copyHeap s.heap vs) (s.heap.objs.size + 1) vs } κ vs) (hz : vs.length ≤ sizeLine)
    (h : Q (.ref (s.heap.objs.size + 1)) { s with heap := sortedAll s.heap vs (PySem.W.sortVals κ false vs vs).toArray }) : wpAny (model prog w) A (call (.builtin "sorted") [.ref l]) Q E s := by
  obtain ⟨o, ho, hc, n, hd⟩ := hl
  obtain ⟨ocls, odict, odata, oslots⟩ := o
  simp only at hc hd
  subst hc; subst hd
  refine sorted_of_tup ho hz fun E' => ?_
  have hsz : ((s.heap.push (seqObj "list" #[] 0)).update s.heap.objs.size (Obj.mapSeq fun x => x ++ vs.toArray)).objs.size = s.heap.objs.size + 1 := by rw [Heap.size_update, Heap.size_push]
  refine PySem.W.list_sort_vals (n := 0) (κ := κ) ?_ hs hz ⟨rfl, h⟩
  show (PySem.W.copyHeap s.heap vs).get? _ = _
  unfold PySem.W.copyHeap
  rw [← hsz]
  exact Heap.get?_push_size _ rfl
theorem sorted_dataXT {β : Type} {vs : List Value} {bs : List β} {enc : β → PyData} {R : Value → β → Prop} {l : Addr} {Q : Value → Shared → Prop} (hl : IsTup s.heap l vs.toArray) (e : PySem.W.EachIs R vs bs) (er : PySem.W.EachIs (fun v b => ∃ as, Reads s.heap v (enc b) as) vs bs) (hal : PySem.W.AllAlike (bs.map enc)) (hk : PySem.W.SortableX (bs.map enc)) (hL : bs.length ≤ sizeLine)
    (hu : ∀ b, b ∈ bs → A.units + 2 + (enc b).depth < cLine) (h : ∀ out, out.length = bs.length → PySem.W.EachIs R out (bs.mergeSort (PySem.W.dataLe false enc)) → Q (.ref (s.heap.objs.size + 1)) { s with heap := sortedAll s.heap vs (List.toArray out) }) :
    wpAny (model prog w) A (call (.builtin "sorted") [.ref l]) Q E s := by
  have er' : PySem.W.EachIs (fun v b => ∃ as, Reads (PySem.W.sortingHeap (PySem.W.copyHeap s.heap vs) (s.heap.objs.size + 1) vs) v (enc b) as) vs bs := er.mono fun _ _ ⟨as, r⟩ => ⟨as, PyProof.Rows.Reads.keeps (fun _ _ => PySem.W.sorting_copy_old) r⟩
  exact sorted_valsT hl (PySem.W.SortsAt.dataX (s := { s with heap := PySem.W.sortingHeap (PySem.W.copyHeap s.heap vs) (s.heap.objs.size + 1) vs }) (PySem.W.each_map (R := fun v d => ∃ as, Reads (PySem.W.sortingHeap (PySem.W.copyHeap s.heap vs) (s.heap.objs.size + 1) vs) v d as) enc er') hal hk (PySem.W.bound_map hu)) (by rw [e.length]; exact hL)
    (h _ (by rw [PySem.W.sortVals_length false rfl]; exact e.length) (PySem.W.sortVals_data false e er' hal))
end
end KH

/-! KH: isinstance, sorted, min, max. -/
namespace KH
open PySem PySem.Spec PyProof.Rows L2
/-! ### isinstance -/
inductive Ty where
  | int | bool | str | list | tuple
  deriving DecidableEq
def Ty.name : Ty → String
  | .int => "int"
  | .bool => "bool"
  | .str => "str"
  | .list => "list"
  | .tuple => "tuple"
def isiB : D → Ty → Option Bool
  | .none, _ => some false
  | .bool _, .bool => some true
  | .bool _, .int => some true
  | .bool _, _ => some false
  | .int _, .int => some true
  | .int _, _ => some false
  | .str _, .str => some true
  | .str _, _ => some false
  | .list _, .list => some true
  | .list _, _ => some false
  | .tuple _, .tuple => some true
  | .tuple _, _ => some false
  | .dict _, _ => none
def isiD (T : Ty) (d : D) : M D := fun cs => match isiB d T with
  | some b => .ok (.bool b) cs
  | none => .stuck
section
variable {Γ : Ctx} {pos p p2 : Pos} {a b e : Expr} {es : List Expr} {f g : Env → M D} {fl : Env → M (List D)}
theorem kitB_ty (t : Ty) : kitB "NoneType" t.name = some false ∧ kitB "bool" t.name = some (match t with | .bool => true | .int => true | _ => false) ∧ kitB "int" t.name = some (match t with | .int => true | _ => false) ∧
    kitB "str" t.name = some (match t with | .str => true | _ => false) ∧ kitB "list" t.name = some (match t with | .list => true | _ => false) ∧ kitB "tuple" t.name = some (match t with | .tuple => true | _ => false) := by
  cases t <;> decide +kernel
theorem isi_ok {s : S3} {cs : CS} {x : V} {d : D} {T : Ty} {b : Bool} (ok : OkS Γ.K s cs) (a : At Γ.K Γ.fa s.Hs s.ca x d) (h : isiB d T = some b) : ∃ t, TyX Γ.K s.H x t ∧ PySem.W.kitOne Γ.K t (.type T.name) = some b := by
  obtain ⟨k1, k2, k3, k4, k5, k6⟩ := kitB_ty T
  cases a with
  | non => exact ⟨_, .base .non, by rw [kit_ty k1]; cases T <;> exact h⟩
  | bl b' => exact ⟨_, .base (.bl b'), by rw [kit_ty k2]; cases T <;> exact h⟩
  | int i => exact ⟨_, .base (.int i), by rw [kit_ty k3]; cases T <;> exact h⟩
  | str z => exact ⟨_, .base (.str z), by rw [kit_ty k4]; cases T <;> exact h⟩
  | lst h1 hz h2 => exact ⟨_, .base (.lst (ok.same _ _ h1)), by rw [kit_ty k5]; cases T <;> exact h⟩
  | tup h1 hz h2 =>
    have e : PySem.W.kitOne Γ.K (.type "tuple") (.type T.name) = some b := by rw [kit_ty k6]; cases T <;> exact h
    rcases h1 with (h1 | ⟨o, h1⟩) | ⟨o, its, n, h1, h2, _⟩
    · exact ⟨_, .base (.tup (ok.same _ _ h1)), e⟩
    · exact ⟨_, .fTuple (ok.same _ _ h1), e⟩
    · exact ⟨_, .kTuple h1 h2, e⟩
  | cell h => cases T <;> cases h
  | fn h => cases T <;> cases h
  | scr h => cases T <;> cases h
theorem se_isi {x : Str} {T : Ty} (hx : x = Str.ofString T.name) (hg : Γ.sc.names.lookup ("isinstance" : Str) = some .globalImplicit) (hm : Γ.mg ("isinstance" : Str) = none) (hg2 : Γ.sc.names.lookup x = some .globalImplicit) (hm2 : Γ.mg x = none) (hn : noStar e = true) (ha : SE Γ e f) :
    SE Γ (.Call (.Name "isinstance" p) [e, .Name x p2] [] pos) (ev1 (isiD T) f) := by
  obtain ⟨t, h1, h2⟩ := ha
  have hv : bootBuiltins x = some (.type T.name) := by subst hx; cases T <;> decide +kernel
  have hnn : x ≠ "__name__" := by subst hx; cases T <;> decide +kernel
  have hdd : (x == ("__debug__" : Str)) = false := by subst hx; cases T <;> decide +kernel
  refine ⟨tCB (rIsi Γ.K) (tCons t (tCons (tC (.ty T.name)) tNil)), fun X G => ?_, fun σ s env cs Q ok eo h => ?_⟩
  · have hc := call_isi (X := X)
    rw [G.K] at hc
    refine pe_callB hc (by show X.env.scope.names.lookup _ = _; rw [G.sc]; exact hg) (by rw [G.mg]; exact hm) (by decide +kernel) (pa_cons (h1 X G) (pa_cons (pe_bltn (v := .ty T.name) (by show X.env.scope.names.lookup _ = _; rw [G.sc]; exact hg2) (by rw [G.mg]; exact hm2) hv rfl hnn hdd) pa_nil) (star_of hn)) (he := star_of hn)
  · refine h2 σ s env cs _ ok eo ?_
    have h := sat_bind.mp h
    refine h.imp (fun d cs1 h => ?_) fun _ _ z => z
    intro v s1 st1 ok1 a1
    unfold isiD at h
    split at h
    · rename_i b e1
      obtain ⟨t, q1, q2⟩ := isi_ok ok1 a1 e1
      exact ⟨v, .ty T.name, t, _, b, rfl, .ty _, q1, q2, h _ s1 st1 ok1 (.bl b)⟩
    · exact h.elim
/-! ### sorted -/
end
section
variable {X : Cx}
theorem dpAll_len {K : PySem.W.Frag} {H : Hp} : ∀ {vs : List V} {ds : List D}, DpAll K H vs ds → vs.length = ds.length
  | _, _, .nil => rfl
  | _, _, .cons _ t => congrArg (· + 1) (dpAll_len t)
theorem each_zip {s : Shared} {H : Hp} {σ : L2.St} {pins : List (Addr × Obj)} (I : Inv X pins σ H s) : ∀ {its : List Value} {vs : List V} {ds : List D}, Vals vs its → DpAll X.K H vs ds → PySem.W.EachIs (fun u (b : V × D) => RelV b.1 u) its (vs.zip ds) ∧ PySem.W.EachIs (fun u (b : V × D) => ∃ as, Reads s.heap u b.2 as) its (vs.zip ds)
  | _, _, _, .nil, .nil => ⟨.nil, .nil⟩
  | _, _, _, .cons r t, .cons h k => by
    obtain ⟨q1, q2⟩ := each_zip I t k
    exact ⟨.cons r q1, .cons (Dp.reads I _ _ _ h r) q2⟩
theorem zip_snd : ∀ {vs : List V} {ds : List D}, vs.length = ds.length → (vs.zip ds).map Prod.snd = ds
  | [], [], _ => rfl
  | v :: vs, d :: ds, h => by rw [List.zip_cons_cons, List.map_cons, zip_snd (by simpa using h)]
  | [], d :: ds, h => by simp at h
  | v :: vs, [], h => by simp at h
theorem vals_each : ∀ {us : List Value} {bs : List (V × D)}, PySem.W.EachIs (fun u (b : V × D) => RelV b.1 u) us bs → Vals (bs.map Prod.fst) us
  | _, _, .nil => .nil
  | _, _, .cons r t => .cons r (vals_each t)
def rSortedD (K : PySem.W.Frag) : List V → Hp → VK → Prop := fun vs H Q => ∃ (a : Addr) (xs : List V) (ds : List D), vs = [.ref a] ∧ (SqL K H a xs ∨ SqT K H a xs) ∧ DpAll K H xs ds ∧ PySem.W.AllAlike ds ∧ PySem.W.SortableX ds ∧ (∀ d ∈ ds, d.depth ≤ 64) ∧
  ∀ p, H p = none → Q (.ref p) (upd H p (.lst (((xs.zip ds).mergeSort (PySem.W.dataLe false Prod.snd)).map Prod.fst)))
theorem cr_sortedD' (hu : X.A.units + 66 < cLine) : CallR X (.builtin "sorted") (rSortedD X.K) := by
  intro pins s σ H vs us Q I r h
  obtain ⟨a, xs, ds, rfl, hs, hd, hal, hk, hdep, q⟩ := h
  rw [Vals.ref1 r]
  have hlen := dpAll_len hd
  have es := zip_snd hlen
  have fin : ∀ its, Vals xs its → xs.length ≤ sizeLine → ∀ out : List Value, out.length = (xs.zip ds).length → PySem.W.EachIs (fun u (b : V × D) => RelV b.1 u) out ((xs.zip ds).mergeSort (PySem.W.dataLe false Prod.snd)) → EP X pins σ Q (.ref (s.heap.objs.size + 1)) { s with heap := PyProof.Rows.sortedAll s.heap its out.toArray } := fun its rv hz out ho he => by
    obtain ⟨ep, he'⟩ := PyProof.Rows.sortedAll_at s.heap its out.toArray
    have hv := vals_each he
    have hl2 : (((xs.zip ds).mergeSort (PySem.W.dataLe false Prod.snd)).map Prod.fst).length ≤ sizeLine := by
      rw [List.length_map, List.length_mergeSort, List.length_zip]; omega
    exact ⟨.ref _, upd H (s.heap.objs.size + 1) (.lst _), I.laid (t' := s.toks) (fun _ _ => PyProof.Rows.sortedAll_old) (Nat.le_succ _) ⟨hl2, out, ep, hv, he'⟩, rfl, q _ (I.hok.fresh (Nat.le_succ _))⟩
  have dep : ∀ b ∈ xs.zip ds, X.A.units + 2 + b.2.depth < cLine := fun b hb => by
    have hm : b.2 ∈ ds := by rw [← es]; exact List.mem_map.mpr ⟨b, hb, rfl⟩
    have := hdep _ hm
    omega
  rcases hs with hs | hs
  · obtain ⟨its, rv, hl, hz⟩ := I.list hs
    obtain ⟨e1, e2⟩ := each_zip I rv hd
    exact PySem.W.sorted_dataX (enc := Prod.snd) hl.isList e1 e2 (by rw [es]; exact hal) (by rw [es]; exact hk) (by rw [List.length_zip]; omega) dep fun out ho he => fin its rv hz out ho he
  · obtain ⟨its, rv, hl, hz⟩ := I.tuple hs
    obtain ⟨e1, e2⟩ := each_zip I rv hd
    exact sorted_dataXT (enc := Prod.snd) hl e1 e2 (by rw [es]; exact hal) (by rw [es]; exact hk) (by rw [List.length_zip]; omega) dep fun out ho he => fin its rv hz out ho he
/-! min, max -/
def rBest (K : PySem.W.Frag) (F : D → List D → D) : List V → Hp → VK → Prop := fun vs H Q => ∃ (a : Addr) (xs : List V) (d : D) (ds : List D), vs = [.ref a] ∧ (SqL K H a xs ∨ SqT K H a xs) ∧ DpAll K H xs (d :: ds) ∧ PySem.W.AlikeAll (d :: ds) ∧ PyData.depthAll (d :: ds) ≤ 64 ∧ PyData.canLayAll0 (d :: ds) = true ∧
  ∀ (i : Nat) (v : V), xs[i]? = some v → (d :: ds)[i]? = some (F d ds) → Q v H
theorem best_fin {pins : List (Addr × Obj)} {s : Shared} {σ : L2.St} {H : Hp} {Q : VK} {its : List Value} {xs : List V} {ds : List D} {m : D} (I : Inv X pins σ H s) (rv : Vals xs its) (hd : DpAll X.K H xs ds) (hc : PyData.canLayAll0 ds = true)
    (q : ∀ (i : Nat) (v : V), xs[i]? = some v → ds[i]? = some m → Q v H) {i : Nat} {u : Value} {h' : Heap} {tk : Nat} {bs : List Addr} (hv : its.toArray[i]? = some u) (hr : Reads h' u m bs) (keep : ∀ b o, s.heap.get? b = some o → h'.get? b = some o) :
    EP X pins σ Q u { s with heap := h', toks := tk } := by
  have hv : its[i]? = some u := by simpa using hv
  have hi : i < its.length := (List.getElem?_eq_some_iff.mp hv).1
  have hxl := rv.length
  have hix : i < xs.length := by omega
  obtain ⟨u', e1, r1⟩ := rv.get (List.getElem?_eq_getElem hix)
  rw [hv] at e1
  cases e1
  obtain ⟨as, ra⟩ := Dp.readsAll I ds xs its hd rv
  have hm : its.map (SeqAt.readOf s.heap) = ds := SeqAt.readsAll_map ds its as hc ra
  have hdi : ds[i]? = some (SeqAt.readOf s.heap u) := by rw [← hm, List.getElem?_map, hv]; rfl
  obtain ⟨bs', rb, _, _, _⟩ := PySem.W.readsAll_at ra i u hv
  have hg : ds.getD i .none = SeqAt.readOf s.heap u := by rw [List.getD_eq_getElem?_getD, hdi]; rfl
  rw [hg] at rb
  have rb' := PyProof.Rows.Reads.keeps keep rb
  have em := (PySem.Reads.unique rb' _ _ hr).1
  rw [em] at hdi
  exact ⟨xs[i], H, I.kept keep, r1, q i _ (List.getElem?_eq_getElem hix) hdi⟩
theorem room_best {A : Around} {n : Nat} (hu : A.units + 66 < cLine) (h : n ≤ 64) : A.units + 1 + n < cLine := by omega
theorem cr_minD' (hc : X.calm = true) (hu : X.A.units + 66 < cLine) : CallR X (.builtin "min") (rBest X.K PySem.W.minD) := by
  intro pins s σ H vs us Q I r h
  obtain ⟨a, xs, d, ds, rfl, hs, hd, hal, hdep, hcl, q⟩ := h
  rw [Vals.ref1 r]
  rcases hs with hs | hs
  · obtain ⟨its, rv, hl, hz⟩ := I.list hs
    obtain ⟨as, ra⟩ := Dp.readsAll I _ xs its hd rv
    exact PySem.W.min_list_data (I.ok.hd hc) hl.isList (by simpa using ra) hal (room_best hu hdep) fun i v h' tk bs hv hr keep => best_fin I rv hd hcl q hv hr keep
  · obtain ⟨its, rv, hl, hz⟩ := I.tuple hs
    obtain ⟨as, ra⟩ := Dp.readsAll I _ xs its hd rv
    exact PySem.W.min_tuple_data (I.ok.hd hc) hl (by simpa using ra) hal (room_best hu hdep) fun i v h' tk bs hv hr keep => best_fin I rv hd hcl q hv hr keep
theorem cr_maxD' (hc : X.calm = true) (hu : X.A.units + 66 < cLine) : CallR X (.builtin "max") (rBest X.K PySem.W.maxD) := by
  intro pins s σ H vs us Q I r h
  obtain ⟨a, xs, d, ds, rfl, hs, hd, hal, hdep, hcl, q⟩ := h
  rw [Vals.ref1 r]
  rcases hs with hs | hs
  · obtain ⟨its, rv, hl, hz⟩ := I.list hs
    obtain ⟨as, ra⟩ := Dp.readsAll I _ xs its hd rv
    exact PySem.W.max_list_data (I.ok.hd hc) hl.isList (by simpa using ra) hal (room_best hu hdep) fun i v h' tk bs hv hr keep => best_fin I rv hd hcl q hv hr keep
  · obtain ⟨its, rv, hl, hz⟩ := I.tuple hs
    obtain ⟨as, ra⟩ := Dp.readsAll I _ xs its hd rv
    exact PySem.W.max_tuple_data (I.ok.hd hc) hl (by simpa using ra) hal (room_best hu hdep) fun i v h' tk bs hv hr keep => best_fin I rv hd hcl q hv hr keep
end
/-! ### sorted, min, max as functions of data -/
section
variable {Γ : Ctx}
theorem room66 {X : Cx} (G : Good Γ X) : X.A.units + 66 < cLine := by
  have := G.room.un
  omega
def allAlikeB (ds : List D) : Bool := ds.all fun d => ds.all fun e => PySem.W.alike d e
def isTup1 : D → Bool
  | .tuple (_ :: _) => true
  | _ => false
def noTup : D → Bool
  | .none => false
  | .tuple _ => false
  | _ => true
def isTup0 : D → Bool
  | .tuple _ => true
  | _ => false
def headNil : List D → Bool
  | .tuple [] :: _ => true
  | _ => false
def sortableB (ds : List D) : Bool := ds.all isTup1 || ds.all noTup || (headNil ds && ds.all isTup0)
def dleD (a b : D) : Bool := !PySem.W.dataLt b a
def sortedD (ds : List D) : M D := fun cs => match ds with
  | [d] => (match seqOf d cs with
    | some xs => if (allAlikeB xs && sortableB xs && SeqAt.shaped (.list xs)) = true then .ok (.list (xs.mergeSort dleD)) cs else .stuck
    | none => .stuck)
  | _ => .stuck
theorem cr_sortedD (X : Cx) (G : Good Γ X) : CallR X (.builtin "sorted") (rSortedD Γ.K) := by rw [← G.K]; exact cr_sortedD' (room66 G)
theorem allAlike_of {xs : List D} (h : allAlikeB xs = true) : PySem.W.AllAlike xs := fun d hd d' hd' => by
  unfold allAlikeB at h
  exact List.all_eq_true.mp (List.all_eq_true.mp h d hd) d' hd'
theorem sortable_of {xs : List D} (h : sortableB xs = true) : PySem.W.SortableX xs := by
  unfold sortableB at h
  rw [Bool.or_eq_true, Bool.or_eq_true, Bool.and_eq_true, List.all_eq_true, List.all_eq_true, List.all_eq_true] at h
  rcases h with (h | h) | h
  · refine .inl (.inl fun d hd => ?_)
    have := h d hd
    cases d with
    | tuple xs =>
      cases xs with
      | nil => cases this
      | cons x r => exact ⟨x, r, rfl⟩
    | _ => cases this
  · refine .inl (.inr fun d hd => ?_)
    have := h d hd
    refine ⟨fun e => ?_, fun xs e => ?_⟩ <;> (subst e; cases this)
  · refine .inr ⟨fun d hd => ?_, ?_⟩
    · have := h.2 d hd
      cases d with
      | tuple xs => exact ⟨xs, rfl⟩
      | _ => cases this
    · have := h.1
      unfold headNil at this
      split at this
      · exact ⟨_, rfl⟩
      · cases this
theorem depthAll_mem : ∀ {ds : List D} {d : D}, d ∈ ds → d.depth ≤ PyData.depthAll ds
  | x :: xs, d, h => by
    rw [PyData.depthAll]
    rcases List.mem_cons.mp h with rfl | h
    · exact Nat.le_max_left _ _
    · exact Nat.le_trans (depthAll_mem h) (Nat.le_max_right _ _)
theorem zip_at {K : PySem.W.Frag} {fa ca : List Addr} {Hs : Hp} {vs : List V} {ds : List D} (h : AtAll K fa Hs ca vs ds) : ∀ b ∈ vs.zip ds, At K fa Hs ca b.1 b.2 := fun b hb => by
  obtain ⟨i, hi, e⟩ := List.mem_iff_getElem.mp hb
  have e' : (vs.zip ds)[i]? = some b := by rw [List.getElem?_eq_getElem hi, e]
  rw [List.getElem?_zip_eq_some] at e'
  exact h.at e'.1 e'.2
theorem pairs_all {K : PySem.W.Frag} {fa ca : List Addr} {Hs : Hp} : ∀ {bs : List (V × D)}, (∀ b ∈ bs, At K fa Hs ca b.1 b.2) → AtAll K fa Hs ca (bs.map Prod.fst) (bs.map Prod.snd)
  | [], _ => .nil
  | b :: bs, h => .cons (h b List.mem_cons_self) (pairs_all fun c hc => h c (List.mem_cons_of_mem _ hc))
theorem zip_sort {K : PySem.W.Frag} {fa ca : List Addr} {Hs : Hp} {vs : List V} {ds : List D} (h : AtAll K fa Hs ca vs ds) : AtAll K fa Hs ca (((vs.zip ds).mergeSort (PySem.W.dataLe false Prod.snd)).map Prod.fst) (ds.mergeSort dleD) := by
  have e : ((vs.zip ds).mergeSort (PySem.W.dataLe false Prod.snd)).map Prod.snd = ds.mergeSort dleD := by
    have e0 : (PySem.W.dataLe false Prod.snd : V × D → V × D → Bool) = fun a b => dleD (Prod.snd a) (Prod.snd b) := by
      rw [PySem.W.dataLe_eq]; rfl
    rw [e0]
    have := List.map_mergeSort (r := fun (a b : V × D) => dleD (Prod.snd a) (Prod.snd b)) (s := dleD) (f := Prod.snd) (l := vs.zip ds) (fun a _ b _ => rfl)
    rw [this, zip_snd h.len]
  rw [← e]
  exact pairs_all fun b hb => zip_at h b (List.mem_mergeSort.mp hb)
theorem sortedD_ok : CallD Γ (rSortedD Γ.K) sortedD := by
  intro s cs xs ds Q ok a h
  unfold sortedD at h
  split at h
  · split at h
    · rename_i ys e1
      split at h
      · rename_i hz
        rw [Bool.and_eq_true, Bool.and_eq_true] at hz
        obtain ⟨⟨z1, z2⟩, z3⟩ := hz
        cases a with
        | cons a t =>
          cases t
          obtain ⟨p, vs, rfl, h1, hz, a1⟩ := seq_of ok a e1
          have hcl : PyData.canLayAll0 ys = true := by have := shaped_lay z3; simpa only [PyData.canLay0] using this
          have hdp : PyData.depthAll ys + 1 ≤ 64 := by have := SeqAt.depth_of_shaped z3; simpa only [PyData.depth] using this
          refine ⟨p, vs, ys, rfl, seq_or h1, a1.dp ok.same hcl, allAlike_of z1, sortable_of z2, fun d hd => ?_, Beh.lst h ok ?_ (zip_sort a1)⟩
          · have := depthAll_mem hd
            omega
          · rw [List.length_map, List.length_mergeSort, List.length_zip]; omega
      · exact h.elim
    · exact h.elim
  · exact h.elim
def noneFree (ds : List D) : Bool := ds.all fun d => !isNon d
def bestD (F : D → List D → D) (k2 : Int → Int → Int) (ds : List D) : M D := fun cs => match ds with
  | [.int i, .int j] => .ok (.int (k2 i j)) cs
  | [d] => (match seqOf d cs with
    | some (x :: xs) => if (allAlikeB (x :: xs) && noneFree (x :: xs) && SeqAt.shaped (.list (x :: xs))) = true then .ok (F x xs) cs else .stuck
    | _ => .stuck)
  | _ => .stuck
def rBest2 (K : PySem.W.Frag) (F : D → List D → D) (k2 : Int → Int → Int) : List V → Hp → VK → Prop := fun xs H Q => (∃ i j, xs = [.int i, .int j] ∧ Q (.int (k2 i j)) H) ∨ rBest K F xs H Q
def minI (i j : Int) : Int := if j < i then j else i
def maxI (i j : Int) : Int := if j > i then j else i
theorem cr_minD (X : Cx) (G : Good Γ X) : CallR X (.builtin "min") (rBest2 Γ.K PySem.W.minD minI) := by
  rw [← G.K]
  exact CallR.or (call_min2 G.calm) (cr_minD' G.calm (room66 G))
theorem cr_maxD (X : Cx) (G : Good Γ X) : CallR X (.builtin "max") (rBest2 Γ.K PySem.W.maxD maxI) := by
  rw [← G.K]
  exact CallR.or (call_max2 G.calm) (cr_maxD' G.calm (room66 G))
theorem best_ok {F : D → List D → D} {k2 : Int → Int → Int} : CallD Γ (rBest2 Γ.K F k2) (bestD F k2) := by
  intro s cs xs ds Q ok a h
  unfold bestD at h
  split at h
  · cases a with
    | cons a t =>
      cases t with
      | cons b t =>
        cases a; cases b; cases t
        exact .inl ⟨_, _, rfl, Beh.here h ok (.int _)⟩
  · split at h
    · rename_i d ds e1
      split at h
      · rename_i hz
        rw [Bool.and_eq_true, Bool.and_eq_true] at hz
        obtain ⟨⟨z1, z2⟩, z3⟩ := hz
        cases a with
        | cons a t =>
          cases t
          obtain ⟨p, vs, rfl, h1, hz, a1⟩ := seq_of ok a e1
          have hcl : PyData.canLayAll0 (d :: ds) = true := by have := shaped_lay z3; simpa only [PyData.canLay0] using this
          have hdp : PyData.depthAll (d :: ds) + 1 ≤ 64 := by have := SeqAt.depth_of_shaped z3; simpa only [PyData.depth] using this
          refine .inr ⟨p, vs, d, ds, rfl, seq_or h1, a1.dp ok.same hcl, ⟨fun x hx y hy => allAlike_of z1 x hx y hy, fun x hx e => ?_⟩, by omega, hcl, fun i v e1 e2 => Beh.here h ok (a1.at e1 e2)⟩
          have := List.all_eq_true.mp z2 x hx
          subst e
          cases this
      · exact h.elim
    · exact h.elim
  · exact h.elim
end
end KH

/-! KH: targets, what is walked, comprehensions. -/
namespace KH
open PySem PySem.Spec PyProof.Rows L2
/-! ### targets -/
inductive Tg where
  | nm (i : Nat)
  | tp (is : List Nat)
def Tg.slots : Tg → List Nat
  | .nm i => [i]
  | .tp is => is
def setAll : List Nat → List D → Env → Env
  | i :: is, d :: ds, env => setAll is ds (env.set i (some d))
  | _, _, env => env
def setTg : Tg → D → Env → Option Env
  | .nm i, d, env => some (env.set i (some d))
  | .tp is, .tuple ds, env => if ds.length = is.length then some (setAll is ds env) else none
  | _, _, _ => none
def Apart (ss : List Nat) (σ σ' : L2.St) : Prop := σ'.length = σ.length ∧ ∀ j, j ∉ ss → σ'[j]? = σ[j]?
def SemG (Γ : Ctx) (g : TG) (tg : Tg) : Prop := ∀ (σ : L2.St) (s : S3) (env env' : Env) (cs : CS) (v : V) (d : D) (Q : L2.St → Hp → Prop), OkS Γ.K s cs → EnvOk Γ s σ env → At Γ.K Γ.fa s.Hs s.ca v d → setTg tg d env = some env' →
  (∀ σ', EnvOk Γ s σ' env' → Apart tg.slots σ σ' → Q σ' s.H) → g v σ s.H Q
def SG (Γ : Ctx) (e : Expr) (tg : Tg) : Prop := ∃ g, (∀ X, Good Γ X → PG X e g) ∧ SemG Γ g tg
section
variable {Γ : Ctx} {pos : Pos}
theorem sg_name {i : Nat} {x : Str} (hN : Γ.N[i]? = some x) (hs : Γ.st x = true) : SG Γ (.Name x pos) (.nm i) := by
  refine ⟨gName i, fun X G => ?_, fun σ s env env' cs v d Q ok eo a h q => ?_⟩
  · obtain ⟨h1, h2⟩ := G.sto x hs
    exact pg_name G.nd (by rw [G.N]; exact hN) h1 h2
  · cases h
    refine q _ (eo.set i a) ⟨by simp, fun j hj => ?_⟩
    have : i ≠ j := fun e => hj (by simp [Tg.slots, e])
    rw [List.getElem?_set_ne this]
def SemGs (Γ : Ctx) (g : TGs) (is : List Nat) : Prop := ∀ (σ : L2.St) (s : S3) (env : Env) (cs : CS) (vs : List V) (ds : List D) (Q : L2.St → Hp → Prop), OkS Γ.K s cs → EnvOk Γ s σ env → AtAll Γ.K Γ.fa s.Hs s.ca vs ds → ds.length = is.length →
  (∀ σ', EnvOk Γ s σ' (setAll is ds env) → Apart is σ σ' → Q σ' s.H) → g vs σ s.H Q
def SGs (Γ : Ctx) (es : List Expr) (is : List Nat) : Prop := ∃ g, (∀ X, Good Γ X → PGs X es g) ∧ SemGs Γ g is ∧ es.all (fun e => match e with | .Name .. => true | _ => false) = true
theorem sgs_nil : SGs Γ [] [] := ⟨gNil, fun X G => pgs_nil, fun σ s env cs vs ds Q ok eo a hl q => by
  have : ds = [] := by simpa using hl
  subst this
  cases a
  exact ⟨rfl, q σ eo ⟨rfl, fun _ _ => rfl⟩⟩, rfl⟩
theorem sgs_cons {i : Nat} {is : List Nat} {x : Str} {es : List Expr} (hN : Γ.N[i]? = some x) (hs : Γ.st x = true) (h : SGs Γ es is) : SGs Γ (.Name x pos :: es) (i :: is) := by
  obtain ⟨g, h1, h2, h3⟩ := h
  refine ⟨gCons (gName i) g, fun X G => ?_, fun σ s env cs vs ds Q ok eo a hl q => ?_, by rw [List.all_cons, h3]; rfl⟩
  · obtain ⟨k1, k2⟩ := G.sto x hs
    exact pgs_cons (pg_name G.nd (by rw [G.N]; exact hN) k1 k2) (h1 X G)
  · cases a with
    | nil => simp at hl
    | @cons v vs d ds a1 t =>
      refine ⟨_, _, rfl, ?_⟩
      refine h2 (σ.set i (some v)) s _ cs _ _ Q ok (eo.set i a1) t (by simpa using hl) fun σ' eo' ap => ?_
      refine q σ' eo' ⟨by rw [ap.1]; simp, fun j hj => ?_⟩
      rw [ap.2 j fun z => hj (List.mem_cons_of_mem _ z)]
      have : i ≠ j := fun e => hj (by simp [e])
      rw [List.getElem?_set_ne this]
theorem names_plain (env : PySem.Env) : ∀ {es : List Expr}, es.all (fun e => match e with | .Name .. => true | _ => false) = true → (assignEach es env).length = es.length ∧ (assignEach es env).findIdx? (·.1) = none
  | [], _ => ⟨rfl, rfl⟩
  | e :: es, h => by
    rw [List.all_cons, Bool.and_eq_true] at h
    obtain ⟨i1, i2⟩ := names_plain env (es := es) h.2
    cases e with
    | Name x p =>
      refine ⟨?_, ?_⟩
      · show (assignEach es env).length + 1 = es.length + 1
        rw [i1]
      · show List.findIdx? (·.1) ((false, _) :: assignEach es env) = none
        rw [List.findIdx?_cons]
        simp [i2]
    | _ => simp at h
theorem sg_tup {k : Nat} {es : List Expr} {is : List Nat} (hl : es.length = is.length) (h : SGs Γ es is) : SG Γ (.Tuple es k pos) (.tp is) := by
  obtain ⟨g, h1, h2, h3⟩ := h
  refine ⟨gTup Γ.K is.length g, fun X G => ?_, fun σ s env env' cs v d Q ok eo a hs q => ?_⟩
  · obtain ⟨n1, n2⟩ := names_plain X.env h3
    have := pg_tup (X := X) (k := k) (pos := pos) (n := is.length) G.calm (h1 X G) (by rw [n1, hl]) n2
    rw [G.K] at this
    exact this
  · cases d with
    | tuple ds =>
      have hs : (if ds.length = is.length then some (setAll is ds env) else none) = some env' := hs
      split at hs
      · rename_i e1
        cases hs
        obtain ⟨p, vs, rfl, q1, hz, a1⟩ := tup_of ok a
        exact ⟨p, vs, rfl, q1, by rw [a1.len, e1], h2 σ s env cs vs ds Q ok eo a1 e1 q⟩
      · cases hs
    | _ => cases hs
end
/-! ### what is walked -/
/-- what walkers need: what stands for ever stands -/
structure StepH (s s' : S3) : Prop where
  hs : Same s.Hs s'.Hs
  ca : ∃ l, s'.ca = s.ca ++ l
theorem Step.toH {s s' : S3} (h : Step s s') : StepH s s' := ⟨h.hs, h.ca⟩
theorem StepH.refl (s : S3) : StepH s s := ⟨Same.refl _, [], by simp⟩
theorem StepH.trans {a b c : S3} (h : StepH a b) (k : StepH b c) : StepH a c := by
  obtain ⟨l, e⟩ := h.ca
  obtain ⟨m, f⟩ := k.ca
  exact ⟨h.hs.trans k.hs, l ++ m, by rw [f, e, List.append_assoc]⟩
theorem At.stepH {Γ : Ctx} {s s' : S3} {v : V} {d : D} (h : At Γ.K Γ.fa s.Hs s.ca v d) (st : StepH s s') : At Γ.K Γ.fa s'.Hs s'.ca v d := h.mono st.hs (pre_of st.ca)
theorem AtAll.stepH {Γ : Ctx} {s s' : S3} {vs : List V} {ds : List D} (h : AtAll Γ.K Γ.fa s.Hs s.ca vs ds) (st : StepH s s') : AtAll Γ.K Γ.fa s'.Hs s'.ca vs ds := h.mono st.hs (pre_of st.ca)
def WalkOk (Γ : Ctx) (s : S3) (ds : List D) (J : It) : Prop := ∃ (G : Hp → Prop) (Y : Nat → Hp → V → Hp → Prop), Walk J ds.length G Y ∧ ds.length ≤ sizeLine ∧
  ∀ s1 cs1, StepH s s1 → OkS Γ.K s1 cs1 → G s1.H ∧ ∀ i x H', i < ds.length → Y i s1.H x H' → ∃ s2, s2.H = H' ∧ Step s1 s2 ∧ OkS Γ.K s2 cs1 ∧ ∃ d, ds[i]? = some d ∧ At Γ.K Γ.fa s2.Hs s2.ca x d
def SemI (Γ : Ctx) (wi : TI) (f : Env → M (List D)) : Prop := ∀ (σ : L2.St) (s : S3) (env : Env) (cs : CS) (R : It → Hp → Prop), OkS Γ.K s cs → EnvOk Γ s σ env →
  Sat (f env cs) (fun ds cs' => ∀ J s', Step s s' → OkS Γ.K s' cs' → WalkOk Γ s' ds J → R J s'.H) (BehX Γ s) → wi σ s.H R
def SI (Γ : Ctx) (tg it : Expr) (f : Env → M (List D)) : Prop := ∃ wi, (∀ X, Good Γ X → PI X tg it wi) ∧ SemI Γ wi f
section
variable {Γ : Ctx} {pos p : Pos} {tg a b c e : Expr} {es : List Expr} {f g : Env → M D} {fl : Env → M (List D)}
def strItems (z : Str) : List D := z.cps.toList.map fun c => .str ⟨#[c]⟩
/-- a list, a tuple, a text: its items -/
def litOf (d : D) : M (List D) := match d with
  | .list ds => ret ds
  | .tuple ds => ret ds
  | .str z => if z.length ≤ 16777216 then ret (strItems z) else stk
  | _ => stk
def iSeq (K : PySem.W.Frag) (tl : TE) : TI := fun σ H R => tl σ H fun x H1 => (∃ a, x = .ref a ∧ (∃ xs, SqL K H1 a xs) ∧ R (Itl K a) H1) ∨ (∃ a, x = .ref a ∧ (∃ xs, SqT K H1 a xs) ∧ R (Itt K a) H1) ∨ (∃ z, x = .str z ∧ R (Its z) H1)
theorem pi_seq {X : Cx} {l : Expr} {tl : TE} (hl : PE X l tl) : PI X tg l (iSeq X.K tl) := by
  refine ⟨fun pins s σ H R I h => ?_⟩
  refine thn (hl.run pins s σ H _ I h) fun v s1 ⟨x, H1, I1, r1, q1⟩ => ?_
  rcases q1 with ⟨a, e, ⟨xs, hq⟩, q⟩ | ⟨a, e, ⟨xs, hq⟩, q⟩ | ⟨z, e, q⟩
  · subst e
    cases r1
    obtain ⟨its, rv, p, hz⟩ := I1.list hq
    refine wpAny_pyIter_list p.isList ?_
    refine ⟨s1.heap.objs.size, [s1.heap.objs.size], _, _, H1, rfl, I1.kept (t' := s1.toks) fun b o e => Heap.get?_push_of_some _ e, turn_list a _, ⟨_, Heap.get?_push_size _ rfl, rfl, rfl⟩, fun b hb => ?_, q⟩
    have e : b = s1.heap.objs.size := by simpa using hb
    subst e
    exact I1.fpOk (Nat.le_refl _) (I1.hok.fresh (Nat.le_refl _))
  · subst e
    cases r1
    obtain ⟨its, rv, p, hz⟩ := I1.tuple hq
    refine wpAny_pyIter_tuple (show s1.heap.IsTuple a its.toArray from p) ?_
    refine ⟨s1.heap.objs.size, [s1.heap.objs.size], _, _, H1, rfl, I1.kept (t' := s1.toks) fun b o e => Heap.get?_push_of_some _ e, turn_tuple a _, ⟨_, Heap.get?_push_size _ rfl, rfl, rfl⟩, fun b hb => ?_, q⟩
    have e : b = s1.heap.objs.size := by simpa using hb
    subst e
    exact I1.fpOk (Nat.le_refl _) (I1.hok.fresh (Nat.le_refl _))
  · subst e
    obtain ⟨t, rfl⟩ := r1
    cases ha : z.cps.all (· < 128)
    · exact wpAny_pyIter_wide ha (pi_one (tk := s1.toks) I1 _ (turn_str _ z t "str_iterator" (.inr rfl)) ⟨_, Heap.get?_push_size _ rfl, rfl, rfl⟩ q)
    · exact wpAny_pyIter_ascii ha (pi_one (tk := s1.toks) I1 _ (turn_str _ z t "str_ascii_iterator" (.inl rfl)) ⟨_, Heap.get?_push_size _ rfl, rfl, rfl⟩ q)
def evSeq (f : Env → M D) : Env → M (List D) := fun env => mb (f env) litOf
theorem walk_l {s : S3} {p : Addr} {vs : List V} {ds : List D} (h1 : s.Hs p = some (.lst vs)) (hz : vs.length ≤ sizeLine) (a : AtAll Γ.K Γ.fa s.Hs s.ca vs ds) : WalkOk Γ s ds (Itl Γ.K p) := by
  refine ⟨_, _, (by rw [← a.len]; exact walk_list), by rw [← a.len]; exact hz, fun s1 cs1 st ok => ⟨SqL.of (ok.same _ _ (st.hs _ _ h1)), fun i x H' hi y => ?_⟩⟩
  obtain ⟨rfl, y⟩ := y
  obtain ⟨v, e1, a1⟩ := a.get (List.getElem?_eq_getElem hi)
  rw [y] at e1
  cases e1
  exact ⟨s1, rfl, Step.refl _, ok, _, List.getElem?_eq_getElem hi, a1.stepH st⟩
theorem walk_t {s : S3} {p : Addr} {vs : List V} {ds : List D} (h1 : SqT Γ.K s.Hs p vs) (hz : vs.length ≤ sizeLine) (a : AtAll Γ.K Γ.fa s.Hs s.ca vs ds) : WalkOk Γ s ds (Itt Γ.K p) := by
  refine ⟨_, _, (by rw [← a.len]; exact walk_tup), by rw [← a.len]; exact hz, fun s1 cs1 st ok => ⟨seqT ok.same (seqT st.hs h1), fun i x H' hi y => ?_⟩⟩
  obtain ⟨rfl, y⟩ := y
  obtain ⟨v, e1, a1⟩ := a.get (List.getElem?_eq_getElem hi)
  rw [y] at e1
  cases e1
  exact ⟨s1, rfl, Step.refl _, ok, _, List.getElem?_eq_getElem hi, a1.stepH st⟩
theorem si_seq (h : SE Γ e f) : SI Γ tg e (evSeq f) := by
  obtain ⟨t, h1, h2⟩ := h
  refine ⟨iSeq Γ.K t, fun X G => by rw [← G.K]; exact pi_seq (h1 X G), fun σ s env cs R ok eo h => ?_⟩
  refine h2 σ s env cs _ ok eo ?_
  have h := sat_bind.mp h
  refine h.imp (fun d cs1 h => ?_) fun _ _ z => z
  intro v s1 st1 ok1 a1
  unfold litOf at h
  split at h
  · cases a1 with
    | lst q1 hz q2 => exact .inl ⟨_, rfl, ⟨_, SqL.of (ok1.same _ _ q1)⟩, h _ s1 st1 ok1 (walk_l q1 hz q2)⟩
  · cases a1 with
    | tup q1 hz q2 => exact .inr (.inl ⟨_, rfl, ⟨_, seqT ok1.same q1⟩, h _ s1 st1 ok1 (walk_t q1 hz q2)⟩)
  · split at h
    · rename_i z hz
      cases a1
      refine .inr (.inr ⟨z, rfl, h _ s1 st1 ok1 ?_⟩)
      have hl : (strItems z).length = z.cps.size := by unfold strItems; rw [List.length_map, Array.length_toList]
      refine ⟨_, _, (by rw [hl]; exact walk_str), by rw [hl, line_eq]; exact hz, fun s2 cs2 st ok => ⟨trivial, fun i x H' hi y => ?_⟩⟩
      obtain ⟨rfl, c, e1, rfl⟩ := y
      refine ⟨s2, rfl, Step.refl _, ok, _, ?_, .str _⟩
      unfold strItems
      rw [List.getElem?_map, Array.getElem?_toList, e1]
      rfl
    · exact h.elim
  · exact h.elim
/-! range -/
def rangeL (lo : Int) (n : Nat) : List D := (List.range n).map fun i => .int (lo + (i : Nat))
theorem rangeL_len (lo : Int) (n : Nat) : (rangeL lo n).length = n := by unfold rangeL; rw [List.length_map, List.length_range]
theorem walk_r {s : S3} {lo : Int} {n : Nat} (hn : n ≤ 16777216) : WalkOk Γ s (rangeL lo n) (Itr lo n) := by
  refine ⟨_, _, (by rw [rangeL_len]; exact walk_range), by rw [rangeL_len, line_eq]; exact hn, fun s1 cs1 st ok => ⟨trivial, fun i x H' hi y => ?_⟩⟩
  obtain ⟨rfl, rfl⟩ := y
  refine ⟨s1, rfl, Step.refl _, ok, _, ?_, .int _⟩
  rw [rangeL_len] at hi
  unfold rangeL
  rw [List.getElem?_map, List.getElem?_range hi]
  rfl
/-- lo, lo + c, .. -/
def rangeC (lo c : Int) (n : Nat) : List D := (List.range n).map fun i => .int (lo + (i : Nat) * c)
theorem rangeC_len (lo c : Int) (n : Nat) : (rangeC lo c n).length = n := by unfold rangeC; rw [List.length_map, List.length_range]
theorem walk_rc {s : S3} {lo c : Int} {n : Nat} (hn : n ≤ 16777216) : WalkOk Γ s (rangeC lo c n) (Itc lo c n) := by
  refine ⟨_, _, (by rw [rangeC_len]; exact walk_rangeC), by rw [rangeC_len, line_eq]; exact hn, fun s1 cs1 st ok => ⟨trivial, fun i x H' hi y => ?_⟩⟩
  obtain ⟨rfl, rfl⟩ := y
  refine ⟨s1, rfl, Step.refl _, ok, _, ?_, .int _⟩
  rw [rangeC_len] at hi
  unfold rangeC
  rw [List.getElem?_map, List.getElem?_range hi]
  rfl
def range1D (ds : List D) : M (List D) := match ds with
  | [.int j] => if -1000000 ≤ j ∧ j ≤ 1000000 then ret (rangeL 0 j.toNat) else stk
  | _ => stk
def range2D (ds : List D) : M (List D) := match ds with
  | [.int i, .int j] => if (-1000000 ≤ i ∧ i ≤ 1000000) ∧ -1000000 ≤ j ∧ j ≤ 1000000 then ret (rangeL i (j - i).toNat) else stk
  | _ => stk
/-- how many: up or down by c -/
def range3N (i j c : Int) : Nat := if 0 < c then ((j - i + c - 1) / c).toNat else ((i - j + (-c) - 1) / (-c)).toNat
def range3D (ds : List D) : M (List D) := match ds with
  | [.int i, .int j, .int c] => if ((-1000000 ≤ i ∧ i ≤ 1000000) ∧ -1000000 ≤ j ∧ j ≤ 1000000) ∧ c = -1 then ret (rangeC i (-1) (i - j).toNat) else stk
  | _ => stk
def evRng (k : List D → M (List D)) (fl : Env → M (List D)) : Env → M (List D) := fun env => mb (fl env) k
theorem si_range1 (hg : Γ.sc.names.lookup ("range" : Str) = some .globalImplicit) (hm : Γ.mg ("range" : Str) = none) (hn : noStar a = true) (ha : SA Γ [a] fl) : SI Γ tg (.Call (.Name "range" p) [a] [] pos) (evRng range1D fl) := by
  obtain ⟨t, h1, h2⟩ := ha
  refine ⟨iRng1 t, fun X G => pi_range1 (by show X.env.scope.names.lookup _ = _; rw [G.sc]; exact hg) (by rw [G.mg]; exact hm) (h1 X G) (star_of hn), fun σ s env cs R ok eo h => ?_⟩
  refine h2 σ s env cs _ ok eo ?_
  have h := sat_bind.mp h
  refine h.imp (fun ds cs1 h => ?_) fun _ _ z => z
  intro vs s1 st1 ok1 a1
  unfold range1D at h
  split at h
  · split at h
    · rename_i j hz
      cases a1 with
      | cons a1 t =>
        cases a1; cases t
        exact ⟨j, rfl, by omega, by omega, h _ s1 st1 ok1 (walk_r (by omega))⟩
    · exact h.elim
  · exact h.elim
theorem si_range2 (hg : Γ.sc.names.lookup ("range" : Str) = some .globalImplicit) (hm : Γ.mg ("range" : Str) = none) (hn : noStar a = true) (hn2 : noStar b = true) (ha : SA Γ [a, b] fl) : SI Γ tg (.Call (.Name "range" p) [a, b] [] pos) (evRng range2D fl) := by
  obtain ⟨t, h1, h2⟩ := ha
  refine ⟨iRng2 t, fun X G => pi_range2 (by show X.env.scope.names.lookup _ = _; rw [G.sc]; exact hg) (by rw [G.mg]; exact hm) (h1 X G) (by rw [star_of hn, star_of hn2]; rfl) (star_of hn2), fun σ s env cs R ok eo h => ?_⟩
  refine h2 σ s env cs _ ok eo ?_
  have h := sat_bind.mp h
  refine h.imp (fun ds cs1 h => ?_) fun _ _ z => z
  intro vs s1 st1 ok1 a1
  unfold range2D at h
  split at h
  · split at h
    · rename_i i j hz
      cases a1 with
      | cons a1 t =>
        cases t with
        | cons a2 t =>
          cases a1; cases a2; cases t
          exact ⟨i, j, rfl, by omega, h _ s1 st1 ok1 (walk_r (by omega))⟩
    · exact h.elim
  · exact h.elim
theorem si_range3 (hg : Γ.sc.names.lookup ("range" : Str) = some .globalImplicit) (hm : Γ.mg ("range" : Str) = none) (hn : noStar a = true) (hs : [b, c].all noStar = true) (ha : SA Γ [a, b, c] fl) : SI Γ tg (.Call (.Name "range" p) [a, b, c] [] pos) (evRng range3D fl) := by
  obtain ⟨t, h1, h2⟩ := ha
  refine ⟨iRng3 t, fun X G => pi_range3 (by show X.env.scope.names.lookup _ = _; rw [G.sc]; exact hg) (by rw [G.mg]; exact hm) (h1 X G) (star_of hn) (no_splice pos hs), fun σ s env cs R ok eo h => ?_⟩
  refine h2 σ s env cs _ ok eo ?_
  have h := sat_bind.mp h
  refine h.imp (fun ds cs1 h => ?_) fun _ _ z => z
  intro vs s1 st1 ok1 a1
  unfold range3D at h
  split at h
  · split at h
    · rename_i i j c hz
      obtain ⟨hz, rfl⟩ := hz
      cases a1 with
      | cons a1 t =>
        cases t with
        | cons a2 t =>
          cases t with
          | cons a3 t =>
            cases a1; cases a2; cases a3; cases t
            exact ⟨i, j, -1, _, rfl, RgC.neg (by omega) (by omega) (by omega) (by omega), h _ s1 st1 ok1 (walk_rc (by omega))⟩
    · exact h.elim
  · exact h.elim
/-! zip of two lists, of two tuples; enumerate of a list -/
def pairsL (xs ys : List D) : List D := (xs.zip ys).map fun p => .tuple [p.1, p.2]
def zipD (ds : List D) : M (List D) := match ds with
  | [.list xs, .list ys] => ret (pairsL xs ys)
  | [.tuple xs, .tuple ys] => ret (pairsL xs ys)
  | _ => stk
def enumL (xs : List D) : List D := (xs.zipIdx).map fun p => .tuple [.int (p.2 : Nat), p.1]
def enumD (ds : List D) : M (List D) := match ds with
  | [.list xs] => ret (enumL xs)
  | _ => stk
theorem pair_step {s s1 : S3} {cs1 : CS} {T : Addr} {x y : V} {d e : D} (st : StepH s s1) (ok : OkS Γ.K s1 cs1) (hT : s1.H T = none) (ax : At Γ.K Γ.fa s1.Hs s1.ca x d) (ay : At Γ.K Γ.fa s1.Hs s1.ca y e) :
    ∃ s2, s2.H = upd s1.H T (.tup [x, y]) ∧ Step s1 s2 ∧ OkS Γ.K s2 cs1 ∧ At Γ.K Γ.fa s2.Hs s2.ca (.ref T) (.tuple [d, e]) := by
  obtain ⟨q1, q2, q3⟩ := new_tup (vs := [x, y]) ok hT (by rw [line_eq]; show 2 ≤ 16777216; decide) (.cons ax (.cons ay .nil))
  exact ⟨_, rfl, q1, q2, q3⟩
theorem walk_zipT {K : PySem.W.Frag} {a b : Addr} {xs ys : List V} {n : Nat} (hn : n = min xs.length ys.length) : Walk (RZ.ItzT K a b) n (fun H => SqT K H a xs ∧ SqT K H b ys) (YPair (fun i => xs[i]?) (fun i => ys[i]?)) := by
  subst hn
  refine ⟨fun i _ hi q => ?_, fun _ q => ⟨xs, ys, q.1, q.2, by omega⟩, fun i H v H' _ q y => ?_⟩
  · have h1 : i < xs.length := by omega
    have h2 : i < ys.length := by omega
    exact ⟨xs, ys, xs[i], ys[i], q.1, q.2, by simp [h1], by simp [h2]⟩
  · obtain ⟨T, x, z, h1, h2, h3, h4, h5⟩ := y
    exact ⟨T, x, z, h1, h2, h3, h4 xs q.1, h5 ys q.2⟩
theorem pairs_get {xs ys : List D} {i : Nat} {d e : D} (h1 : xs[i]? = some d) (h2 : ys[i]? = some e) : (pairsL xs ys)[i]? = some (.tuple [d, e]) := by
  unfold pairsL
  rw [List.getElem?_map]
  have : (xs.zip ys)[i]? = some (d, e) := List.getElem?_zip_eq_some.mpr ⟨h1, h2⟩
  rw [this]
  rfl
theorem pairs_len (xs ys : List D) : (pairsL xs ys).length = min xs.length ys.length := by unfold pairsL; rw [List.length_map, List.length_zip]
theorem walk_pairs {s : S3} {J : It} {G : Hp → Prop} {us vs : List V} {xs ys : List D} (w : Walk J (min us.length vs.length) G (YPair (fun i => us[i]?) (fun i => vs[i]?))) (hz : us.length ≤ sizeLine) (hG : ∀ s1 cs1, StepH s s1 → OkS Γ.K s1 cs1 → G s1.H)
    (a : AtAll Γ.K Γ.fa s.Hs s.ca us xs) (b : AtAll Γ.K Γ.fa s.Hs s.ca vs ys) : WalkOk Γ s (pairsL xs ys) J := by
  have hl : (pairsL xs ys).length = min us.length vs.length := by rw [pairs_len, a.len, b.len]
  refine ⟨G, _, (by rw [hl]; exact w), by rw [hl]; omega, fun s1 cs1 st ok => ⟨hG s1 cs1 st ok, fun i x H' hi y => ?_⟩⟩
  obtain ⟨T, u, v, rfl, hT, rfl, e1, e2⟩ := y
  rw [pairs_len] at hi
  have h1 : i < xs.length := by omega
  have h2 : i < ys.length := by omega
  have au := (a.at e1 (List.getElem?_eq_getElem h1)).stepH st
  have av := (b.at e2 (List.getElem?_eq_getElem h2)).stepH st
  obtain ⟨s2, q0, q1, q2, q3⟩ := pair_step st ok hT au av
  exact ⟨s2, q0, q1, q2, _, pairs_get (List.getElem?_eq_getElem h1) (List.getElem?_eq_getElem h2), q3⟩
theorem si_zip {elts : List Expr} {k : Nat} {tpos : Pos} (hg : Γ.sc.names.lookup ("zip" : Str) = some .globalImplicit) (hm : Γ.mg ("zip" : Str) = none) (hn : noStar a = true) (hn2 : noStar b = true) (ha : SA Γ [a, b] fl) :
    SI Γ (.Tuple elts k tpos) (.Call (.Name "zip" p) [a, b] [] pos) (evRng zipD fl) := by
  obtain ⟨t, h1, h2⟩ := ha
  refine ⟨RZ.iZipA Γ.K t, fun X G => ?_, fun σ s env cs R ok eo h => ?_⟩
  · rw [← G.K]
    exact RZ.pi_zipA (by show X.env.scope.names.lookup _ = _; rw [G.sc]; exact hg) (by rw [G.mg]; exact hm) (h1 X G) (star_of hn) (no_splice pos (by rw [List.all_cons, hn2]; rfl))
  refine h2 σ s env cs _ ok eo ?_
  have h := sat_bind.mp h
  refine h.imp (fun ds cs1 h => ?_) fun _ _ z => z
  intro vs s1 st1 ok1 a1
  unfold zipD at h
  split at h
  · cases a1 with
    | cons a1 t =>
      cases t with
      | cons a2 t =>
        cases t
        cases a1 with
        | lst q1 z1 q2 =>
          cases a2 with
          | lst p1 z2 p2 =>
            refine ⟨_, _, _, _, rfl, .inl ⟨SqL.of (ok1.same _ _ q1), SqL.of (ok1.same _ _ p1), h _ s1 st1 ok1 (walk_pairs (walk_zip rfl) z1 (fun s2 cs2 st ok => ⟨SqL.of (ok.same _ _ (st.hs _ _ q1)), SqL.of (ok.same _ _ (st.hs _ _ p1))⟩) q2 p2)⟩⟩
  · cases a1 with
    | cons a1 t =>
      cases t with
      | cons a2 t =>
        cases t
        cases a1 with
        | tup q1 z1 q2 =>
          cases a2 with
          | tup p1 z2 p2 =>
            refine ⟨_, _, _, _, rfl, .inr ⟨seqT ok1.same q1, seqT ok1.same p1, h _ s1 st1 ok1 (walk_pairs (walk_zipT rfl) z1 (fun s2 cs2 st ok => ⟨seqT ok.same (seqT st.hs q1), seqT ok.same (seqT st.hs p1)⟩) q2 p2)⟩⟩
  · exact h.elim
theorem enumL_len (xs : List D) : (enumL xs).length = xs.length := by unfold enumL; rw [List.length_map, List.length_zipIdx]
theorem enumL_get {xs : List D} {i : Nat} {d : D} (h : xs[i]? = some d) : (enumL xs)[i]? = some (.tuple [.int (i : Nat), d]) := by
  unfold enumL
  rw [List.getElem?_map, List.getElem?_zipIdx, h]
  simp
theorem si_enum {elts : List Expr} {k : Nat} {tpos : Pos} (hg : Γ.sc.names.lookup ("enumerate" : Str) = some .globalImplicit) (hm : Γ.mg ("enumerate" : Str) = none) (hn : noStar a = true) (ha : SA Γ [a] fl) :
    SI Γ (.Tuple elts k tpos) (.Call (.Name "enumerate" p) [a] [] pos) (evRng enumD fl) := by
  obtain ⟨t, h1, h2⟩ := ha
  refine ⟨iEnum Γ.K t, fun X G => ?_, fun σ s env cs R ok eo h => ?_⟩
  · rw [← G.K]
    exact pi_enum (by show X.env.scope.names.lookup _ = _; rw [G.sc]; exact hg) (by rw [G.mg]; exact hm) (h1 X G) (star_of hn)
  refine h2 σ s env cs _ ok eo ?_
  have h := sat_bind.mp h
  refine h.imp (fun ds cs1 h => ?_) fun _ _ z => z
  intro vs s1 st1 ok1 a1
  unfold enumD at h
  split at h
  · rename_i xs
    cases a1 with
    | cons a1 t =>
      cases t
      cases a1 with
      | lst q1 z1 q2 =>
        refine ⟨_, _, rfl, SqL.of (ok1.same _ _ q1), h _ s1 st1 ok1 ?_⟩
        have hl := enumL_len xs
        refine ⟨_, _, (by rw [hl, ← q2.len]; exact walk_enum), by rw [hl, ← q2.len]; exact z1, fun s2 cs2 st ok => ⟨SqL.of (ok.same _ _ (st.hs _ _ q1)), fun i x H' hi y => ?_⟩⟩
        obtain ⟨T, u, v, rfl, hT, rfl, e1, e2⟩ := y
        cases e1
        rw [hl] at hi
        have av := (q2.at e2 (List.getElem?_eq_getElem hi)).stepH st
        obtain ⟨s3, p0, p1, p2, p3⟩ := pair_step st ok hT (.int (i : Nat)) av
        exact ⟨s3, p0, p1, p2, _, enumL_get (List.getElem?_eq_getElem hi), p3⟩
  · exact h.elim
end
end KH

/-! KH: new lists, comprehensions. -/
namespace KH
open PySem PySem.Spec PyProof.Rows L2
/-! ### a new list, neither frozen nor a cell so far -/
structure Raw (Γ : Ctx) (s s' : S3) (p : Addr) (vs : List V) (ds : List D) : Prop where
  at_ : s'.H p = some (.lst vs)
  hs : s'.Hs p = none
  ca : p ∉ s'.ca
  new : s.H p = none
  len : vs.length ≤ sizeLine
  all : AtAll Γ.K Γ.fa s'.Hs s'.ca vs ds
def BehF (Γ : Ctx) (s : S3) (Q : VK) (ds : List D) (cs' : CS) : Prop := ∀ p vs s', Step s s' → OkS Γ.K s' cs' → Raw Γ s s' p vs ds → Q (.ref p) s'.H
def SemF (Γ : Ctx) (t : TE) (f : Env → M (List D)) : Prop := ∀ (σ : L2.St) (s : S3) (env : Env) (cs : CS) (Q : VK), OkS Γ.K s cs → EnvOk Γ s σ env → Sat (f env cs) (BehF Γ s Q) (BehX Γ s) → t σ s.H Q
def SF (Γ : Ctx) (e : Expr) (f : Env → M (List D)) : Prop := ∃ t, (∀ X, Good Γ X → PE X e t) ∧ SemF Γ t f
def evVal (f : Env → M (List D)) : Env → M D := fun env => mb (f env) fun ds => ret (.list ds)
def newCell (ds : List D) : M D := fun cs => if PyData.canLayAll0 ds = true then .ok (cellD cs.length) (cs ++ [some ds]) else .stuck
def evCel (f : Env → M (List D)) : Env → M D := fun env => mb (f env) newCell
section
variable {Γ : Ctx} {s s' : S3} {cs cs' : CS} {p : Addr} {vs : List V} {ds : List D}
theorem Raw.freeze (r : Raw Γ s s' p vs ds) (st : Step s s') (ok : OkS Γ.K s' cs') : Step s ⟨s'.H, upd s'.Hs p (.lst vs), s'.ca⟩ ∧ OkS Γ.K ⟨s'.H, upd s'.Hs p (.lst vs), s'.ca⟩ cs' ∧ At Γ.K Γ.fa (upd s'.Hs p (.lst vs)) s'.ca (.ref p) (.list ds) := by
  have hs : Same s'.Hs (upd s'.Hs p (.lst vs)) := fun b u e => by
    have hb : b ≠ p := fun z => by rw [z, r.hs] at e; cases e
    rw [upd_ne hb]; exact e
  refine ⟨⟨st.hs.trans hs, st.ca, st.keep, fun b o hb e n => ?_, st.newC⟩, ⟨fun b u e => ?_, ok.len, ok.nd, ok.live, fun n a xs h1 h2 => ?_⟩, .lst upd_same r.len (r.all.mono hs fun _ _ z => z)⟩
  · have hbp : b ≠ p := fun z => by rw [z, r.new] at e; cases e
    show upd s'.Hs p (.lst vs) b = none
    rw [upd_ne hbp]; exact st.newS b o hb e n
  · have e : upd s'.Hs p (.lst vs) b = some u := e
    by_cases hb : b = p
    · subst hb
      rw [upd_same] at e; cases e
      exact r.at_
    · rw [upd_ne hb] at e; exact ok.same b u e
  · obtain ⟨h3, ws, h4, hz, h5⟩ := ok.cel n a xs h1 h2
    have na : a ≠ p := fun z => r.ca (z ▸ List.mem_of_getElem? h1)
    exact ⟨by show upd s'.Hs p (.lst vs) a = none; rw [upd_ne na]; exact h3, ws, h4, hz, h5.mono hs fun _ _ z => z⟩
theorem Raw.cell (r : Raw Γ s s' p vs ds) (st : Step s s') (ok : OkS Γ.K s' cs') (hc : PyData.canLayAll0 ds = true) : Step s ⟨s'.H, s'.Hs, s'.ca ++ [p]⟩ ∧ OkS Γ.K ⟨s'.H, s'.Hs, s'.ca ++ [p]⟩ (cs' ++ [some ds]) ∧ At Γ.K Γ.fa s'.Hs (s'.ca ++ [p]) (.ref p) (cellD cs'.length) := by
  refine ⟨⟨st.hs, ?_, st.keep, st.newS, fun b hb => ?_⟩, ⟨ok.same, by rw [List.length_append, List.length_append, ok.len]; rfl, ?_, fun a ha => ?_, fun n a xs h1 h2 => ?_⟩, .cell ?_⟩
  · obtain ⟨l, e⟩ := st.ca
    exact ⟨l ++ [p], by rw [e, List.append_assoc]⟩
  · rcases List.mem_append.mp hb with hb | hb
    · exact st.newC b hb
    · rw [List.mem_singleton.mp hb]
      exact .inr r.new
  · refine List.nodup_append.mpr ⟨ok.nd, by simp, fun a ha b hb e => ?_⟩
    rw [List.mem_singleton.mp hb] at e
    exact r.ca (e ▸ ha)
  · rcases List.mem_append.mp ha with ha | ha
    · exact ok.live a ha
    · rw [List.mem_singleton.mp ha]
      exact ⟨_, r.at_⟩
  · have h1 : (s'.ca ++ [p])[n]? = some a := h1
    by_cases hn : n < s'.ca.length
    · rw [List.getElem?_append_left hn] at h1
      rw [List.getElem?_append_left (by rw [← ok.len]; exact hn)] at h2
      exact ok.cel n a xs h1 h2
    · have hl : n < (s'.ca ++ [p]).length := (List.getElem?_eq_some_iff.mp h1).1
      rw [List.length_append] at hl
      have hn' : n = s'.ca.length := by simp at hl; omega
      subst hn'
      rw [List.getElem?_append_right (Nat.le_refl _), Nat.sub_self] at h1
      cases h1
      rw [List.getElem?_append_right (by rw [ok.len]; exact Nat.le_refl _), ok.len, Nat.sub_self] at h2
      cases h2
      exact ⟨r.hs, vs, r.at_, r.len, AtAll.plain hc r.all⟩
  · rw [List.getElem?_append_right (by rw [ok.len]; exact Nat.le_refl _), ok.len, Nat.sub_self]
    rfl
end
section
variable {Γ : Ctx} {pos : Pos} {e : Expr} {es : List Expr} {f : Env → M (List D)} {fl : Env → M (List D)}
theorem se_val (h : SF Γ e f) : SE Γ e (evVal f) := by
  obtain ⟨t, h1, h2⟩ := h
  refine ⟨t, h1, fun σ s env cs Q ok eo h => ?_⟩
  refine h2 σ s env cs _ ok eo ?_
  have h := sat_bind.mp h
  refine h.imp (fun ds cs1 h => ?_) fun _ _ z => z
  intro p vs s1 st ok1 r
  obtain ⟨q1, q2, q3⟩ := r.freeze st ok1
  exact h (.ref p) ⟨s1.H, upd s1.Hs p (.lst vs), s1.ca⟩ q1 q2 q3
theorem se_cel (h : SF Γ e f) : SE Γ e (evCel f) := by
  obtain ⟨t, h1, h2⟩ := h
  refine ⟨t, h1, fun σ s env cs Q ok eo h => ?_⟩
  refine h2 σ s env cs _ ok eo ?_
  have h := sat_bind.mp h
  refine h.imp (fun ds cs1 h => ?_) fun _ _ z => z
  intro p vs s1 st ok1 r
  unfold newCell at h
  split at h
  · rename_i hc
    obtain ⟨q1, q2, q3⟩ := r.cell st ok1 hc
    exact h (.ref p) ⟨s1.H, s1.Hs, s1.ca ++ [p]⟩ q1 q2 q3
  · exact h.elim
/-- a new list laid by a rule -/
theorem raw_new {s s1 : S3} {cs1 : CS} {p : Addr} {vs : List V} {ds : List D} (st : Step s s1) (ok : OkS Γ.K s1 cs1) (hp : s1.H p = none) (hz : vs.length ≤ sizeLine) (a : AtAll Γ.K Γ.fa s1.Hs s1.ca vs ds) :
    Step s ⟨upd s1.H p (.lst vs), s1.Hs, s1.ca⟩ ∧ OkS Γ.K ⟨upd s1.H p (.lst vs), s1.Hs, s1.ca⟩ cs1 ∧ Raw Γ s ⟨upd s1.H p (.lst vs), s1.Hs, s1.ca⟩ p vs ds := by
  have hsp : s1.Hs p = none := by
    cases e : s1.Hs p with
    | none => rfl
    | some o => rw [ok.same p o e] at hp; cases hp
  have hcp : p ∉ s1.ca := fun z => by obtain ⟨o, e⟩ := ok.live p z; rw [hp] at e; cases e
  have h0 : s.H p = none ∨ p ∈ s.ca := by
    by_cases hc : p ∈ s.ca
    · exact .inr hc
    · cases e : s.H p with
      | none => exact .inl rfl
      | some o => rw [st.keep p o hc e] at hp; cases hp
  have hnew : s.H p = none := by
    rcases h0 with h0 | h0
    · exact h0
    · obtain ⟨l, e⟩ := st.ca
      exact absurd (by rw [e]; exact List.mem_append_left _ h0) hcp
  have np : ∀ b o, s1.H b = some o → b ≠ p := fun b o e z => by rw [z, hp] at e; cases e
  refine ⟨⟨st.hs, st.ca, fun b o hb e => ?_, st.newS, st.newC⟩, ⟨fun b u e => ?_, ok.len, ok.nd, fun a ha => ?_, fun n a xs h1 h2 => ?_⟩, ⟨upd_same, hsp, hcp, hnew, hz, a⟩⟩
  · have := st.keep b o hb e
    show upd s1.H p (.lst vs) b = some o
    rw [upd_ne (np b o this)]; exact this
  · have := ok.same b u e
    show upd s1.H p (.lst vs) b = some u
    rw [upd_ne (np b u this)]; exact this
  · obtain ⟨o, e⟩ := ok.live a ha
    exact ⟨o, by show upd s1.H p (.lst vs) a = some o; rw [upd_ne (np a o e)]; exact e⟩
  · obtain ⟨h3, ws, h4, hz', h5⟩ := ok.cel n a xs h1 h2
    exact ⟨h3, ws, by show upd s1.H p (.lst vs) a = _; rw [upd_ne (np a _ h4)]; exact h4, hz', h5⟩
theorem sf_disp (h : SA Γ es fl) : SF Γ (.List es pos) (fun env => mb (fl env) fun xs => if xs.length ≤ 16777216 then ret xs else stk) := by
  obtain ⟨t, h1, h2⟩ := h
  refine ⟨tLst t, fun X G => pe_lst (h1 X G), fun σ s env cs Q ok eo h => ?_⟩
  refine h2 σ s env cs _ ok eo ?_
  have h := sat_bind.mp h
  refine h.imp (fun ds cs1 h => ?_) fun _ _ z => z
  intro vs s1 st1 ok1 a1
  by_cases hz : ds.length ≤ 16777216
  · rw [if_pos hz] at h
    have hz' : vs.length ≤ sizeLine := by rw [a1.len, line_eq]; exact hz
    refine ⟨hz', fun p hp => ?_⟩
    obtain ⟨q1, q2, q3⟩ := raw_new st1 ok1 hp hz' a1
    exact h p vs _ q1 q2 q3
  · rw [if_neg hz] at h; exact h.elim
end
/-! ### comprehensions -/
def wipeE (env : Env) : List Nat → Env
  | [] => env
  | v :: vs => (wipeE env vs).set v none
/-- the items kept, one by one -/
def compL (vs : List Nat) (tg : Tg) (cond : Option (Env → M D)) (elt : Env → M D) (env : Env) : List D → M (List D)
  | [] => ret []
  | d :: ds => match setTg tg d (wipeE env vs) with
    | none => stk
    | some e1 => match cond with
      | none => mb (nox (elt e1)) fun y => mb (compL vs tg cond elt env ds) fun ys => ret (y :: ys)
      | some c => mb (nox (c e1)) fun b => match b with
        | .bool true => mb (nox (elt e1)) fun y => mb (compL vs tg cond elt env ds) fun ys => ret (y :: ys)
        | .bool false => compL vs tg cond elt env ds
        | _ => stk
def evComp (vs : List Nat) (tg : Tg) (it : Env → M (List D)) (cond : Option (Env → M D)) (elt : Env → M D) : Env → M (List D) := fun env => mb (it env) (compL vs tg cond elt env)
/-- the block's context -/
def Ctx.blk (Γ : Ctx) (scope : Scope) : Ctx := { Γ with sc := relS scope Γ.sc, st := fun x => (scope.names.lookup x == some .local) || (scope.names.lookup x == some .cell), E := fun _ _ _ => False }
theorem good_blk {Γ : Ctx} {X : Cx} (G : Good Γ X) {scope : Scope} {s : Shared} {H : Hp} {C : Addr} {cl : List (Str × Addr)} {fp : List Addr} : Good (Γ.blk scope) (X.blk s H scope (compEnvC scope cl C X.env) fp) where
  prog := G.prog
  w := G.w
  K := G.K
  mg := G.mg
  base := G.base
  N := G.N
  sc := by show relS scope X.env.scope = relS scope Γ.sc; rw [G.sc]
  calm := G.calm
  room := G.room
  nd := G.nd
  takes := takes0
  sto := fun x hx => by
    have hx : ((scope.names.lookup x == some .local) || (scope.names.lookup x == some .cell)) = true := hx
    rw [Bool.or_eq_true] at hx
    rcases hx with hx | hx
    · have h1 : scope.names.lookup x = some .local := eq_of_beq hx
      have h2 : (relS scope X.env.scope).names.lookup x = some .local := lookup_relS_keep (by decide) h1
      exact ⟨.inl h2, .inr h2⟩
    · have h1 : scope.names.lookup x = some .cell := eq_of_beq hx
      have h2 : (relS scope X.env.scope).names.lookup x = some .cell := lookup_relS_keep (by decide) h1
      exact ⟨.inr h2, .inl hx⟩
section
variable {Γ : Ctx}
theorem EnvOk.wipe {s : S3} {σ : L2.St} {env : Env} (h : EnvOk Γ s σ env) : ∀ vs : List Nat, EnvOk Γ s (L2.wipe σ vs) (wipeE env vs)
  | [] => h
  | v :: vs => by unfold L2.wipe wipeE; exact (h.wipe vs).unset v
theorem EnvOk.blk {s : S3} {σ : L2.St} {env : Env} {scope : Scope} (h : EnvOk Γ s σ env) : EnvOk (Γ.blk scope) s σ env := ⟨h.len, h.at_⟩
theorem wipe_at {σ : L2.St} : ∀ {vs : List Nat} {j : Nat}, (L2.wipe σ vs)[j]? = if j ∈ vs then (if j < σ.length then some none else none) else σ[j]?
  | [], j => by simp [L2.wipe]
  | v :: vs, j => by
    unfold L2.wipe
    rw [List.getElem?_set, wipe_length, wipe_at (vs := vs)]
    by_cases hv : v = j
    · subst hv
      simp
    · have : j ≠ v := fun e => hv e.symm
      simp [hv, this]
theorem wipe_same {σ σ' : L2.St} {ss vs : List Nat} (h : Apart ss σ σ') (hs : ∀ i ∈ ss, i ∈ vs) : L2.wipe σ' vs = L2.wipe σ vs := by
  refine List.ext_getElem? fun j => ?_
  rw [wipe_at, wipe_at, h.1]
  by_cases hj : j ∈ vs
  · rw [if_pos hj, if_pos hj]
  · rw [if_neg hj, if_neg hj]
    exact h.2 j fun z => hj (hs j z)
theorem wipe_wipe {σ : L2.St} {vs : List Nat} : L2.wipe (L2.wipe σ vs) vs = L2.wipe σ vs := by
  refine List.ext_getElem? fun j => ?_
  rw [wipe_at, wipe_length, wipe_at]
  by_cases hj : j ∈ vs
  · simp [hj]
  · simp [hj]
/-- the list that is being made, at its place -/
structure Made (Γ : Ctx) (s0 s1 : S3) (cs1 : CS) (p : Addr) (acc : List V) (ds : List D) : Prop where
  st : Step s0 s1
  ok : OkS Γ.K s1 cs1
  at_ : s1.H p = some (.lst acc)
  hs : s1.Hs p = none
  ca : p ∉ s1.ca
  new : s0.H p = none
  all : AtAll Γ.K Γ.fa s1.Hs s1.ca acc ds
theorem Made.next {s0 s1 s2 : S3} {cs1 cs2 : CS} {p : Addr} {acc : List V} {ds : List D} (m : Made Γ s0 s1 cs1 p acc ds) (st : Step s1 s2) (ok : OkS Γ.K s2 cs2) : Made Γ s0 s2 cs2 p acc ds := by
  refine ⟨m.st.trans st, ok, st.keep p _ m.ca m.at_, st.newS p _ m.ca m.at_ m.hs, fun z => ?_, m.new, m.all.step st⟩
  rcases st.newC p z with q | q
  · exact m.ca q
  · rw [m.at_] at q; cases q
theorem Made.put {s0 s1 : S3} {cs1 : CS} {p : Addr} {acc : List V} {ds : List D} {y : V} {d : D} (m : Made Γ s0 s1 cs1 p acc ds) (a : At Γ.K Γ.fa s1.Hs s1.ca y d) :
    Made Γ s0 ⟨upd s1.H p (.lst (acc ++ [y])), s1.Hs, s1.ca⟩ cs1 p (acc ++ [y]) (ds ++ [d]) := by
  have np : ∀ b ∈ s1.ca, b ≠ p := fun b hb z => m.ca (z ▸ hb)
  refine ⟨⟨m.st.hs, m.st.ca, fun b o hb e => ?_, m.st.newS, m.st.newC⟩, ⟨fun b u e => ?_, m.ok.len, m.ok.nd, fun a ha => ?_, fun n a xs h1 h2 => ?_⟩, upd_same, m.hs, m.ca, m.new, m.all.append (.cons a .nil)⟩
  · have hb' : b ≠ p := fun z => by rw [z, m.new] at e; cases e
    show upd s1.H p _ b = some o
    rw [upd_ne hb']; exact m.st.keep b o hb e
  · have hb' : b ≠ p := fun z => by rw [z, m.hs] at e; cases e
    show upd s1.H p _ b = some u
    rw [upd_ne hb']; exact m.ok.same b u e
  · obtain ⟨o, e⟩ := m.ok.live a ha
    exact ⟨o, by show upd s1.H p _ a = some o; rw [upd_ne (np a ha)]; exact e⟩
  · obtain ⟨h3, ws, h4, hz', h5⟩ := m.ok.cel n a xs h1 h2
    exact ⟨h3, ws, by show upd s1.H p _ a = _; rw [upd_ne (np a (List.mem_of_getElem? h1))]; exact h4, hz', h5⟩
/-- the test of a clause -/
def SemTt (Γ : Ctx) (tt : TT) (c : Option (Env → M D)) : Prop := match c with
  | none => tt = tYes
  | some f => SemT Γ tt f
def SP1 (Γ : Ctx) (ifs : List Expr) (c : Option (Env → M D)) : Prop := ∃ t, (∀ X, Good Γ X → PTs X ifs t) ∧ SemTt Γ t c
theorem sp_nil : SP1 Γ [] none := ⟨tYes, fun X G => pts_nil, rfl⟩
theorem sp_one {c : Expr} {f : Env → M D} (h : ST Γ c f) : SP1 Γ [c] (some f) := let ⟨t, h1, h2⟩ := h; ⟨t, fun X G => pts_one (h1 X G), h2⟩
/-- what a comprehension asks of an iterator -/
def tLcJ (J : It) (g : TG) (tt : TT) (te : TE) (vs : List Nat) (σ : L2.St) (H1 : Hp) (Q : VK) : Prop := ∀ D, H1 D = none → ∃ W : Nat → Nat → Hp → Prop, (∃ m, W 0 m (upd H1 D (.lst []))) ∧ ∀ i m H, W i m H →
  (J.stop i H ∧ Q (.ref D) H) ∨ (J.go i H ∧ ∃ Nx : Hp → Prop, (∀ H', Nx H' → ∃ m', m' < m ∧ W (i + 1) m' H') ∧ ∀ x H', J.yld i H x H' → g x (L2.wipe σ vs) H' fun σ2 H2 => L2.wipe σ2 vs = L2.wipe σ vs ∧ tt σ2 H2 fun b H3 =>
    if b = true then te σ2 H3 fun y H4 => ∃ acc, H4 D = some (.lst acc) ∧ acc.length < sizeLine ∧ Nx (upd H4 D (.lst (acc ++ [y]))) else Nx H3)
theorem comp_at {scope : Scope} {vs : List Nat} {g : TG} {tt : TT} {te : TE} {tg : Tg} {cond : Option (Env → M D)} {elt : Env → M D} (hv : ∀ i ∈ tg.slots, i ∈ vs)
    (hg : SemG (Γ.blk scope) g tg) (ht : SemTt (Γ.blk scope) tt cond) (he : SemE (Γ.blk scope) te elt) {σ : L2.St} {s s1 : S3} {env : Env} {cs1 : CS} {Q : VK} {ds : List D} {J : It} (eo : EnvOk Γ s σ env) (st1 : Step s s1) (ok1 : OkS Γ.K s1 cs1) (hw : WalkOk Γ s1 ds J)
    (h : Sat (compL vs tg cond elt env ds cs1) (BehF Γ s Q) (BehX Γ s)) : tLcJ J g tt te vs σ s1.H Q := by
  intro p hp
  obtain ⟨G, Y, w, hz, hw⟩ := hw
  refine lc_it w (fun i H => ∃ s2 cs2 acc accD, s2.H = H ∧ Made Γ s1 s2 cs2 p acc accD ∧ acc.length ≤ i ∧ Sat (compL vs tg cond elt env (ds.drop i) cs2) (fun rest cs3 => BehF Γ s Q (accD ++ rest) cs3) (BehX Γ s)) ?_ ?_ ?_ ?_
  · obtain ⟨q1, q2, q3⟩ := raw_new (vs := []) (ds := []) (Step.refl s1) ok1 hp (Nat.zero_le _) .nil
    exact ⟨_, cs1, [], [], rfl, ⟨q1, q2, upd_same, q3.hs, q3.ca, q3.new, .nil⟩, Nat.le_refl _, by rw [List.drop_zero]; exact h⟩
  · rintro i H _ ⟨s2, cs2, acc, accD, rfl, m, _⟩
    exact (hw s2 cs2 m.st.toH m.ok).1
  · rintro i x H H' hlt ⟨s2, cs2, acc, accD, rfl, m, hacc, h⟩ y
    obtain ⟨s3, rfl, st3, ok3, d, hd, ad⟩ := (hw s2 cs2 m.st.toH m.ok).2 i x H' hlt y
    have m3 := m.next st3 ok3
    rw [List.drop_eq_getElem_cons hlt] at h
    have hdd : ds[i] = d := by rw [List.getElem?_eq_getElem hlt] at hd; exact Option.some.inj hd
    rw [hdd] at h
    unfold compL at h
    have eo3 : EnvOk Γ s3 σ env := (eo.step st1).step (m.st.trans st3)
    cases e1 : setTg tg d (wipeE env vs) with
    | none => rw [e1] at h; exact h.elim
    | some env1 =>
      rw [e1] at h
      refine hg (L2.wipe σ vs) s3 (wipeE env vs) env1 cs2 x d _ ok3 (eo3.wipe vs).blk ad e1 fun σ2 eo2 ap => ?_
      refine ⟨(wipe_same ap hv).trans wipe_wipe, ?_⟩
      have go : ∀ (s4 : S3) (cs4 : CS), Step s3 s4 → OkS Γ.K s4 cs4 → Sat (mb (nox (elt env1)) (fun y => mb (compL vs tg cond elt env (List.drop (i + 1) ds)) fun ys => ret (y :: ys)) cs4) (fun rest cs3 => BehF Γ s Q (accD ++ rest) cs3) (BehX Γ s) →
          te σ2 s4.H fun y H4 => ∃ acc, H4 p = some (.lst acc) ∧ acc.length < sizeLine ∧ ∃ s2 cs2 acc' accD, s2.H = upd H4 p (.lst (acc ++ [y])) ∧ Made Γ s1 s2 cs2 p acc' accD ∧ acc'.length ≤ i + 1 ∧ Sat (compL vs tg cond elt env (ds.drop (i + 1)) cs2) (fun rest cs3 => BehF Γ s Q (accD ++ rest) cs3) (BehX Γ s) := by
        intro s4 cs4 st4 ok4 h
        refine he σ2 s4 env1 cs4 _ ok4 (eo2.step (Γ := Γ.blk scope) st4) ?_
        have h := sat_nox.mp (sat_bind.mp h)
        refine h.imp (fun dy cs5 h => ?_) fun _ _ z => z.elim
        intro y s5 st5 ok5 a5
        have m5 := (m3.next st4 ok4).next st5 ok5
        have h := sat_bind.mp h
        refine ⟨acc, m5.at_, by omega, _, cs5, acc ++ [y], accD ++ [dy], rfl, m5.put a5, by rw [List.length_append]; exact Nat.succ_le_succ hacc, ?_⟩
        refine h.imp (fun ys cs6 h => ?_) fun _ _ z => z
        rw [List.append_assoc]
        exact h
      cases cond with
      | none =>
        have ht : tt = tYes := ht
        subst ht
        dsimp only [tYes]
        rw [if_pos rfl]
        exact go s3 cs2 (Step.refl _) ok3 h
      | some c =>
        have ht : SemT (Γ.blk scope) tt c := ht
        refine ht σ2 s3 env1 cs2 _ ok3 eo2 ?_
        have h := sat_nox.mp (sat_bind.mp h)
        refine h.imp (fun b cs4 h => ?_) fun _ _ z => z.elim
        cases b with
        | bool k =>
          refine ⟨k, rfl, fun s4 st4 ok4 => ?_⟩
          cases k with
          | true => exact iteT (go s4 cs4 st4 ok4 h)
          | false => exact iteF ⟨s4, cs4, acc, accD, rfl, m3.next st4 ok4, Nat.le_succ_of_le hacc, h⟩
        | _ => exact h.elim
  · rintro H ⟨s2, cs2, acc, accD, rfl, m, hacc, h⟩
    rw [List.drop_length] at h
    have h : BehF Γ s Q (accD ++ []) cs2 := h
    rw [List.append_nil] at h
    have hn : s.H p = none := by
      by_cases hc : p ∈ s.ca
      · obtain ⟨l, e⟩ := st1.ca
        obtain ⟨o, e'⟩ := ok1.live p (by rw [e]; exact List.mem_append_left _ hc)
        rw [hp] at e'; cases e'
      · cases e : s.H p with
        | none => rfl
        | some o => rw [st1.keep p o hc e] at hp; cases hp
    exact h p acc s2 (st1.trans m.st) m.ok ⟨m.at_, m.hs, m.ca, hn, by omega, m.all⟩
theorem sem_comp {scope : Scope} {vs : List Nat} {wi : TI} {g : TG} {tt : TT} {te : TE} {it : Env → M (List D)} {tg : Tg} {cond : Option (Env → M D)} {elt : Env → M D} (hv : ∀ i ∈ tg.slots, i ∈ vs)
    (hi : SemI Γ wi it) (hg : SemG (Γ.blk scope) g tg) (ht : SemTt (Γ.blk scope) tt cond) (he : SemE (Γ.blk scope) te elt) : SemF Γ (tLc wi g tt te vs) (evComp vs tg it cond elt) := by
  intro σ s env cs Q ok eo h
  refine hi σ s env cs _ ok eo ?_
  have h := sat_bind.mp h
  refine h.imp (fun ds cs1 h => ?_) fun _ _ z => z
  intro J s1 st1 ok1 hw
  exact comp_at hv hg ht he eo st1 ok1 hw h
end
end KH

/-! KH: comprehensions as expressions, cells changed, statements. -/
namespace KH
open PySem PySem.Spec PyProof.Rows L2
def notSet : Expr → Bool
  | .Set .. => false
  | _ => true
theorem folded_of {e : Expr} (h : notSet e = true) (env : PySem.Env) : ∀ x, foldedSetIterable e env x = pure x := by
  intro x
  cases e <;> first | rfl | simp [notSet] at h
section
variable {Γ : Ctx} {pos : Pos} {ptg pit elt : Expr} {ifs : List Expr} {scope : Scope} {own : List (Str × Nat)} {it : Env → M (List D)} {tg : Tg} {cond : Option (Env → M D)} {f : Env → M D}
theorem sf_comp (hi : SI Γ ptg pit it) (ok : blkC Γ.N Γ.sc scope own = true) (hg : SG (Γ.blk scope) ptg tg) (ht : SP1 (Γ.blk scope) ifs cond) (he : SE (Γ.blk scope) elt f) (hv : ∀ i ∈ tg.slots, i ∈ own.map (·.2)) (hs : notSet pit = true) :
    SF Γ (.ListComp elt [⟨ptg, pit, ifs, 0⟩] scope pos) (evComp (own.map (·.2)) tg it cond f) := by
  obtain ⟨wi, i1, i2⟩ := hi
  obtain ⟨g, g1, g2⟩ := hg
  obtain ⟨tt, t1, t2⟩ := ht
  obtain ⟨te, e1, e2⟩ := he
  exact ⟨tLc wi g tt te (own.map (·.2)), fun X G => pe_lc G.calm G.nd (i1 X G) (blkOk_by (by rw [G.N, G.sc]; exact ok)) (fun s H C cl fp => g1 _ (good_blk G)) (fun s H C cl fp => t1 _ (good_blk G)) (fun s H C cl fp => e1 _ (good_blk G)) (folded_of hs _), sem_comp hv i2 g2 t2 e2⟩
end
/-! ### cells changed -/
theorem nodup_at {α : Type} : ∀ {l : List α}, l.Nodup → ∀ {i j : Nat} {x : α}, l[i]? = some x → l[j]? = some x → i = j
  | [], _, _, _, _, h, _ => by simp at h
  | a :: l, hn, i, j, x, h1, h2 => by
    rw [List.nodup_cons] at hn
    cases i with
    | zero =>
      cases j with
      | zero => rfl
      | succ j =>
        simp only [List.getElem?_cons_zero, Option.some.injEq, List.getElem?_cons_succ] at h1 h2
        subst h1
        exact absurd (List.mem_of_getElem? h2) hn.1
    | succ i =>
      cases j with
      | zero =>
        simp only [List.getElem?_cons_zero, Option.some.injEq, List.getElem?_cons_succ] at h1 h2
        subst h2
        exact absurd (List.mem_of_getElem? h1) hn.1
      | succ j =>
        simp only [List.getElem?_cons_succ] at h1 h2
        rw [nodup_at hn.2 h1 h2]
section
variable {Γ : Ctx} {s : S3} {cs : CS} {p : Addr} {n : Nat} {vs vs' : List V} {ds ds' : List D}
theorem cell_put (ok : OkS Γ.K s cs) (h1 : s.ca[n]? = some p) (h2 : cs[n]? = some (some ds)) (hz : vs'.length ≤ sizeLine) (a : AtAll Γ.K [] s.Hs [] vs' ds') :
    Step s ⟨upd s.H p (.lst vs'), s.Hs, s.ca⟩ ∧ OkS Γ.K ⟨upd s.H p (.lst vs'), s.Hs, s.ca⟩ (cs.set n (some ds')) := by
  obtain ⟨h3, ws, h4, _, _⟩ := ok.cel n p ds h1 h2
  have hp : p ∈ s.ca := List.mem_of_getElem? h1
  have hne : ∀ b o, s.Hs b = some o → b ≠ p := fun b o e z => by rw [z, h3] at e; cases e
  refine ⟨⟨Same.refl _, ⟨[], by simp⟩, fun b o hb e => ?_, fun b o hb e n => n, fun b hb => .inl hb⟩, ⟨fun b u e => ?_, by rw [List.length_set]; exact ok.len, ok.nd, fun a ha => ?_, fun m a xs k1 k2 => ?_⟩⟩
  · show upd s.H p _ b = some o
    rw [upd_ne fun z => hb (by rw [z]; exact hp)]; exact e
  · show upd s.H p _ b = some u
    rw [upd_ne (hne b u e)]; exact ok.same b u e
  · by_cases ha' : a = p
    · subst ha'
      exact ⟨_, upd_same⟩
    · obtain ⟨o, e⟩ := ok.live a ha
      exact ⟨o, by show upd s.H p _ a = some o; rw [upd_ne ha']; exact e⟩
  · have k1 : s.ca[m]? = some a := k1
    by_cases hm : n = m
    · subst hm
      rw [h1] at k1
      cases k1
      have hl : n < cs.length := (List.getElem?_eq_some_iff.mp h2).1
      rw [List.getElem?_set_self hl] at k2
      cases k2
      exact ⟨h3, vs', upd_same, hz, a⟩
    · rw [List.getElem?_set_ne hm] at k2
      obtain ⟨q1, us, q2, q3, q4⟩ := ok.cel m a xs k1 k2
      have hap : a ≠ p := fun z => by
        subst z
        exact hm (nodup_at ok.nd h1 k1)
      exact ⟨q1, us, by show upd s.H p _ a = _; rw [upd_ne hap]; exact q2, q3, q4⟩
/-- what a cell's number says -/
theorem cell_of {x : V} (a : At Γ.K Γ.fa s.Hs s.ca x (cellD n)) : ∃ p, x = .ref p ∧ s.ca[n]? = some p := by
  generalize e : cellD n = d at a
  cases a with
  | @cell p m h =>
    have : n = m := by
      unfold cellD at e
      injection e with e
      injection e with e1 _
      injection e1 with e2 _
      injection e2 with e3
      exact Int.ofNat.inj e3
    subst this
    exact ⟨p, rfl, h⟩
  | _ => first | cases e | (exfalso; unfold cellD at e; first | (unfold fnD at e; injection e with e; injection e with e1 _; injection e1 with e2 _; cases e2) | (unfold scrD at e; injection e with e; injection e with e1 _; injection e1 with e2 _; cases e2))
end
/-- the number of a cell -/
def cellOf (d : D) : Option Nat := match d with
  | .dict [(.int (.ofNat n), .none)] => some n
  | _ => none
theorem cellOf_eq {d : D} {n : Nat} (h : cellOf d = some n) : d = cellD n := by
  unfold cellOf at h
  split at h
  · cases h; rfl
  · cases h
/-! x.append(y), x.pop(), x.pop(i), x[i] = y, x += y -/
def appD (o y : D) : M D := fun cs => match cellOf o with
  | some n => (match cs[n]? with
    | some (some ds) => if (decide (ds.length < 16777216) && y.canLay0) = true then .ok .none (cs.set n (some (ds ++ [y]))) else .stuck
    | _ => .stuck)
  | none => .stuck
def popD (o : D) : M D := fun cs => match cellOf o with
  | some n => (match cs[n]? with
    | some (some ds) => (match ds[ds.length - 1]? with
      | some y => .ok y (cs.set n (some ds.dropLast))
      | none => .stuck)
    | _ => .stuck)
  | none => .stuck
def popAtD (o i : D) : M D := fun cs => match cellOf o, i with
  | some n, .int (.ofNat k) => (match cs[n]? with
    | some (some ds) => (match ds[k]? with
      | some y => .ok y (cs.set n (some (ds.eraseIdx k)))
      | none => .stuck)
    | _ => .stuck)
  | _, _ => .stuck
def setD (o i y : D) : M Unit := fun cs => match cellOf o, i with
  | some n, .int k => (match cs[n]? with
    | some (some ds) => (match ixN ds.length k with
      | some j => if y.canLay0 = true then .ok () (cs.set n (some (ds.set j y))) else .stuck
      | none => .stuck)
    | _ => .stuck)
  | _, _ => .stuck
def augD (o y : D) : M D := fun cs => match o, y with
  | .int i, .int j => .ok (.int (i + j)) cs
  | o, y => match cellOf o, lstOf y cs with
    | some n, some es => (match cs[n]? with
      | some (some ds) => if (decide (ds.length + es.length ≤ 16777216) && PyData.canLayAll0 es) = true then .ok o (cs.set n (some (ds ++ es))) else .stuck
      | _ => .stuck)
    | _, _ => .stuck
section
variable {Γ : Ctx}
def rAppD (K : PySem.W.Frag) : R2 := fun x y H Q => tyV K "list" x H ∧ rAppend x [y] H Q
theorem appD_ok {s : S3} {cs : CS} {x y : V} {d e : D} {Q : VK} (ok : OkS Γ.K s cs) (a : At Γ.K Γ.fa s.Hs s.ca x d) (b : At Γ.K Γ.fa s.Hs s.ca y e) (h : Sat (appD d e cs) (Beh Γ s Q) (BehX Γ s)) : tyV Γ.K "list" x s.H ∧ rAppend x [y] s.H Q := by
  unfold appD at h
  split at h
  · rename_i n e1
    split at h
    · rename_i ds e2
      split at h
      · rename_i hz
        rw [Bool.and_eq_true, decide_eq_true_eq] at hz
        have := cellOf_eq e1
        subst this
        obtain ⟨p, rfl, h1⟩ := cell_of a
        obtain ⟨h3, vs, h4, hz', h5⟩ := ok.cel n p ds h1 e2
        have hl : vs.length < sizeLine := by rw [h5.len, line_eq]; exact hz.1
        obtain ⟨q1, q2⟩ := cell_put (vs' := vs ++ [y]) ok h1 e2 (by rw [List.length_append]; exact hl) (h5.append (.cons (b.plain hz.2) .nil))
        exact ⟨Or.inl ⟨rfl, _, SqL.of h4⟩, p, vs, y, rfl, rfl, h4, hl, h .non _ q1 q2 .non⟩
      · exact h.elim
    · exact h.elim
  · exact h.elim
theorem popD_ok {s : S3} {cs : CS} {x : V} {d : D} {Q : VK} (ok : OkS Γ.K s cs) (a : At Γ.K Γ.fa s.Hs s.ca x d) (h : Sat (popD d cs) (Beh Γ s Q) (BehX Γ s)) : tyV Γ.K "list" x s.H ∧ rPop x [] s.H Q := by
  unfold popD at h
  split at h
  · rename_i n e1
    split at h
    · rename_i ds e2
      split at h
      · rename_i y e3
        have := cellOf_eq e1
        subst this
        obtain ⟨p, rfl, h1⟩ := cell_of a
        obtain ⟨h3, vs, h4, hz', h5⟩ := ok.cel n p ds h1 e2
        obtain ⟨v, e4, a4⟩ := h5.get e3
        rw [← h5.len] at e4
        obtain ⟨q1, q2⟩ := cell_put (vs' := vs.dropLast) ok h1 e2 (by rw [List.length_dropLast]; omega) h5.dropLast
        exact ⟨Or.inl ⟨rfl, _, SqL.of h4⟩, p, vs, v, rfl, rfl, h4, e4, h v _ q1 q2 a4.base⟩
      · exact h.elim
    · exact h.elim
  · exact h.elim
theorem AtAll.erase {K : PySem.W.Frag} {fa ca : List Addr} {Hs : Hp} : ∀ {vs : List V} {ds : List D} (n : Nat), AtAll K fa Hs ca vs ds → AtAll K fa Hs ca (vs.eraseIdx n) (ds.eraseIdx n)
  | _, _, _, .nil => by simp; exact .nil
  | _, _, 0, .cons _ t => t
  | _, _, n + 1, .cons h t => by
    rw [List.eraseIdx_cons_succ, List.eraseIdx_cons_succ]
    exact .cons h (AtAll.erase n t)
theorem popAtD_ok {s : S3} {cs : CS} {x y : V} {d e : D} {Q : VK} (ok : OkS Γ.K s cs) (a : At Γ.K Γ.fa s.Hs s.ca x d) (b : At Γ.K Γ.fa s.Hs s.ca y e) (h : Sat (popAtD d e cs) (Beh Γ s Q) (BehX Γ s)) : rPopAt x [y] s.H Q := by
  unfold popAtD at h
  split at h
  · rename_i n k e1
    cases b
    split at h
    · rename_i ds e2
      split at h
      · rename_i y e3
        have := cellOf_eq e1
        subst this
        obtain ⟨p, rfl, h1⟩ := cell_of a
        obtain ⟨h3, vs, h4, hz', h5⟩ := ok.cel n p ds h1 e2
        obtain ⟨v, e4, a4⟩ := h5.get e3
        have hk : k < vs.length := (List.getElem?_eq_some_iff.mp e4).1
        obtain ⟨q1, q2⟩ := cell_put (vs' := vs.eraseIdx k) ok h1 e2 (Nat.le_trans (L2.len_erase _ _) hz') (h5.erase k)
        have hs : seqIndex? (Int.ofNat k) vs.length = some k := by
          have hi : ixN vs.length (Int.ofNat k) = some k := by
            unfold ixN
            have h0 : (0 : Int) ≤ Int.ofNat k := Int.natCast_nonneg k
            have h1 : (Int.ofNat k : Int) < vs.length := Int.ofNat_lt.mpr hk
            rw [if_pos h0, if_pos h1]
            rfl
          exact (ixN_seq hi).1
        have hb : (k : Int) < 2 ^ 63 := by rw [line_eq] at hz'; omega
        exact ⟨p, vs, (k : Int), k, v, rfl, rfl, h4, by omega, hb, hs, e4, h v _ q1 q2 a4.base⟩
      · exact h.elim
    · exact h.elim
  · exact h.elim
theorem setD_ok {s : S3} {cs : CS} {x i y : V} {d k e : D} {Q : Hp → Prop} {R : Exc → CS → Prop} (ok : OkS Γ.K s cs) (a : At Γ.K Γ.fa s.Hs s.ca x d) (ai : At Γ.K Γ.fa s.Hs s.ca i k) (b : At Γ.K Γ.fa s.Hs s.ca y e)
    (h : Sat (setD d k e cs) (fun _ cs' => ∀ s', Step s s' → OkS Γ.K s' cs' → Q s'.H) R) : rSetL x i y s.H Q := by
  unfold setD at h
  split at h
  · rename_i n k e1
    cases ai
    split at h
    · rename_i ds e2
      split at h
      · rename_i j e3
        split at h
        · rename_i hc
          have := cellOf_eq e1
          subst this
          obtain ⟨p, rfl, h1⟩ := cell_of a
          obtain ⟨h3, vs, h4, hz', h5⟩ := ok.cel n p ds h1 e2
          obtain ⟨q1, q2⟩ := cell_put (vs' := vs.set j y) ok h1 e2 (by rw [List.length_set]; exact hz') (h5.set j (b.plain hc))
          exact ⟨p, vs, k, j, rfl, rfl, h4, by rw [h5.len]; exact e3, h _ q1 q2⟩
        · exact h.elim
      · exact h.elim
    · exact h.elim
  · exact h.elim
def rAugD : R2 := fun x y H Q => (rI0 fun i j => .int (i + j)) x y H Q ∨ rExt2 x y H Q
theorem op_augD {X : Cx} : PIp X .Add rAugD := fun pins s σ H x y v u Q I rx ry h => (OpR.or (X := X) iop_add iop_ext) pins s σ H x y v u Q I rx ry h
theorem augD_ok {s : S3} {cs : CS} {x y : V} {d e : D} {Q : VK} (ok : OkS Γ.K s cs) (a : At Γ.K Γ.fa s.Hs s.ca x d) (b : At Γ.K Γ.fa s.Hs s.ca y e) (h : Sat (augD d e cs) (Beh Γ s Q) (BehX Γ s)) : rAugD x y s.H Q := by
  unfold augD at h
  split at h
  · cases a; cases b
    exact .inl ⟨_, _, rfl, rfl, Beh.here h ok (.int _)⟩
  · split at h
    · rename_i n es e1 e0
      split at h
      · rename_i ds e2
        split at h
        · rename_i hz
          rw [Bool.and_eq_true, decide_eq_true_eq] at hz
          have := cellOf_eq e1
          subst this
          obtain ⟨p, rfl, h1⟩ := cell_of a
          obtain ⟨h3, vs, h4, hz', h5⟩ := ok.cel n p ds h1 e2
          obtain ⟨q, us, rfl, k1, k2, k3⟩ := lst_of ok b e0
          have hl : vs.length + us.length ≤ sizeLine := by rw [h5.len, k3.len, line_eq]; exact hz.1
          obtain ⟨q1, q2⟩ := cell_put (vs' := vs ++ us) ok h1 e2 (by rw [List.length_append]; exact hl) (h5.append (k3.plain hz.2))
          exact .inr ⟨p, q, vs, us, rfl, rfl, h4, k1, hl, h (.ref p) _ q1 q2 (.cell h1)⟩
        · exact h.elim
      · exact h.elim
    · exact h.elim
/-! method calls on lists -/
def chkL (o : D) : M Unit := fun cs => match lstOf o cs with
  | some _ => .ok () cs
  | none => .stuck
def evMt (k : D → List D → M D) (f : Env → M D) (fl : Env → M (List D)) : Env → M D := fun env => mb (f env) fun o => mb (chkL o) fun _ => mb (fl env) fun ys => k o ys
def MtD (Γ : Ctx) (r : V → List V → Hp → VK → Prop) (k : D → List D → M D) : Prop := ∀ (s : S3) (cs : CS) (x : V) (ys : List V) (d : D) (es : List D) (Q : VK), OkS Γ.K s cs → At Γ.K Γ.fa s.Hs s.ca x d → AtAll Γ.K Γ.fa s.Hs s.ca ys es → Sat (k d es cs) (Beh Γ s Q) (BehX Γ s) → r x ys s.H Q
variable {pos p : Pos} {e a : Expr} {es : List Expr} {f : Env → M D} {fl : Env → M (List D)}
theorem sem_mt {r : V → List V → Hp → VK → Prop} {k : D → List D → M D} {t : TE} {u : TA} (hk : MtD Γ r k) (h2 : SemE Γ t f) (r2 : SemA Γ u fl) : SemE Γ (tBM Γ.K "list" r t u) (evMt k f fl) := by
  intro σ s env cs Q ok eo h
  refine h2 σ s env cs _ ok eo ?_
  have h := sat_bind.mp h
  refine h.imp (fun d cs1 h => ?_) fun _ _ z => z
  intro v s1 st1 ok1 a1
  have h := sat_bind.mp h
  unfold chkL at h
  split at h
  · rename_i ds e1
    obtain ⟨p, vs, rfl, h1, hz, _⟩ := lst_of ok1 a1 e1
    refine ⟨Or.inl ⟨rfl, _, SqL.of h1⟩, ?_⟩
    have h : Sat (mb (fl env) (fun ys => k d ys) cs1) (Beh Γ s Q) (BehX Γ s) := h
    refine r2 σ s1 env cs1 _ ok1 (eo.step st1) ?_
    have h := sat_bind.mp h
    refine h.imp (fun ys cs2 h => ?_) fun _ _ z => z.step st1
    intro us s2 st2 ok2 a2
    refine hk s2 cs2 _ us d ys Q ok2 (a1.step st2) a2 ?_
    exact h.imp (fun z cs3 h v3 s3 st3 ok3 a3 => h v3 s3 ((st1.trans st2).trans st3) ok3 a3) fun _ _ z => z.step (st1.trans st2)
  · exact h.elim
def appDs (o : D) (ys : List D) : M D := match ys with
  | [y] => appD o y
  | _ => stk
theorem appDs_ok : MtD Γ rAppend appDs := by
  intro s cs x ys d es Q ok a b h
  unfold appDs at h
  split at h
  · cases b with
    | cons b t =>
      cases t
      exact (appD_ok ok a b h).2
  · exact h.elim
end
def notCall0 : Expr → Bool
  | .Call (.Name ..) [] [] _ => false
  | _ => true
theorem base_of {e : Expr} {m : Str} {env : PySem.Env} {w : Sem Value} (h : notCall0 e = true) : attributeBase e m env w = w := by
  unfold attributeBase
  split
  · simp [notCall0] at h
  · rfl
theorem few_of {a : Expr} {es : List Expr} {env : PySem.Env} {cpos : Pos} (h : (a :: es).all noStar = true) (hl : (a :: es).length < 29) : ((backTo cpos (starEach (a :: es) env)).all (fun x => !x.1) && (backToKw cpos (keywordEach [] env)).all (fun x => x.1.isSome)
      && decide ((a :: es).length + ([] : List Keyword).length + (if ([] : List Keyword).isEmpty then 0 else 1) < 30)) = true := by
  have h1 : ∀ {es : List Expr}, es.all noStar = true → (backTo cpos (starEach es env)).all (fun x => !x.1) = true := by
    intro es
    induction es with
    | nil => intro _; rfl
    | cons e es ih =>
      intro h
      rw [List.all_cons, Bool.and_eq_true] at h
      rw [star_of h.1]
      have := ih h.2
      unfold backTo at this ⊢
      rw [List.map_cons, List.all_cons, this]
      rfl
  rw [h1 h]
  have h2 : (a :: es).length + ([] : List Keyword).length + (if ([] : List Keyword).isEmpty then 0 else 1) < 30 := by
    show (a :: es).length + 0 + 0 < 30
    omega
  rw [decide_eq_true h2]
  rfl
section
variable {Γ : Ctx} {pos p : Pos} {e a : Expr} {es : List Expr} {f : Env → M D} {fl : Env → M (List D)}
theorem se_append (hb : notCall0 e = true) (hl : (p.endLine == pos.line) = true) (hn : noStar a = true) (h : SE Γ e f) (ha : SA Γ [a] fl) : SE Γ (.Call (.Attribute e "append" p) [a] [] pos) (evMt appDs f fl) := by
  obtain ⟨t, h1, h2⟩ := h
  obtain ⟨u, r1, r2⟩ := ha
  refine ⟨_, fun X G => ?_, sem_mt appDs_ok h2 r2⟩
  rw [← G.K]
  exact pe_bm PySem.F.plainAttrs_list PySem.F.slot_list_append PySem.F.type_list_append mt_append (h1 X G) (r1 X G) (base_of hb) (few_of (by rw [List.all_cons, hn]; rfl) (by show 1 < 29; decide)) hl (star_of hn) rfl
def popAtDs (o : D) (ys : List D) : M D := match ys with
  | [i] => popAtD o i
  | _ => stk
theorem popDs_ok : MtD Γ rPopAt popAtDs := by
  intro s cs x ys d es Q ok a b h
  unfold popAtDs at h
  split at h
  · cases b with
    | cons b t =>
      cases t
      exact popAtD_ok ok a b h
  · exact h.elim
theorem se_popAt (hb : notCall0 e = true) (hl : (p.endLine == pos.line) = true) (hn : noStar a = true) (h : SE Γ e f) (ha : SA Γ [a] fl) : SE Γ (.Call (.Attribute e "pop" p) [a] [] pos) (evMt popAtDs f fl) := by
  obtain ⟨t, h1, h2⟩ := h
  obtain ⟨u, r1, r2⟩ := ha
  refine ⟨_, fun X G => ?_, sem_mt popDs_ok h2 r2⟩
  rw [← G.K]
  exact pe_bm PySem.F.plainAttrs_list PySem.F.slot_list_pop PySem.F.type_list_pop mt_popAt (h1 X G) (r1 X G) (base_of hb) (few_of (by rw [List.all_cons, hn]; rfl) (by show 1 < 29; decide)) hl (star_of hn) rfl
theorem se_pop (hb : notCall0 e = true) (hl : (p.endLine == pos.line) = true) (h : SE Γ e f) : SE Γ (.Call (.Attribute e "pop" p) [] [] pos) (ev1 popD f) := by
  obtain ⟨t, h1, h2⟩ := h
  refine ⟨tBM0 Γ.K "list" rPop t, fun X G => ?_, fun σ s env cs Q ok eo h => ?_⟩
  · rw [← G.K]
    exact pe_bm0 PySem.F.plainAttrs_list PySem.F.slot_list_pop PySem.F.type_list_pop mt_pop (h1 X G) (base_of hb) (hline := hl)
  · refine h2 σ s env cs _ ok eo ?_
    have h := sat_bind.mp h
    refine h.imp (fun d cs1 h => ?_) fun _ _ z => z
    intro v s1 st1 ok1 a1
    exact popD_ok ok1 a1 (h.imp (fun z cs3 h v3 s3 st3 ok3 a3 => h v3 s3 (st1.trans st3) ok3 a3) fun _ _ z => z.step st1)
end
end KH

/-! KH: statements. -/
namespace KH
open PySem PySem.Spec PyProof.Rows L2
structure GoodS (Γ : Ctx) (X : Cx) : Prop extends Good Γ X where
  own : PassesOwn (model X.prog X.w) X.A X.env X.xe
  kind : X.env.scope.kind = .function
inductive Fl where
  | nx (env : Env)
  | rt (d : D)
def BehS (Γ : Ctx) (s : S3) (Dn : Ends) (fl : Fl) (cs' : CS) : Prop := match fl with
  | .nx env' => ∀ σ' s', Step s s' → OkS Γ.K s' cs' → EnvOk Γ s' σ' env' → Dn.nx σ' s'.H
  | .rt d => ∀ v s', Step s s' → OkS Γ.K s' cs' → At Γ.K Γ.fa s'.Hs s'.ca v d → Dn.rt v s'.H
def SemS (Γ : Ctx) (t : TS) (f : Env → M Fl) : Prop := ∀ (σ : L2.St) (s : S3) (env : Env) (cs : CS) (Dn : Ends), OkS Γ.K s cs → EnvOk Γ s σ env → Sat (f env cs) (BehS Γ s Dn) (BehX Γ s) → t Dn σ s.H
def SS (Γ : Ctx) (st : Stmt) (f : Env → M Fl) : Prop := ∃ t, (∀ X, GoodS Γ X → PS X st t) ∧ SemS Γ t f
def SSs (Γ : Ctx) (st : List Stmt) (f : Env → M Fl) : Prop := ∃ t, (∀ X, GoodS Γ X → PSs X st t) ∧ SemS Γ t f
theorem BehS.step {Γ : Ctx} {s s1 : S3} {Dn : Ends} {fl : Fl} {cs' : CS} (h : BehS Γ s Dn fl cs') (st : Step s s1) : BehS Γ s1 Dn fl cs' := by
  cases fl with
  | nx env' => exact fun σ' s' st' ok eo => h σ' s' (st.trans st') ok eo
  | rt d => exact fun v s' st' ok a => h v s' (st.trans st') ok a
section
variable {Γ : Ctx} {pos pos' p : Pos} {e a b c tg it : Expr} {es : List Expr} {body els : List Stmt} {f g : Env → M D} {fl : Env → M (List D)} {F G' : Env → M Fl}
/-! x = e -/
def evSet (i : Nat) (f : Env → M D) : Env → M Fl := fun env => mb (f env) fun d => ret (.nx (env.set i (some d)))
theorem sem_set {t : TE} {i : Nat} (h2 : SemE Γ t f) : SemS Γ (tAsg t (gName i)) (evSet i f) := by
  intro σ s env cs Dn ok eo h
  refine h2 σ s env cs _ ok eo ?_
  have h := sat_bind.mp h
  refine h.imp (fun d cs1 h => ?_) fun _ _ z => z
  intro v s1 st1 ok1 a1
  exact h _ s1 st1 ok1 ((eo.step st1).set i a1)
def notComp : Expr → Bool
  | .ListComp .. => false
  | .SetComp .. => false
  | .DictComp .. => false
  | _ => true
theorem swaps_no {e : Expr} (h : notComp e = true) (tg : Option Expr) (l : Nat) (env : PySem.Env) : swapsWith e tg l env = pure false := by
  cases e <;> first | rfl | simp [notComp] at h
theorem ss_set {i : Nat} {x : Str} (hN : Γ.N[i]? = some x) (hs : Γ.st x = true) (hc : notComp e = true) (h : SE Γ e f) : SS Γ (.Assign [.Name x pos'] e pos) (evSet i f) := by
  obtain ⟨t, h1, h2⟩ := h
  refine ⟨tAsg t (gName i), fun X G => ?_, sem_set h2⟩
  obtain ⟨k1, k2⟩ := G.sto x hs
  exact ps_set G.nd (by rw [G.N]; exact hN) k1 (h1 X G.toGood) (swaps_no hc _ _ _) k2
/-- x = [..]: stored within the comprehension's frame, or behind it -/
def swpB (sc scope : Scope) (x : Str) (px pe : Pos) : Bool := (sc.names.lookup x == some .local) && (px.line == pe.line) && !(scope.names.any fun (n, k) => n == x && (k == .local || k == .cell))
def boxF (cel : Bool) (f : Env → M (List D)) : Env → M D := if cel then evCel f else evVal f
theorem sem_boxF {t : TE} {fl : Env → M (List D)} (cel : Bool) (hF : SemF Γ t fl) : SemE Γ t (boxF cel fl) := by
  intro σ s env cs Q ok eo h
  refine hF σ s env cs _ ok eo ?_
  cases cel with
  | false =>
    have h := sat_bind.mp h
    refine h.imp (fun ds cs1 h => ?_) fun _ _ z => z
    intro p vs s1 st ok1 r
    obtain ⟨q1, q2, q3⟩ := r.freeze st ok1
    exact h (.ref p) ⟨s1.H, upd s1.Hs p (.lst vs), s1.ca⟩ q1 q2 q3
  | true =>
    have h := sat_bind.mp h
    refine h.imp (fun ds cs1 h => ?_) fun _ _ z => z
    intro p vs s1 st ok1 r
    unfold newCell at h
    split at h
    · rename_i hc
      obtain ⟨q1, q2, q3⟩ := r.cell st ok1 hc
      exact h (.ref p) ⟨s1.H, s1.Hs, s1.ca ++ [p]⟩ q1 q2 q3
    · exact h.elim
theorem ss_setComp {i : Nat} {x : Str} {ptg pit elt : Expr} {ifs : List Expr} {scope : Scope} {own : List (Str × Nat)} {itf : Env → M (List D)} {tg : Tg} {cond : Option (Env → M D)} {pc : Pos} (cel : Bool) (hN : Γ.N[i]? = some x) (hst : Γ.st x = true)
    (hi : SI Γ ptg pit itf) (ok : blkC Γ.N Γ.sc scope own = true) (hg : SG (Γ.blk scope) ptg tg) (ht : SP1 (Γ.blk scope) ifs cond) (he : SE (Γ.blk scope) elt f) (hv : ∀ i ∈ tg.slots, i ∈ own.map (·.2)) (hs : notSet pit = true) :
    SS Γ (.Assign [.Name x pos'] (.ListComp elt [⟨ptg, pit, ifs, 0⟩] scope pc) pos) (evSet i (boxF cel (evComp (own.map (·.2)) tg itf cond f))) := by
  obtain ⟨wi, i1, i2⟩ := hi
  obtain ⟨g, g1, g2⟩ := hg
  obtain ⟨tt, t1, t2⟩ := ht
  obtain ⟨te, e1, e2⟩ := he
  have hF : SemF Γ (tLc wi g tt te (own.map (·.2))) (evComp (own.map (·.2)) tg itf cond f) := sem_comp hv i2 g2 t2 e2
  have hE : SemE Γ (tLc wi g tt te (own.map (·.2))) (boxF cel (evComp (own.map (·.2)) tg itf cond f)) := sem_boxF cel hF
  refine ⟨tAsg (tLc wi g tt te (own.map (·.2))) (gName i), fun X G => ?_, sem_set hE⟩
  obtain ⟨k1, k2⟩ := G.sto x hst
  have hb : blkC X.N X.env.scope scope own = true := by rw [G.N, G.sc]; exact ok
  by_cases hsw : swpB X.env.scope scope x pos' pc = true
  · have hsw' := hsw
    unfold swpB at hsw'
    rw [Bool.and_eq_true, Bool.and_eq_true] at hsw'
    have hl : X.env.scope.names.lookup x = some .local := eq_of_beq hsw'.1.1
    refine ps_setLc G.calm G.nd (by rw [G.N]; exact hN) hl ?_ (i1 X G.toGood) (blkOk_by hb) (fun s H C cl fp => g1 _ (good_blk G.toGood)) (fun s H C cl fp => t1 _ (good_blk G.toGood)) (fun s H C cl fp => e1 _ (good_blk G.toGood)) (folded_of hs _)
    exact sw_true G.kind hl hsw'.1.2 (by simpa using hsw'.2)
  · refine ps_set G.nd (by rw [G.N]; exact hN) k1 (pe_lc G.calm G.nd (i1 X G.toGood) (blkOk_by hb) (fun s H C cl fp => g1 _ (good_blk G.toGood)) (fun s H C cl fp => t1 _ (good_blk G.toGood)) (fun s H C cl fp => e1 _ (good_blk G.toGood)) (folded_of hs _)) ?_ k2
    have hbk : X.env.blockKind = .function := by unfold PySem.Env.blockKind; rw [G.kind]; rfl
    have hsw : swpB X.env.scope scope x pos' pc = false := by simpa using hsw
    unfold swpB at hsw
    show (pure (X.env.blockKind == .function && X.env.kindOf x == some .local && pos'.line == pc.line && !(scope.names.any fun (n, k) => n == x && (k == .local || k == .cell))) : Sem Bool) = pure false
    rw [hbk]
    show (pure ((true && X.env.scope.names.lookup x == some .local) && pos'.line == pc.line && !(scope.names.any fun (n, k) => n == x && (k == .local || k == .cell))) : Sem Bool) = pure false
    rw [Bool.true_and, hsw]
/-! a, b = e -/
def evSetT (is : List Nat) (f : Env → M D) : Env → M Fl := fun env => mb (f env) fun d => match setTg (.tp is) d env with
  | some env' => ret (.nx env')
  | none => stk
def evPar (is : List Nat) (fl : Env → M (List D)) : Env → M Fl := fun env => mb (fl env) fun ds => if ds.length = is.length then ret (.nx (setAll is ds env)) else stk
def notTup : Expr → Bool
  | .Tuple .. => false
  | _ => true
theorem sem_setT {t : TE} {is : List Nat} {g : TG} (h2 : SemE Γ t f) (hg : SemG Γ g (.tp is)) : SemS Γ (tAsg t g) (evSetT is f) := by
  intro σ s env cs Dn ok eo h
  refine h2 σ s env cs _ ok eo ?_
  have h := sat_bind.mp h
  refine h.imp (fun d cs1 h => ?_) fun _ _ z => z
  intro v s1 st1 ok1 a1
  cases e1 : setTg (.tp is) d env with
  | none => rw [e1] at h; exact h.elim
  | some env' =>
    rw [e1] at h
    exact hg σ s1 env env' cs1 v d _ ok1 (eo.step st1) a1 e1 fun σ' eo' _ => h σ' s1 st1 ok1 eo'
theorem sole {t e : Expr} {l : Nat} {env : PySem.Env} : swapsWithSole [t] e l env = swapsWith e (some t) l env := rfl
theorem ss_setT {is : List Nat} {k : Nat} (hc : notComp e = true) (ht : notTup e = true) (hg : SG Γ (.Tuple es k pos') (.tp is)) (h : SE Γ e f) : SS Γ (.Assign [.Tuple es k pos'] e pos) (evSetT is f) := by
  obtain ⟨t, h1, h2⟩ := h
  obtain ⟨g, g1, g2⟩ := hg
  refine ⟨tAsg t g, fun X G => ?_, sem_setT h2 g2⟩
  refine ps_asg (h1 X G.toGood) (g1 X G.toGood) (sole.trans (swaps_no hc _ _ _)) ?_
  cases e <;> first | rfl | simp [notTup] at ht
/-- whether the stores are swapped: the names, or none -/
def swapN (kd : Str → Option NameKind) (ts vs : List Expr) : Option (List Str) :=
  if (!(ts.length == 2 || ts.length == 3) || vs.length != ts.length) = true then none else
  if (vs.any fun | .Starred .. => true | _ => false) = true then none else
  let line := (ts.head?.map (·.pos.line)).getD 0
  let names := ts.filterMap fun
    | .Name id pos => if (kd id == some .local && pos.line == line) = true then some id else none
    | _ => none
  if (names.length != ts.length || names.eraseDups.length != names.length) = true then none else
  if vs.all (foldedForSure 8) = true then none else some names
theorem swapN_ok {env : PySem.Env} {ts vs : List Expr} {k k2 : Nat} {p p2 : Pos} (hk : env.scope.kind = .function) (hc : vs.all (constantsAlone 8) = false ∨ vs.all (foldedForSure 8) = true) : swappedStores [.Tuple ts k p] (.Tuple vs k2 p2) env = pure (swapN env.kindOf ts vs) := by
  have hbk : env.blockKind = .function := by unfold PySem.Env.blockKind; rw [hk]; rfl
  unfold swappedStores swapN
  have e0 : (ScopeKind.function != ScopeKind.function) = false := by decide
  simp only [hbk, e0, Bool.or_false]
  repeat' split
  all_goals first | rfl | contradiction | (rcases hc with hc | hc <;> simp_all)
theorem kind_sc {env : PySem.Env} : env.kindOf = fun x => env.scope.names.lookup x := rfl
/-- both sides written: as a tuple, or swapped -/
theorem ss_tupT {is : List Nat} {k k2 : Nat} {vs : List Expr} {p2 : Pos} (hk : Γ.sc.kind = .function) (hc : vs.all (constantsAlone 8) = false ∨ vs.all (foldedForSure 8) = true) (hsw : swapN (fun x => Γ.sc.names.lookup x) es vs = none)
    (hg : SG Γ (.Tuple es k pos') (.tp is)) (h : SE Γ (.Tuple vs k2 p2) f) : SS Γ (.Assign [.Tuple es k pos'] (.Tuple vs k2 p2) pos) (evSetT is f) := by
  obtain ⟨t, h1, h2⟩ := h
  obtain ⟨g, g1, g2⟩ := hg
  refine ⟨tAsg t g, fun X G => ?_, sem_setT h2 g2⟩
  refine ps_asg (h1 X G.toGood) (g1 X G.toGood) (sole.trans (swaps_no rfl _ _ _)) ?_
  rw [swapN_ok G.kind hc, kind_sc, G.sc, hsw]
theorem ss_par2 {i j : Nat} {x y : Str} {px py p2 : Pos} {k k2 : Nat} (hk : Γ.sc.kind = .function) (hc : [a, b].all (constantsAlone 8) = false ∨ [a, b].all (foldedForSure 8) = true)
    (hsw : swapN (fun x => Γ.sc.names.lookup x) [.Name x px, .Name y py] [a, b] = some [x, y]) (hi : Γ.N[i]? = some x) (hj : Γ.N[j]? = some y) (hij : i ≠ j) (hx : Γ.sc.names.lookup x = some .local) (hy : Γ.sc.names.lookup y = some .local) (h : SA Γ [a, b] fl) :
    SS Γ (.Assign [.Tuple [.Name x px, .Name y py] k pos'] (.Tuple [a, b] k2 p2) pos) (evPar [i, j] fl) := by
  obtain ⟨t, h1, h2⟩ := h
  refine ⟨tPar i j t, fun X G => ?_, fun σ s env cs Dn ok eo h => ?_⟩
  · refine ps_par G.calm G.nd (by rw [G.N]; exact hi) (by rw [G.N]; exact hj) hij (by rw [G.sc]; exact hx) (by rw [G.sc]; exact hy) (h1 X G.toGood) ?_ (sole.trans (swaps_no rfl _ _ _))
    rw [swapN_ok G.kind hc, kind_sc, G.sc, hsw]
  · refine h2 σ s env cs _ ok eo ?_
    have h := sat_bind.mp h
    refine h.imp (fun ds cs1 h => ?_) fun _ _ z => z
    intro vs s1 st1 ok1 a1
    split at h
    · rename_i hl
      cases a1 with
      | nil => cases hl
      | cons a1 t =>
        cases t with
        | nil => cases hl
        | cons a2 t =>
          cases t with
          | nil => exact ⟨_, _, rfl, h _ s1 st1 ok1 (((eo.step st1).set i a1).set j a2)⟩
          | cons _ _ => simp at hl
    · exact h.elim
theorem ss_par3 {i j l : Nat} {x y z : Str} {px py pz p2 : Pos} {k k2 : Nat} (hk : Γ.sc.kind = .function) (hc : [a, b, c].all (constantsAlone 8) = false ∨ [a, b, c].all (foldedForSure 8) = true)
    (hsw : swapN (fun x => Γ.sc.names.lookup x) [.Name x px, .Name y py, .Name z pz] [a, b, c] = some [x, y, z]) (hi : Γ.N[i]? = some x) (hj : Γ.N[j]? = some y) (hl : Γ.N[l]? = some z) (hij : i ≠ j) (hil : i ≠ l) (hjl : j ≠ l)
    (hx : Γ.sc.names.lookup x = some .local) (hy : Γ.sc.names.lookup y = some .local) (hz : Γ.sc.names.lookup z = some .local) (h : SA Γ [a, b, c] fl) :
    SS Γ (.Assign [.Tuple [.Name x px, .Name y py, .Name z pz] k pos'] (.Tuple [a, b, c] k2 p2) pos) (evPar [i, j, l] fl) := by
  obtain ⟨t, h1, h2⟩ := h
  refine ⟨tPar3 i j l t, fun X G => ?_, fun σ s env cs Dn ok eo h => ?_⟩
  · refine ps_par3 G.calm G.nd (by rw [G.N]; exact hi) (by rw [G.N]; exact hj) (by rw [G.N]; exact hl) hij hil hjl (by rw [G.sc]; exact hx) (by rw [G.sc]; exact hy) (by rw [G.sc]; exact hz) (h1 X G.toGood) ?_ (sole.trans (swaps_no rfl _ _ _))
    rw [swapN_ok G.kind hc, kind_sc, G.sc, hsw]
  · refine h2 σ s env cs _ ok eo ?_
    have h := sat_bind.mp h
    refine h.imp (fun ds cs1 h => ?_) fun _ _ z => z
    intro vs s1 st1 ok1 a1
    split at h
    · rename_i hl
      cases a1 with
      | nil => cases hl
      | cons a1 t =>
        cases t with
        | nil => cases hl
        | cons a2 t =>
          cases t with
          | nil => cases hl
          | cons a3 t =>
            cases t with
            | nil => exact ⟨_, _, _, rfl, h _ s1 st1 ok1 ((((eo.step st1).set i a1).set j a2).set l a3)⟩
            | cons _ _ => simp at hl
    · exact h.elim
/-! o[i] = e -/
def evSetI (fo fi fv : Env → M D) : Env → M Fl := fun env => mb (fv env) fun v => mb (fo env) fun o => mb (fi env) fun i => mb (setD o i v) fun _ => ret (.nx env)
def subPlain : Expr → Bool
  | .Slice .. => false
  | _ => true
theorem ss_setI {o i v : Expr} {fo fi fv : Env → M D} (hc : notComp v = true) (hp : subPlain i = true) (ho : SE Γ o fo) (hi : SE Γ i fi) (hv : SE Γ v fv) : SS Γ (.Assign [.Subscript o i pos'] v pos) (evSetI fo fi fv) := by
  obtain ⟨to, o1, o2⟩ := ho
  obtain ⟨ti, i1, i2⟩ := hi
  obtain ⟨tv, v1, v2⟩ := hv
  refine ⟨tAsg tv (gSub to ti rSetL), fun X G => ?_, fun σ s env cs Dn ok eo h => ?_⟩
  · refine ps_asg (v1 X G.toGood) (pg_sub (o1 X G.toGood) (i1 X G.toGood) set_list ?_) (sole.trans (swaps_no hc _ _ _)) ?_ ?_
    · intro w
      cases i <;> first | rfl | simp [subPlain] at hp
    · cases v <;> first | rfl
    · rfl
  · refine v2 σ s env cs _ ok eo ?_
    have h := sat_bind.mp h
    refine h.imp (fun d cs1 h => ?_) fun _ _ z => z
    intro w s1 st1 ok1 a1
    refine o2 σ s1 env cs1 _ ok1 (eo.step st1) ?_
    have h := sat_bind.mp h
    refine h.imp (fun d2 cs2 h => ?_) fun _ _ z => z.step st1
    intro w2 s2 st2 ok2 a2
    have st12 := st1.trans st2
    refine i2 σ s2 env cs2 _ ok2 (eo.step st12) ?_
    have h := sat_bind.mp h
    refine h.imp (fun d3 cs3 h => ?_) fun _ _ z => z.step st12
    intro w3 s3 st3 ok3 a3
    have st := st12.trans st3
    refine setD_ok ok3 (a2.step st3) a3 ((a1.step st2).step st3) ((sat_bind.mp h).imp (fun _ cs4 h s4 st4 ok4 => ?_) (fun e c z => z))
    exact h σ s4 (st.trans st4) ok4 (eo.step (st.trans st4))
/-! x += e -/
def evAug (i : Nat) (f : Env → M D) : Env → M Fl := fun env => match env[i]? with
  | some (some x) => mb (f env) fun y => mb (augD x y) fun z => ret (.nx (env.set i (some z)))
  | _ => stk
theorem ss_aug {i : Nat} {x : Str} (hN : Γ.N[i]? = some x) (hs : Γ.st x = true) (h : SE Γ e f) : SS Γ (.AugAssign (.Name x pos') .Add e pos) (evAug i f) := by
  obtain ⟨t, h1, h2⟩ := h
  refine ⟨tAug i t rAugD, fun X G => ?_, fun σ s env cs Dn ok eo h => ?_⟩
  · obtain ⟨k1, k2⟩ := G.sto x hs
    exact ps_aug G.nd (by rw [G.N]; exact hN) k1 (h1 X G.toGood) op_augD k2
  · unfold evAug at h
    cases e1 : env[i]? with
    | none => rw [e1] at h; exact h.elim
    | some od =>
      cases od with
      | none => rw [e1] at h; exact h.elim
      | some d =>
        rw [e1] at h
        obtain ⟨v, e2, a⟩ := eo.at_ i d e1
        refine ⟨v, e2, h2 σ s env cs _ ok eo ?_⟩
        have h := sat_bind.mp h
        refine h.imp (fun d2 cs2 h => ?_) fun _ _ z => z
        intro w s1 st1 ok1 a1
        refine augD_ok ok1 (a.step st1) a1 ((sat_bind.mp h).imp (fun z cs3 h => ?_) fun _ _ z => z.step st1)
        intro u s2 st2 ok2 a2
        exact h _ s2 (st1.trans st2) ok2 ((eo.step (st1.trans st2)).set i a2)
/-! e alone, return, pass -/
def evDrop (f : Env → M D) : Env → M Fl := fun env => mb (f env) fun _ => ret (.nx env)
theorem ss_expr (hc : notComp e = true) (h : SE Γ e f) : SS Γ (.Expr e pos) (evDrop f) := by
  obtain ⟨t, h1, h2⟩ := h
  refine ⟨tDrop t, fun X G => ps_expr (h1 X G.toGood) (swaps_no hc _ _ _), fun σ s env cs Dn ok eo h => ?_⟩
  refine h2 σ s env cs _ ok eo ((sat_bind.mp h).imp (fun d cs1 h => ?_) fun _ _ z => z)
  intro v s1 st1 ok1 a1
  exact h σ s1 st1 ok1 (eo.step st1)
theorem ss_doc {x : Str} {j : Nat} {p2 : Pos} : SS Γ (.Expr (.Constant (.str x) j p2) pos) (fun env => ret (.nx env)) :=
  ⟨tNext, fun X G => ps_doc, fun σ s env cs Dn ok eo h => h σ s (Step.refl s) ok eo⟩
theorem ss_pass : SS Γ (.Pass pos) (fun env => ret (.nx env)) := ⟨tNext, fun X G => ps_pass, fun σ s env cs Dn ok eo h => h σ s (Step.refl s) ok eo⟩
def evRet (f : Env → M D) : Env → M Fl := fun env => mb (f env) fun d => ret (.rt d)
theorem ss_ret (h : SE Γ e f) : SS Γ (.Return (some e) pos) (evRet f) := by
  obtain ⟨t, h1, h2⟩ := h
  refine ⟨tRet t, fun X G => ps_ret (h1 X G.toGood), fun σ s env cs Dn ok eo h => ?_⟩
  refine h2 σ s env cs _ ok eo ((sat_bind.mp h).imp (fun d cs1 h => ?_) fun _ _ z => z)
  intro v s1 st1 ok1 a1
  exact h v s1 st1 ok1 a1
theorem ss_retN : SS Γ (.Return none pos) (fun _ => ret (.rt .none)) := ⟨tRetN, fun X G => ps_retN, fun σ s env cs Dn ok eo h => h .non s (Step.refl s) ok .non⟩
/-! blocks -/
def evSeqS (F G : Env → M Fl) : Env → M Fl := fun env => mb (F env) fun fl => match fl with
  | .nx env' => G env'
  | .rt d => ret (.rt d)
theorem sss_nil : SSs Γ [] (fun env => ret (.nx env)) := ⟨tNext, fun X G => pss_nil, fun σ s env cs Dn ok eo h => h σ s (Step.refl s) ok eo⟩
theorem sss_cons {st : Stmt} {sts : List Stmt} (h : SS Γ st F) (hr : SSs Γ sts G') : SSs Γ (st :: sts) (evSeqS F G') := by
  obtain ⟨t, h1, h2⟩ := h
  obtain ⟨u, r1, r2⟩ := hr
  refine ⟨tSeq t u, fun X G => pss_cons (h1 X G) (r1 X G), fun σ s env cs Dn ok eo h => ?_⟩
  refine h2 σ s env cs _ ok eo ((sat_bind.mp h).imp (fun fl cs1 h => ?_) fun _ _ z => z)
  cases fl with
  | nx env' =>
    intro σ' s1 st1 ok1 eo1
    exact r2 σ' s1 env' cs1 Dn ok1 eo1 (h.imp (fun fl cs2 h => h.step st1) fun _ _ z => z.step st1)
  | rt d => exact h
def evIfS (c : Env → M D) (F G : Env → M Fl) : Env → M Fl := fun env => mb (c env) fun x => match x with
  | .bool true => F env
  | .bool false => G env
  | _ => stk
theorem ss_if (hc : ST Γ c f) (ha : SSs Γ body F) (hb : SSs Γ els G') : SS Γ (.If c body els pos) (evIfS f F G') := by
  obtain ⟨t, h1, h2⟩ := hc
  obtain ⟨u, r1, r2⟩ := ha
  obtain ⟨w, p1, p2⟩ := hb
  refine ⟨_, fun X G => ps_if (h1 X G.toGood) (r1 X G) (p1 X G), fun σ s env cs Dn ok eo h => ?_⟩
  refine h2 σ s env cs _ ok eo ((sat_bind.mp h).imp (fun d cs1 h => ?_) fun _ _ z => z)
  cases d with
  | bool k =>
    refine ⟨k, rfl, fun s1 st1 ok1 => ?_⟩
    cases k with
    | true => exact iteT (r2 σ s1 env cs1 Dn ok1 (eo.step st1) (h.imp (fun fl cs2 h => h.step st1) fun _ _ z => z.step st1))
    | false => exact iteF (p2 σ s1 env cs1 Dn ok1 (eo.step st1) (h.imp (fun fl cs2 h => h.step st1) fun _ _ z => z.step st1))
  | _ => exact h.elim
/-! for -/
def forL (tg : Tg) (body : Env → M Fl) : List D → Env → M Fl
  | [], env => ret (.nx env)
  | d :: ds, env => match setTg tg d env with
    | none => stk
    | some e1 => mb (body e1) fun fl => match fl with
      | .nx e2 => forL tg body ds e2
      | .rt d => ret (.rt d)
def evFor (tg : Tg) (itf : Env → M (List D)) (body : Env → M Fl) : Env → M Fl := fun env => mb (itf env) fun ds => forL tg body ds env
theorem ss_for {itf : Env → M (List D)} {t : Tg} (hi : SI Γ tg it itf) (hg : SG Γ tg t) (hb : SSs Γ body F) (hs : notSet it = true) : SS Γ (.For tg it body [] pos) (evFor t itf F) := by
  obtain ⟨wi, i1, i2⟩ := hi
  obtain ⟨g, g1, g2⟩ := hg
  obtain ⟨tb, b1, b2⟩ := hb
  refine ⟨tFor wi g tb, fun X G => ps_for G.own G.calm (i1 X G.toGood) (g1 X G.toGood) (b1 X G) (folded_of hs _), fun σ s env cs Dn ok eo h => ?_⟩
  refine i2 σ s env cs _ ok eo ((sat_bind.mp h).imp (fun ds cs1 h => ?_) fun _ _ z => z)
  intro J s1 st1 ok1 hw
  obtain ⟨G, Y, w, hz, hw⟩ := hw
  refine for_it w (fun i σ H => ∃ s2 cs2 env2, s2.H = H ∧ Step s1 s2 ∧ OkS Γ.K s2 cs2 ∧ EnvOk Γ s2 σ env2 ∧ Sat (forL t F (ds.drop i) env2 cs2) (BehS Γ s Dn) (BehX Γ s)) ?_ ?_ ?_ ?_
  · exact ⟨s1, cs1, env, rfl, Step.refl _, ok1, eo.step st1, by rw [List.drop_zero]; exact h⟩
  · rintro i σ H _ ⟨s2, cs2, env2, rfl, st2, ok2, _⟩
    exact (hw s2 cs2 st2.toH ok2).1
  · rintro i x σ H H' hlt ⟨s2, cs2, env2, rfl, st2, ok2, eo2, h⟩ y
    obtain ⟨s3, rfl, st3, ok3, d, hd, ad⟩ := (hw s2 cs2 st2.toH ok2).2 i x H' hlt y
    rw [List.drop_eq_getElem_cons hlt] at h
    have hdd : ds[i] = d := by rw [List.getElem?_eq_getElem hlt] at hd; exact Option.some.inj hd
    rw [hdd] at h
    unfold forL at h
    cases e1 : setTg t d env2 with
    | none => rw [e1] at h; exact h.elim
    | some env3 =>
      rw [e1] at h
      refine g2 σ s3 env2 env3 cs2 x d _ ok3 (eo2.step st3) ad e1 fun σ2 eo3 _ => ?_
      have st13 := st2.trans st3
      refine b2 σ2 s3 env3 cs2 _ ok3 eo3 ((sat_bind.mp h).imp (fun fl cs4 h => ?_) fun _ _ z => z.step (st1.trans st13))
      cases fl with
      | nx env4 =>
        intro σ4 s4 st4 ok4 eo4
        exact ⟨s4, cs4, env4, rfl, st13.trans st4, ok4, eo4, h⟩
      | rt d => exact BehS.step (fl := .rt d) h (st1.trans st13)
  · rintro σ H ⟨s2, cs2, env2, rfl, st2, ok2, eo2, h⟩
    rw [List.drop_length] at h
    exact h σ s2 (st1.trans st2) ok2 eo2
/-! while, with so many turns at most -/
def whL (c : Env → M D) (body : Env → M Fl) : Nat → Env → M Fl
  | 0, _ => stk
  | n + 1, env => mb (c env) fun x => match x with
    | .bool true => mb (body env) fun fl => match fl with
      | .nx e2 => whL c body n e2
      | .rt d => ret (.rt d)
    | .bool false => ret (.nx env)
    | _ => stk
theorem ss_while (n : Nat) (hc : ST Γ c f) (hb : SSs Γ body F) : SS Γ (.While c body [] pos) (whL f F n) := by
  obtain ⟨t, h1, h2⟩ := hc
  obtain ⟨tb, b1, b2⟩ := hb
  refine ⟨tWhile t tb, fun X G => ps_while G.own (h1 X G.toGood) (b1 X G), fun σ s env cs Dn ok eo h => ?_⟩
  refine ⟨fun m σ H => ∃ s2 cs2 env2, s2.H = H ∧ Step s s2 ∧ OkS Γ.K s2 cs2 ∧ EnvOk Γ s2 σ env2 ∧ Sat (whL f F m env2 cs2) (BehS Γ s Dn) (BehX Γ s), ⟨n, s, cs, env, rfl, Step.refl s, ok, eo, h⟩, ?_⟩
  rintro m σ H ⟨s2, cs2, env2, rfl, st2, ok2, eo2, h⟩
  cases m with
  | zero => exact h.elim
  | succ m =>
    unfold whL at h
    refine h2 σ s2 env2 cs2 _ ok2 eo2 ((sat_bind.mp h).imp (fun d cs3 h => ?_) fun _ _ z => z.step st2)
    cases d with
    | bool k =>
      refine ⟨k, rfl, fun s3 st3 ok3 => ?_⟩
      have st := st2.trans st3
      cases k with
      | true =>
        refine iteT ⟨fun σ' H' => ∃ s4 cs4 env4, s4.H = H' ∧ Step s s4 ∧ OkS Γ.K s4 cs4 ∧ EnvOk Γ s4 σ' env4 ∧ Sat (whL f F m env4 cs4) (BehS Γ s Dn) (BehX Γ s), fun σ' H' q => ⟨m, Nat.lt_succ_self m, q⟩, ?_⟩
        refine b2 σ s3 env2 cs3 _ ok3 (eo2.step st3) ((sat_bind.mp h).imp (fun fl cs4 h => ?_) fun _ _ z => z.step st)
        cases fl with
        | nx env4 =>
          intro σ4 s4 st4 ok4 eo4
          exact ⟨s4, cs4, env4, rfl, st.trans st4, ok4, eo4, h⟩
        | rt d => exact BehS.step (fl := .rt d) h st
      | false => exact iteF (h σ s3 st ok3 (eo2.step st3))
    | _ => exact h.elim
/-! a cell that is changed no more: its list -/
def frzE (i : Nat) : Env → M Env := fun env cs => match env[i]? with
  | some (some d) => (match cellOf d with
    | some n => (match cs[n]? with
      | some (some ds) => .ok (env.set i (some (.list ds))) (cs.set n none)
      | _ => .stuck)
    | none => .stuck)
  | _ => .stuck
def evFrz (i : Nat) (F : Env → M Fl) : Env → M Fl := fun env => mb (frzE i env) F
end
end KH

/-! KH: raise, cells frozen, defs. -/
namespace KH
open PySem PySem.Spec PyProof.Rows L2
def bmV : List Value := [.type "ValueError", .type "Exception", .type "BaseException", .type "object"]
structure ExcI (Γ : Ctx) (x : Str) (c : Nat) : Prop where
  ex : ∃ C, Γ.mg x = some (.ref C) ∧ Γ.xc c = some C ∧ PySem.W.keepIn Γ.K (.ref C) = true ∧ PySem.W.excIn Γ.K C bmV "ValueError.__new__" = true ∧ PySem.W.subIn Γ.K (.ref C) (.type "BaseException") = some true ∧ PySem.W.typeIn Γ.K (.ref C) = some (.type "type")
section
variable {Γ : Ctx} {pos p p2 p3 : Pos} {sts : List Stmt} {F : Env → M Fl}
def evRaise (c : Nat) : Env → M Fl := fun _ cs => .exc (.plain c) cs
theorem ss_raise {x m : Str} {c j : Nat} (I : ExcI Γ x c) (hg : Γ.sc.names.lookup x = some .globalImplicit) (hd : (x == ("__debug__" : Str)) = false) : SS Γ (.Raise (some (.Call (.Name x p) [.Constant (.str m) j p2] [] p3)) none pos) (evRaise c) := by
  obtain ⟨C, gm, gx, kp, ei, sb, ty⟩ := I.ex
  refine ⟨fun _ σ H => Γ.E (.ref C) none H, fun X G => ?_, fun σ s env cs Dn ok eo h => ?_⟩
  · exact ps_raise (W := fun cls d _ H => Γ.E cls d H) G.calm G.takes (pmk_own PySem.F.excBase_ValueError (by rw [G.K]; exact ei) (by rw [G.mg]; exact gm) (by rw [G.K]; exact kp) (raises_own (by rw [G.K]; exact sb) (by rw [G.K]; exact ty)) (by show X.env.scope.names.lookup x = _; rw [G.sc]; exact hg) hd)
  · exact h s (Step.refl s) ok (.ref C) none ⟨C, gx, rfl, rfl⟩
/-! freeze -/
theorem sss_frz {i : Nat} (h : SSs Γ sts F) : SSs Γ sts (evFrz i F) := by
  obtain ⟨t, h1, h2⟩ := h
  refine ⟨t, h1, fun σ s env cs Dn ok eo h => ?_⟩
  have h := sat_bind.mp h
  unfold frzE at h
  split at h
  · rename_i d e1
    split at h
    · rename_i n e2
      split at h
      · rename_i ds e3
        have := cellOf_eq e2
        subst this
        obtain ⟨v, e4, a⟩ := eo.at_ i _ e1
        obtain ⟨p, rfl, e5⟩ := cell_of a
        obtain ⟨k1, vs, k2, k3, k4⟩ := ok.cel n p ds e5 e3
        have hp : p ∈ s.ca := List.mem_of_getElem? e5
        have hs : Same s.Hs (upd s.Hs p (.lst vs)) := fun b u e => by
          have hb : b ≠ p := fun z => by rw [z, k1] at e; cases e
          rw [upd_ne hb]; exact e
        have st : Step s ⟨s.H, upd s.Hs p (.lst vs), s.ca⟩ := ⟨hs, ⟨[], by simp⟩, fun _ _ _ e => e, fun b o hb e n => by
          show upd s.Hs p (.lst vs) b = none
          rw [upd_ne fun z => hb (by rw [z]; exact hp)]; exact n, fun b hb => .inl hb⟩
        have ok' : OkS Γ.K ⟨s.H, upd s.Hs p (.lst vs), s.ca⟩ (cs.set n none) := by
          refine ⟨fun b u e => ?_, by rw [List.length_set]; exact ok.len, ok.nd, ok.live, fun m b xs q1 q2 => ?_⟩
          · have e : upd s.Hs p (.lst vs) b = some u := e
            by_cases hb : b = p
            · subst hb
              rw [upd_same] at e; cases e
              exact k2
            · rw [upd_ne hb] at e; exact ok.same b u e
          · have q1 : s.ca[m]? = some b := q1
            by_cases hm : n = m
            · subst hm
              rw [List.getElem?_set] at q2
              simp at q2
            · rw [List.getElem?_set_ne hm] at q2
              obtain ⟨r1, us, r2, r3, r4⟩ := ok.cel m b xs q1 q2
              have hb : b ≠ p := fun z => hm (nodup_at ok.nd e5 (z ▸ q1))
              exact ⟨by show upd s.Hs p (.lst vs) b = none; rw [upd_ne hb]; exact r1, us, r2, r3, r4.mono hs fun _ _ z => z⟩
        have eo' : EnvOk Γ ⟨s.H, upd s.Hs p (.lst vs), s.ca⟩ σ (env.set i (some (.list ds))) := by
          refine ⟨by rw [List.length_set]; exact eo.len, fun j d' e => ?_⟩
          by_cases hij : i = j
          · subst hij
            rw [List.getElem?_set_self (List.getElem?_eq_some_iff.mp e1).1] at e
            cases e
            exact ⟨_, e4, .lst upd_same k3 (k4.base.mono hs fun _ _ z => z)⟩
          · rw [List.getElem?_set_ne hij] at e
            obtain ⟨v', e', a'⟩ := eo.at_ j d' e
            exact ⟨v', e', a'.step st⟩
        have h : Sat (F (env.set i (some (.list ds))) (cs.set n none)) (BehS Γ s Dn) (BehX Γ s) := h
        exact h2 σ ⟨s.H, upd s.Hs p (.lst vs), s.ca⟩ (env.set i (some (.list ds))) (cs.set n none) Dn ok' eo' (h.imp (fun fl cs2 h => h.step st) fun _ _ z => z.step st)
      · exact h.elim
    · exact h.elim
  · exact h.elim
end
/-! ### a def's end: its cells are dropped, those that are handed back are lists from then on -/
mutual
def frzD (base : Nat) (cs : CS) : D → Option D
  | .list ds => (frzDs base cs ds).map .list
  | .tuple ds => (frzDs base cs ds).map .tuple
  | .dict [(.int (.ofNat n), .none)] => if n < base then some (cellD n) else match cs[n]? with
    | some (some ds) => some (.list ds)
    | _ => none
  | .dict [(.none, .int k)] => some (.dict [(.none, .int k)])
  | .none => some .none
  | .bool b => some (.bool b)
  | .int i => some (.int i)
  | .str x => some (.str x)
  | _ => none
def frzDs (base : Nat) (cs : CS) : List D → Option (List D)
  | [] => some []
  | d :: ds => match frzD base cs d with
    | some d' => (frzDs base cs ds).map (d' :: ·)
    | none => none
end
section
variable {Γ : Ctx}
mutual
theorem At.frz {s2 s3 : S3} {cs2 : CS} {base : Nat} (ok : OkS Γ.K s2 cs2) (hs : Same s2.Hs s3.Hs) (hc : ∀ (n : Nat) (a : Addr), n < base → s2.ca[n]? = some a → s3.ca[n]? = some a) (hf : ∀ (n : Nat) (a : Addr) (vs : List V) (ds : List D), ¬ n < base → s2.ca[n]? = some a → cs2[n]? = some (some ds) → s2.H a = some (.lst vs) → s3.Hs a = some (.lst vs)) :
    ∀ {d d' : D} {v : V}, At Γ.K Γ.fa s2.Hs s2.ca v d → frzD base cs2 d = some d' → At Γ.K Γ.fa s3.Hs s3.ca v d'
  | _, _, _, .non, e => by unfold frzD at e; cases e; exact .non
  | _, _, _, .bl b, e => by unfold frzD at e; cases e; exact .bl b
  | _, _, _, .int i, e => by unfold frzD at e; cases e; exact .int i
  | _, _, _, .str x, e => by unfold frzD at e; cases e; exact .str x
  | _, _, _, .lst h z r, e => by
    unfold frzD at e
    obtain ⟨ds', e1, rfl⟩ := Option.map_eq_some_iff.mp e
    exact .lst (hs _ _ h) z (AtAll.frz ok hs hc hf r e1)
  | _, _, _, .tup h z r, e => by
    unfold frzD at e
    obtain ⟨ds', e1, rfl⟩ := Option.map_eq_some_iff.mp e
    exact .tup (seqT hs h) z (AtAll.frz ok hs hc hf r e1)
  | _, d', _, .cell (n := n) h, e => by
    have e : (if n < base then some (cellD n) else match cs2[n]? with | some (some ds) => some (.list ds) | _ => none) = some d' := by
      unfold cellD at e
      unfold frzD at e
      exact e
    split at e
    · rename_i hn
      cases e
      exact .cell (hc n _ hn h)
    · rename_i hn
      split at e
      · rename_i ds e2
        cases e
        obtain ⟨k1, vs, k2, k3, k4⟩ := ok.cel n _ ds h e2
        exact .lst (hf n _ vs ds hn h e2 k2) k3 (k4.base.mono' hs (fun n a q => q) fun n a q => q) 
      · cases e
  | _, _, _, .fn h, e => by
    unfold fnD at e
    unfold frzD at e
    cases e
    exact .fn h
  | _, _, _, .scr h, e => by
    unfold scrD at e
    simp [frzD] at e
theorem AtAll.frz {s2 s3 : S3} {cs2 : CS} {base : Nat} (ok : OkS Γ.K s2 cs2) (hs : Same s2.Hs s3.Hs) (hc : ∀ (n : Nat) (a : Addr), n < base → s2.ca[n]? = some a → s3.ca[n]? = some a) (hf : ∀ (n : Nat) (a : Addr) (vs : List V) (ds : List D), ¬ n < base → s2.ca[n]? = some a → cs2[n]? = some (some ds) → s2.H a = some (.lst vs) → s3.Hs a = some (.lst vs)) :
    ∀ {ds ds' : List D} {vs : List V}, AtAll Γ.K Γ.fa s2.Hs s2.ca vs ds → frzDs base cs2 ds = some ds' → AtAll Γ.K Γ.fa s3.Hs s3.ca vs ds'
  | _, _, _, .nil, e => by unfold frzDs at e; cases e; exact .nil
  | _, _, _, .cons h t, e => by
    unfold frzDs at e
    split at e
    · rename_i d' e1
      obtain ⟨es, e2, rfl⟩ := Option.map_eq_some_iff.mp e
      exact .cons (At.frz ok hs hc hf h e1) (AtAll.frz ok hs hc hf t e2)
    · cases e
end
theorem trunc {s s2 : S3} {cs cs2 : CS} (ok0 : OkS Γ.K s cs) (st : Step s s2) (ok : OkS Γ.K s2 cs2) : ∃ s3 : S3, s3.H = s2.H ∧ Step s s3 ∧ OkS Γ.K s3 (cs2.take cs.length) ∧ ∀ v d d', At Γ.K Γ.fa s2.Hs s2.ca v d → frzD cs.length cs2 d = some d' → At Γ.K Γ.fa s3.Hs s3.ca v d' := by
  obtain ⟨l, el⟩ := st.ca
  have hl : s.ca.length = cs.length := ok0.len
  have htake : s2.ca.take cs.length = s.ca := by rw [el, ← hl, List.take_left]
  have hdrop : s2.ca.drop cs.length = l := by rw [el, ← hl, List.drop_left]
  have hnd := ok.nd
  rw [el] at hnd
  have dis := (List.nodup_append.mp hnd).2.2
  let Hs3 : Hp := fun b => match s2.Hs b with
    | some o => some o
    | none => if b ∈ l then s2.H b else none
  have h3s : Same s2.Hs Hs3 := fun b o e => by show (match s2.Hs b with | some o => some o | none => _) = _; rw [e]
  have h3n : ∀ b, b ∉ l → s2.Hs b = none → Hs3 b = none := fun b hb e => by show (match s2.Hs b with | some o => some o | none => if b ∈ l then s2.H b else none) = _; rw [e]; exact if_neg hb
  have h3l : ∀ b, b ∈ l → s2.Hs b = none → Hs3 b = s2.H b := fun b hb e => by show (match s2.Hs b with | some o => some o | none => if b ∈ l then s2.H b else none) = _; rw [e]; exact if_pos hb
  refine ⟨⟨s2.H, Hs3, s.ca⟩, rfl, ⟨st.hs.trans h3s, ⟨[], by simp⟩, st.keep, fun b o hb e n => ?_, fun b hb => .inl hb⟩, ⟨fun b u e => ?_, ?_, ok0.nd, fun a ha => ok.live a (by rw [el]; exact List.mem_append_left _ ha), fun n a ds q1 q2 => ?_⟩, fun v d d' a e => ?_⟩
  · have hb' : b ∉ l := fun z => by
      rcases st.newC b (by rw [el]; exact List.mem_append_right _ z) with q | q
      · exact hb q
      · rw [q] at e; cases e
    exact h3n b hb' (st.newS b o hb e n)
  · have e : Hs3 b = some u := e
    cases e2 : s2.Hs b with
    | some o =>
      have := h3s b o e2
      rw [e] at this
      cases this
      exact ok.same b u e2
    | none =>
      by_cases hb : b ∈ l
      · rw [h3l b hb e2] at e; exact e
      · rw [h3n b hb e2] at e; cases e
  · show s.ca.length = (cs2.take cs.length).length
    rw [List.length_take, ← ok.len, el, List.length_append, hl]
    omega
  · have q1 : s.ca[n]? = some a := q1
    have hn : n < s.ca.length := (List.getElem?_eq_some_iff.mp q1).1
    have q1' : s2.ca[n]? = some a := by rw [el, List.getElem?_append_left hn]; exact q1
    have q2' : cs2[n]? = some (some ds) := by
      rw [List.getElem?_take] at q2
      rw [if_pos (by omega)] at q2
      exact q2
    obtain ⟨k1, vs, k2, k3, k4⟩ := ok.cel n a ds q1' q2'
    have ha : a ∉ l := fun z => dis a (List.mem_of_getElem? q1) a z rfl
    exact ⟨h3n a ha k1, vs, k2, k3, k4.mono h3s fun _ _ z => z⟩
  · refine At.frz (s3 := ⟨s2.H, Hs3, s.ca⟩) ok h3s (fun n b hn q => ?_) (fun n b vs ds hn q q2 q3 => ?_) a e
    · show s.ca[n]? = some b
      rw [el, List.getElem?_append_left (by omega)] at q
      exact q
    · have hb : b ∈ l := by
        rw [el, List.getElem?_append_right (by omega)] at q
        exact List.mem_of_getElem? q
      obtain ⟨k1, _⟩ := ok.cel n b ds q q2
      show Hs3 b = _
      rw [h3l b hb k1]; exact q3
end
end KH

/-! KH: list(range(..)); the defs' end. -/
namespace KH
open PySem PySem.Spec PyProof.Rows L2
section
variable {Γ : Ctx} {pos p p2 : Pos} {a b e : Expr} {f g : Env → M D} {fl : Env → M (List D)}
/-! list(range(..)) -/
def rangeV (lo hi : D) : M (List D) := match lo, hi with
  | .int i, .int j => if (-1000000 ≤ i ∧ i ≤ 1000000) ∧ -1000000 ≤ j ∧ j ≤ 1000000 then ret (rangeL i (j - i).toNat) else stk
  | _, _ => stk
def evLrg1 (f : Env → M D) : Env → M (List D) := fun env => mb (f env) fun j => rangeV (.int 0) j
def evLrg2 (f g : Env → M D) : Env → M (List D) := fun env => mb (f env) fun i => mb (g env) fun j => rangeV i j
theorem rgV_all (lo hi : Int) {Hs : Hp} {ca : List Addr} : AtAll Γ.K Γ.fa Hs ca (rgV lo hi) (rangeL lo (hi - lo).toNat) := by
  unfold rgV rangeL
  have : ∀ l : List Nat, AtAll Γ.K Γ.fa Hs ca (l.map fun i => V.int (lo + (i : Nat))) (l.map fun i => PyData.int (lo + (i : Nat))) := by
    intro l
    induction l with
    | nil => exact .nil
    | cons n l ih => exact .cons (.int _) ih
  exact this _
theorem rangeV_fin {s s1 : S3} {cs1 : CS} {i j : Int} {Q : VK} (st : Step s s1) (ok : OkS Γ.K s1 cs1) (h : Sat (rangeV (.int i) (.int j) cs1) (BehF Γ s Q) (BehX Γ s)) : RgOk i j ∧ ∀ q, s1.H q = none → Q (.ref q) (upd s1.H q (.lst (rgV i j))) := by
  unfold rangeV at h
  simp only at h
  split at h
  · rename_i hz
    refine ⟨⟨by omega, by omega, by omega, by omega, by omega⟩, fun q hq => ?_⟩
    obtain ⟨q1, q2, q3⟩ := raw_new st ok hq (by rw [rgV_length, line_eq]; omega) (rgV_all i j)
    exact h q _ _ q1 q2 q3
  · exact h.elim
theorem sf_lrg1 (hl : Γ.sc.names.lookup ("list" : Str) = some .globalImplicit) (hlm : Γ.mg ("list" : Str) = none) (hg : Γ.sc.names.lookup ("range" : Str) = some .globalImplicit) (hm : Γ.mg ("range" : Str) = none) (hn : noStar a = true) (ha : SE Γ a f) {pos2 : Pos} :
    SF Γ (.Call (.Name "list" p) [.Call (.Name "range" p2) [a] [] pos2] [] pos) (evLrg1 f) := by
  obtain ⟨t, h1, h2⟩ := ha
  refine ⟨tLstRg (tRg1 t), fun X G => ?_, fun σ s env cs Q ok eo h => ?_⟩
  · exact pe_listRg G.calm (by show X.env.scope.names.lookup _ = _; rw [G.sc]; exact hl) (by rw [G.mg]; exact hlm) (prg_1 (by show X.env.scope.names.lookup _ = _; rw [G.sc]; exact hg) (by rw [G.mg]; exact hm) (h1 X G) (star_of hn))
  · refine h2 σ s env cs _ ok eo ((sat_bind.mp h).imp (fun d cs1 h => ?_) fun _ _ z => z)
    intro v s1 st1 ok1 a1
    cases d with
    | int j =>
      cases a1
      exact ⟨j, rfl, rangeV_fin st1 ok1 h⟩
    | _ => exact h.elim
theorem sf_lrg2 (hl : Γ.sc.names.lookup ("list" : Str) = some .globalImplicit) (hlm : Γ.mg ("list" : Str) = none) (hg : Γ.sc.names.lookup ("range" : Str) = some .globalImplicit) (hm : Γ.mg ("range" : Str) = none) (hn : noStar a = true) (hn2 : noStar b = true) (ha : SE Γ a f) (hb : SE Γ b g) {pos2 : Pos} :
    SF Γ (.Call (.Name "list" p) [.Call (.Name "range" p2) [a, b] [] pos2] [] pos) (evLrg2 f g) := by
  obtain ⟨t, h1, h2⟩ := ha
  obtain ⟨u, r1, r2⟩ := hb
  refine ⟨tLstRg (tRg2 t u), fun X G => ?_, fun σ s env cs Q ok eo h => ?_⟩
  · exact pe_listRg G.calm (by show X.env.scope.names.lookup _ = _; rw [G.sc]; exact hl) (by rw [G.mg]; exact hlm) (prg_2 (by show X.env.scope.names.lookup _ = _; rw [G.sc]; exact hg) (by rw [G.mg]; exact hm) (h1 X G) (r1 X G) (na := star_of hn) (nb := star_of hn2) (hp := no_splice _ (by rw [List.all_cons, hn2]; rfl)))
  · refine h2 σ s env cs _ ok eo ((sat_bind.mp h).imp (fun d cs1 h => ?_) fun _ _ z => z)
    intro v s1 st1 ok1 a1
    refine r2 σ s1 env cs1 _ ok1 (eo.step st1) ((sat_bind.mp h).imp (fun d2 cs2 h => ?_) fun _ _ z => z.step st1)
    intro v2 s2 st2 ok2 a2
    cases d with
    | int i =>
      cases d2 with
      | int j =>
        cases a1; cases a2
        exact ⟨i, j, rfl, rfl, rangeV_fin (st1.trans st2) ok2 h⟩
      | _ => exact h.elim
    | _ => cases d2 <;> exact h.elim
/-! list * int, list(x) as new lists -/
def evRepF (f g : Env → M D) : Env → M (List D) := fun env => mb (f env) fun d => mb (g env) fun e => fun cs => match e, lstOf d cs with
  | .int k, some xs => if -1000000 ≤ k ∧ k ≤ 1000000 ∧ xs.length * k.toNat ≤ 16777216 then .ok (List.replicate k.toNat xs).flatten cs else .stuck
  | _, _ => .stuck
theorem sf_rep (ha : SE Γ a f) (hb : SE Γ b g) : SF Γ (.BinOp a .Mult b pos) (evRepF f g) := by
  obtain ⟨t, h1, h2⟩ := ha
  obtain ⟨u, r1, r2⟩ := hb
  refine ⟨tOp rRep t u, fun X G => pe_op op_rep (h1 X G) (r1 X G), fun σ s env cs Q ok eo h => ?_⟩
  refine h2 σ s env cs _ ok eo ((sat_bind.mp h).imp (fun d cs1 h => ?_) fun _ _ z => z)
  intro v s1 st1 ok1 a1
  refine r2 σ s1 env cs1 _ ok1 (eo.step st1) ((sat_bind.mp h).imp (fun d2 cs2 h => ?_) fun _ _ z => z.step st1)
  intro v2 s2 st2 ok2 a2
  split at h
  · rename_i k xs e1
    split at h
    · rename_i hz
      cases a2
      obtain ⟨p, vs, rfl, q1, hz1, a3⟩ := lst_of ok2 (a1.step st2) e1
      have hb : vs.length * k.toNat ≤ sizeLine := by rw [a3.len, line_eq]; exact hz.2.2
      refine ⟨p, k, vs, rfl, rfl, q1, by omega, by omega, hb, fun q hq => ?_⟩
      obtain ⟨q1, q2, q3⟩ := raw_new (st1.trans st2) ok2 hq (by rw [len_rep]; exact hb) (a3.rep k.toNat)
      exact h q _ _ q1 q2 q3
    · exact h.elim
  · exact h.elim
def evListF (f : Env → M D) : Env → M (List D) := fun env => mb (f env) fun d => fun cs => match seqOf d cs with
  | some xs => .ok xs cs
  | none => .stuck
theorem sf_list (hg : Γ.sc.names.lookup ("list" : Str) = some .globalImplicit) (hm : Γ.mg ("list" : Str) = none) (hn : noStar a = true) (ha : SE Γ a f) : SF Γ (.Call (.Name "list" p) [a] [] pos) (evListF f) := by
  obtain ⟨t, h1, h2⟩ := ha
  refine ⟨tCB (rListD' Γ.K) (tCons t tNil), fun X G => ?_, fun σ s env cs Q ok eo h => ?_⟩
  · exact pe_callTy (cr_listD X G) (by show X.env.scope.names.lookup _ = _; rw [G.sc]; exact hg) (by rw [G.mg]; exact hm) (by decide +kernel) (pa_cons (h1 X G) pa_nil (star_of hn)) (he := star_of hn)
  · refine h2 σ s env cs _ ok eo ((sat_bind.mp h).imp (fun d cs1 h => ?_) fun _ _ z => z)
    intro v s1 st1 ok1 a1
    split at h
    · rename_i xs e1
      obtain ⟨p, vs, rfl, q1, hz1, a3⟩ := seq_of ok1 a1 e1
      refine ⟨p, vs, rfl, seq_or q1, fun q hq => ?_⟩
      obtain ⟨q1, q2, q3⟩ := raw_new st1 ok1 hq hz1 a3
      exact h q _ _ q1 q2 q3
    · exact h.elim
end
/-! ### a def -/
def stoB (sc : Scope) (x : Str) : Bool := (sc.names.lookup x == some .local) || (sc.names.lookup x == some .cell)
def Ctx.def (Γ : Ctx) (N : List Str) (sc : Scope) (k : Nat) (E : XK) : Ctx := { Γ with N := N, sc := sc, st := stoB sc, k := k, E := E }
def runDef (n np : Nat) (keep : Bool) (B : Env → M Fl) (ds : List D) : M D := fun cs =>
  if ds.length = np then
    match B (ds.map some ++ List.replicate (n - np) none) cs with
    | .ok fl cs2 => (match fl with
      | .nx _ => .ok .none (cs2.take cs.length)
      | .rt d => if keep then .ok d cs2 else match frzD cs.length cs2 d with
        | some d' => .ok d' (cs2.take cs.length)
        | none => .stuck)
    | .exc e cs2 => .exc e (cs2.take cs.length)
    | .stuck => .stuck
  else .stuck
section
variable {Γ : Ctx}
theorem env_start {s : S3} {N : List Str} {vs : List V} {ds : List D} (a : AtAll Γ.K Γ.fa s.Hs s.ca vs ds) : EnvOk Γ s (L2.start N vs) (ds.map some ++ List.replicate (N.length - ds.length) none) := by
  refine ⟨?_, fun i d e => ?_⟩
  · unfold L2.start
    simp [a.len]
  · by_cases hi : i < ds.length
    · rw [List.getElem?_append_left (by rw [List.length_map]; exact hi), List.getElem?_map, List.getElem?_eq_getElem hi] at e
      cases e
      obtain ⟨v, e1, a1⟩ := a.get (List.getElem?_eq_getElem hi)
      refine ⟨v, ?_, a1⟩
      unfold L2.start
      have hv : i < vs.length := by rw [a.len]; exact hi
      rw [List.getElem?_append_left (by rw [List.length_map]; exact hv), List.getElem?_map, e1]
      rfl
    · rw [List.getElem?_append_right (by rw [List.length_map]; omega), List.getElem?_replicate] at e
      split at e <;> cases e
theorem fn_sound {x qual : Str} {st : Stmt} {f : Addr} {fd : FuncData} {N ps : List Str} {k : Nat} {keep : Bool} {B : Env → M Fl} (F : Fun Γ.K x qual st f fd) (S : FnScope N ps (defScope st)) (h : ∀ E, SSs (Γ.def N (defScope st) k E) (defBody st) B) :
    FnOk Γ.P Γ.w Γ.K Γ.mg Γ.base (L2.CX Γ.P Γ.w) (k + 1) f fd ps (spD Γ ps.length (runDef N.length ps.length keep B)) := by
  refine F.okX S (fun vs H Q E q => ?_) fun cdv A outer s0 H vs Q E hr q => ?_
  · obtain ⟨s, cs, ds, _, hl, _⟩ := q
    exact hl
  · obtain ⟨s, cs, ds, rfl, hl, ok, a, q⟩ := q
    obtain ⟨t, h1, h2⟩ := h E
    have G : GoodS (Γ.def N (defScope st) k E) (cxOf (L2.CX Γ.P Γ.w) Γ.P Γ.w Γ.K Γ.mg Γ.base N qual (defScope st) f cdv A outer s0 s.H E) := by
      refine { prog := rfl, w := rfl, K := rfl, mg := rfl, base := rfl, N := rfl, sc := rfl, calm := rfl, room := hr, nd := S.nd, takes := takes_of rfl rfl rfl rfl, sto := fun x hx => ?_, own := passes_of rfl, kind := S.kind }
      have hx : ((defScope st).names.lookup x == some .local || (defScope st).names.lookup x == some .cell) = true := hx
      rw [Bool.or_eq_true] at hx
      exact ⟨hx.imp (fun z => eq_of_beq z) fun z => eq_of_beq z, .inl rfl⟩
    refine ⟨t, h1 _ G, ?_⟩
    have hd : ds.length = ps.length := by rw [← a.len]; exact hl
    unfold runDef at q
    rw [if_pos hd] at q
    have e0 : (ds.map some ++ List.replicate (N.length - ps.length) none : Env) = ds.map some ++ List.replicate (N.length - ds.length) none := by rw [hd]
    rw [e0] at q
    have eo : EnvOk (Γ.def N (defScope st) k E) s (L2.start N vs) (ds.map some ++ List.replicate (N.length - ds.length) none) := ⟨(env_start a).len, (env_start a).at_⟩
    refine h2 (L2.start N vs) s _ cs _ ok eo ?_
    cases hB : B (ds.map some ++ List.replicate (N.length - ds.length) none) cs with
    | stuck => rw [hB] at q; exact q.elim
    | exc e cs2 =>
      rw [hB] at q
      intro s2 st2 ok2
      obtain ⟨s3, e3, st3, ok3, _⟩ := trunc ok st2 ok2
      have q : BehX { Γ with E := E } s e (cs2.take cs.length) := q
      have := q s3 st3 ok3
      rw [e3] at this
      exact this
    | ok fl cs2 =>
      rw [hB] at q
      cases fl with
      | nx env' =>
        intro σ' s2 st2 ok2 _
        obtain ⟨s3, e3, st3, ok3, _⟩ := trunc ok st2 ok2
        have q : Beh Γ s Q .none (cs2.take cs.length) := q
        have := q .non s3 st3 ok3 .non
        rw [e3] at this
        exact this
      | rt d =>
        intro v s2 st2 ok2 a2
        cases keep with
        | true =>
          have q : Beh Γ s Q d cs2 := q
          exact q v s2 st2 ok2 a2
        | false =>
          obtain ⟨s3, e3, st3, ok3, k3⟩ := trunc ok st2 ok2
          have q : Sat (match frzD cs.length cs2 d with | some d' => .ok d' (cs2.take cs.length) | none => .stuck) (Beh Γ s Q) (BehX { Γ with E := E } s) := q
          split at q
          · rename_i d' e1
            have q : Beh Γ s Q d' (cs2.take cs.length) := q
            have := q v s3 st3 ok3 (k3 v d d' a2 e1)
            rw [e3] at this
            exact this
          · exact q.elim
end
end KH

/-! KH: str, sets of ints, index. -/
namespace KH
open PySem PySem.Spec PyProof.Rows L2
/-! ### str -/
def strD (ds : List D) : M D := match ds with
  | [.str z] => ret (.str z)
  | [.int i] => if i.natAbs.log2 < 1920 then ret (.str (toString i)) else stk
  | _ => stk
def rStrD : List V → Hp → VK → Prop := fun xs H Q => (∃ i, xs = [.int i] ∧ i.natAbs.log2 < 1920 ∧ Q (.str (toString i)) H) ∨ ∃ a, xs = [.str a] ∧ Q (.str a) H
section
variable {Γ : Ctx}
theorem cr_strD (X : Cx) (G : Good Γ X) : CallR X (.type "str") rStrD := CallR.or call_str_int SkE.call_str_str
theorem strD_ok : CallD Γ rStrD strD := by
  intro s cs xs ds Q ok a h
  unfold strD at h
  split at h
  · cases a with
    | cons a t =>
      cases a; cases t
      exact .inr ⟨_, rfl, Beh.here h ok (.str _)⟩
  · cases a with
    | cons a t =>
      cases a; cases t
      split at h
      · rename_i hz
        exact .inl ⟨_, rfl, hz, Beh.here h ok (.str _)⟩
      · exact h.elim
  · exact h.elim
end
/-! ### sets of ints -/
def insU (x : Int) : List Int → List Int
  | [] => [x]
  | y :: l => if x < y then x :: y :: l else if x = y then y :: l else y :: insU x l
def ssetL : List Int → List Int
  | [] => []
  | x :: l => insU x (ssetL l)
theorem insU_mem {x z : Int} : ∀ {l : List Int}, z ∈ insU x l ↔ z = x ∨ z ∈ l
  | [] => by simp [insU]
  | y :: l => by
    unfold insU
    split
    · simp
    · split
      · rename_i h; subst h; simp
      · rw [List.mem_cons, insU_mem (l := l), List.mem_cons]
        exact ⟨fun h => by rcases h with h | h | h <;> simp [h], fun h => by rcases h with h | h | h <;> simp [h]⟩
theorem ssetL_mem {z : Int} : ∀ {l : List Int}, z ∈ ssetL l ↔ z ∈ l
  | [] => by simp [ssetL]
  | x :: l => by unfold ssetL; rw [insU_mem, ssetL_mem (l := l), List.mem_cons]
theorem insU_lt {x : Int} : ∀ {l : List Int}, l.Pairwise (· < ·) → (insU x l).Pairwise (· < ·)
  | [], _ => by simp [insU]
  | y :: l, h => by
    obtain ⟨h1, h2⟩ := List.pairwise_cons.mp h
    unfold insU
    split
    · rename_i hx
      refine List.pairwise_cons.mpr ⟨fun z hz => ?_, h⟩
      rcases List.mem_cons.mp hz with rfl | hz
      · exact hx
      · exact Int.lt_trans hx (h1 z hz)
    · split
      · exact h
      · refine List.pairwise_cons.mpr ⟨fun z hz => ?_, insU_lt h2⟩
        rcases insU_mem.mp hz with rfl | hz
        · omega
        · exact h1 z hz
theorem ssetL_lt : ∀ (l : List Int), (ssetL l).Pairwise (· < ·)
  | [] => .nil
  | x :: l => insU_lt (ssetL_lt l)
theorem insU_le (x : Int) : ∀ l : List Int, (insU x l).length ≤ l.length + 1
  | [] => Nat.le_refl _
  | y :: l => by
    unfold insU
    split
    · exact Nat.le_refl _
    · split
      · exact Nat.le_succ _
      · exact Nat.succ_le_succ (insU_le x l)
theorem ssetL_le : ∀ l : List Int, (ssetL l).length ≤ l.length
  | [] => Nat.le_refl _
  | x :: l => Nat.le_trans (insU_le x _) (Nat.succ_le_succ (ssetL_le l))
theorem rises_one : ∀ {a b : List Int}, a.Pairwise (· < ·) → b.Pairwise (· < ·) → (∀ z, z ∈ a ↔ z ∈ b) → a = b
  | [], [], _, _, _ => rfl
  | [], y :: b, _, _, h => absurd ((h y).mpr List.mem_cons_self) (by simp)
  | x :: a, [], _, _, h => absurd ((h x).mp List.mem_cons_self) (by simp)
  | x :: a, y :: b, ha, hb, h => by
    obtain ⟨a1, a2⟩ := List.pairwise_cons.mp ha
    obtain ⟨b1, b2⟩ := List.pairwise_cons.mp hb
    have e : x = y := by
      have p := (h x).mp List.mem_cons_self
      have q := (h y).mpr List.mem_cons_self
      rcases List.mem_cons.mp p with p | p
      · exact p
      · rcases List.mem_cons.mp q with q | q
        · exact q.symm
        · have := a1 y q
          have := b1 x p
          omega
    subst e
    rw [rises_one a2 b2 fun z => ?_]
    constructor
    · intro hz
      have := a1 z hz
      rcases List.mem_cons.mp ((h z).mp (List.mem_cons_of_mem _ hz)) with p | p
      · omega
      · exact p
    · intro hz
      have := b1 z hz
      rcases List.mem_cons.mp ((h z).mpr (List.mem_cons_of_mem _ hz)) with p | p
      · omega
      · exact p
theorem nodup_len {a b : List Int} (ha : a.Nodup) (hb : b.Nodup) (h : ∀ z, z ∈ a ↔ z ∈ b) : a.length = b.length :=
  (List.perm_ext_iff_of_nodup ha hb |>.mpr h).length_eq
theorem lt_nodup {a : List Int} (h : a.Pairwise (· < ·)) : a.Nodup := h.imp fun h => by omega
abbrev sO (w : World) : Obj := { cls := .type "set", dict := none, data := .set #[] 0 (.fresh 0 0 (!w.params.followText "set-order")) }
section
variable {P : Program} {w : World} {A : Around} {E : Value → Shared → Prop} {s : Shared}
theorem call_set_lstI {l : Addr} {items : Array Value} (ns : List Int) {Q : Value → Shared → Prop} (hh : A.handled = none) (hl : s.heap.IsList l items) (hit : IntsAre items.toList ns) (hb : ns.length + 1 < scanBound)
    (h : ∀ (h' : Heap) (tk c : Nat), SetR w h' s.heap.objs.size (fun j => decide (j ∈ ns)) c → c ≤ ns.length → (∀ b o, s.heap.get? b = some o → h'.get? b = some o) → Q (.ref s.heap.objs.size) { s with heap := h', toks := tk }) :
    wpAny (model P w) A (call (.type "set") [.ref l]) Q E s := by
  have hisz : items.size = ns.length := by
    have q := IntsAre.length hit
    rw [Array.length_toList] at q
    exact q
  obtain ⟨c, tl, hmro⟩ := F.called_set.mro
  have hmade := F.called_set.made
  have hsub := F.called_set.sub
  refine wpAny_call (codeAny_of_tree ?_)
  show wpAny _ _ (callAny (.type "set") _) _ _ _
  refine wpAny_pure ⟨Code.quiet_builtin _ (by decide +kernel), codeAny_builtin F.entry_type_call ?_⟩
  rw [Around.under_plain (weight_type_call_type "set" [.ref l] []) rfl]
  have h1 := F.called_set.notType
  have h2 := F.called_set.canCreate
  have hct := F.typeCall_set_1 (.ref l)
  repeat (any_goals (first | assumption | wp_step))

  refine codeAny_mono (code_set_led1 (.ref l) (E := E) (Q₁ := fun obj s₁ => obj = .ref s.heap.objs.size ∧ s₁ = { s with heap := s.heap.push (sO w) }) ⟨rfl, rfl⟩) fun r s₁ hr => ?_
  cases r with
  | error e => exact hr
  | ok fl =>
    cases fl with
    | ret obj =>
      obtain ⟨rfl, rfl⟩ := hr
      have hS : (s.heap.push (sO w)).get? s.heap.objs.size = some (sO w) := Heap.get?_push_size _ rfl
      have hT : Shared.TypeIs { s with heap := s.heap.push (sO w) } (.ref s.heap.objs.size) "set" := ⟨_, hS, rfl⟩
      have hli := F.called_set.init.lookup
      have hbi := F.called_set.init.bind (.ref s.heap.objs.size)
      repeat (any_goals (first | assumption | wp_step))

      refine codeAny_mono (codeAny_call_builtin (R := wants (fun r s₂ => r = .none ∧ ∃ h' tk c, s₂ = { s with heap := h', toks := tk } ∧ SetR w h' s.heap.objs.size (fun j => decide (j ∈ ns)) c ∧ c ≤ ns.length ∧
          (∀ b o, s.heap.get? b = some o → h'.get? b = some o)) E) F.called_set.init.plain F.entry_set_init (check_set_init_1 hT ?_)) fun r₂ s₂ hr₂ => ?_
      · obtain ⟨ol, hol, hcl, nl, hdl⟩ := hl
        obtain ⟨ocls, odict, odata, oslots⟩ := ol
        simp only at hcl hdl
        subst hcl; subst hdl
        have hol' : (s.heap.push (sO w)).get? l = some { cls := .type "list", dict := odict, data := .seq items nl, slots := oslots } := Heap.get?_push_of_some _ hol
        have hsls := F.sub_list_set
        have hslf := F.sub_list_frozenset
        have hne : (Value.type "list" == Value.type "dict") = false := by decide
        have hl1 : (s.heap.push (sO w)).IsList l items := ⟨_, hol', rfl, nl, rfl⟩
        unfold Builtin.«set.__init__» noKeywords Builtin.Frozenset.updateFrom
        generalize hPI : pyIter = PI
        wp_walk
        subst hPI

        refine wpAny_pyIter_list hl1 ?_
        refine wpAny_bind (wpAny_runValue ?_)
        have hlS : l < s.heap.objs.size := Heap.lt_size hol
        have hh3 : A.in1.in1.in1.handled = none := by simp [hh]
        have hz1 : (s.heap.push (sO w)).objs.size = s.heap.objs.size + 1 := Heap.size_push ..
        have hneI : l ≠ (s.heap.push (sO w)).objs.size := by
          rw [Heap.size_push]; exact Nat.ne_of_lt (Nat.lt_succ_of_lt hlS)
        have hSf : s.heap.objs.size ∉ [(s.heap.push (sO w)).objs.size, l] := by
          rw [Heap.size_push]; simp only [List.mem_cons, List.mem_singleton, List.not_mem_nil, or_false, not_or]
          exact ⟨Nat.ne_of_lt (Nat.lt_succ_self _), Nat.ne_of_gt hlS⟩
        have hval : ∀ (i : Nat) (v : Value), items[i]? = some v → ∃ k t, ns[i]? = some k ∧ v = .int k t := fun i v hv => by
          have hi : i < ns.length := by rw [← hisz]; exact (Array.getElem?_eq_some_iff.mp hv).1
          obtain ⟨t, e⟩ := PyProof.Rows.IntsAre.int_at hit i v (by rw [Array.getElem?_toList]; exact hv)
          refine ⟨ns[i], t, List.getElem?_eq_getElem hi, ?_⟩
          rw [e, List.getD_eq_getElem?_getD, List.getElem?_eq_getElem hi] <;> rfl
        refine set_update_ints ((Walks.list hh3 _ l hneI items).toS) s.heap.objs.size
          hSf ns hisz hb hval (items.size - 0) 0 _ (by omega) (Nat.zero_le _)
          ⟨⟨_, Heap.get?_push_size _ rfl, rfl, rfl⟩, (hl1.push _)⟩ ?hS0 ?hR
        case hS0 =>
          have hget : ((s.heap.push (sO w)).push { cls := .type "list_iterator", data := .fields #[.ref l, .int 0 0] }).get? s.heap.objs.size
              = some (sO w) := Heap.get?_push_of_some _ hS
          exact ⟨0, Nat.le_refl 0, setR_new_at hget⟩
        case hR =>
          intro s' c' hm hc' hS'
          obtain ⟨h', g2, d', tk', os'⟩ := s'
          have eg : g2 = s.gens := hm.gens
          have ed : d' = s.drawn := hm.drawn
          have eo : os' = s.os := hm.os
          subst eg; subst ed; subst eo
          show wpAny _ _ _ _ _ _
          refine wpAny_pure ?_
          show wpAny _ _ (PySem.ret Value.none) _ _ _
          rw [hisz] at hc'
          refine wpAny_pure ⟨rfl, h', tk', c', rfl, hS', hc', fun b o e => ?_⟩
          have hb0 : b < s.heap.objs.size := Heap.lt_size e
          have hb1 : b ≠ s.heap.objs.size := Nat.ne_of_lt hb0
          have hb2 : b ≠ (s.heap.push (sO w)).objs.size := by
            rw [Heap.size_push]; exact Nat.ne_of_lt (Nat.lt_succ_of_lt hb0)
          exact hm.heap b o (by simp only [List.mem_cons, List.mem_singleton, List.not_mem_nil, or_false, not_or]; exact ⟨hb1, hb2⟩) (Heap.get?_push_of_some _ (Heap.get?_push_of_some _ e))

      · cases r₂ with
        | error e => exact hr₂
        | ok fl₂ =>
          cases fl₂ with
          | ret r =>
            obtain ⟨rfl, h', tk, c', rfl, hS', hc', hk'⟩ := hr₂
            repeat (any_goals (first | assumption | wp_step))
            exact h _ _ _ hS' hc' hk'
          | _ => exact hr₂.elim
    | _ => exact hr.elim
end
section
variable {X : Cx}
theorem setR_count {w : World} {h : Heap} {a : Addr} {ns : List Int} {n : Nat} (R : SetR w h a (fun j => decide (j ∈ ns)) n) : n = (ssetL ns).length := by
  obtain ⟨o, es, ep, t, ho, hex, hd, g, nd, hm, hb, hf, hn, hr, hl⟩ := R
  rw [← nodup_len nd (lt_nodup (ssetL_lt ns)) fun z => by rw [← hm z, ssetL_mem]; simp, List.length_map, Array.length_toList, hn]
def rSetI (K : PySem.W.Frag) (w : World) : List V → Hp → VK → Prop := fun xs H Q => ∃ (l : Addr) (ns : List Int), xs = [.ref l] ∧ (SqL K H l (ns.map V.int) ∨ SqT K H l (ns.map V.int)) ∧ ns.length + 1 < scanBound ∧
  ∀ p, H p = none → Q (.ref p) (upd H p (SetO w p (fun j => decide (j ∈ ns)) (ssetL ns).length))
theorem cr_setI (hc : X.calm = true) : CallR X (.type "set") (rSetI X.K X.w) := by
  intro pins s σ H xs us Q I r h
  obtain ⟨l, ns, rfl, hq, hb, q⟩ := h
  rw [Vals.ref1 r]
  have fin : ∀ (h' : Heap) (tk c : Nat), SetR X.w h' s.heap.objs.size (fun j => decide (j ∈ ns)) c → (∀ b o, s.heap.get? b = some o → h'.get? b = some o) → EP X pins σ Q (.ref s.heap.objs.size) { s with heap := h', toks := tk } := fun h' tk c R k => by
    rw [setR_count R] at R
    exact ⟨.ref _, upd H s.heap.objs.size (SetO X.w s.heap.objs.size (fun j => decide (j ∈ ns)) (ssetL ns).length), I.laid k (Nat.le_refl _) (setO_new R), rfl, q _ (I.hok.fresh (Nat.le_refl _))⟩
  rcases hq with hq | hq
  · obtain ⟨its, rv, pl, hz⟩ := I.list hq
    exact call_set_lstI ns (I.ok.hd hc) pl.isList (by simpa using rv.ints) hb fun h' tk c R _ k => fin h' tk c R k
  · obtain ⟨its, rv, pl, hz⟩ := I.tuple hq
    exact call_set_tupI ns (I.ok.hd hc) pl (by simpa using rv.ints) hb fun h' tk c R _ k => fin h' tk c R k
def rLenSetI (w : World) : List V → Hp → VK → Prop := fun vs H Q => ∃ (a : Addr) (S : Int → Bool) (n : Nat), vs = [V.ref a] ∧ H a = some (SetO w a S n) ∧ Q (.int n) H
theorem cr_lenSetI : CallR X (.builtin "len") (rLenSetI X.w) := by
  intro pins s σ H vs us Q I r h
  obtain ⟨a, S, n, rfl, ha, q⟩ := h
  rw [Vals.ref1 r]
  obtain ⟨o, es, ep, t, ho, hex, hd, g, nd, hm, hb, hf, hn, hr, hl⟩ := setO_get I ha
  have : es.size < scanBound := hb
  exact call_len_set ho hex hd hf (by unfold scanBound at this; omega) ⟨.int n, H, I.tok _, ⟨_, by rw [hn]⟩, q⟩
end
/-- one call upon another's value -/
def rTwo (rI rO : List V → Hp → VK → Prop) : List V → Hp → VK → Prop := fun xs H Q => rI xs H fun v H2 => rO [v] H2 Q
/-! ### sets of tuples of ints, sorted -/
abbrev cdT (x : List Int) : Int := TS.code 1000 x
def insT (x : List Int) : List (List Int) → List (List Int)
  | [] => [x]
  | y :: l => if cdT x < cdT y then x :: y :: l else if x = y then y :: l else y :: insT x l
def ssetT : List (List Int) → List (List Int)
  | [] => []
  | x :: l => insT x (ssetT l)
theorem insT_mem {x z : List Int} : ∀ {l : List (List Int)}, z ∈ insT x l ↔ z = x ∨ z ∈ l
  | [] => by simp [insT]
  | y :: l => by
    unfold insT
    split
    · simp
    · split
      · rename_i h; subst h; simp
      · rw [List.mem_cons, insT_mem (l := l), List.mem_cons]
        exact ⟨fun h => by rcases h with h | h | h <;> simp [h], fun h => by rcases h with h | h | h <;> simp [h]⟩
theorem ssetT_mem {z : List Int} : ∀ {l : List (List Int)}, z ∈ ssetT l ↔ z ∈ l
  | [] => by simp [ssetT]
  | x :: l => by unfold ssetT; rw [insT_mem, ssetT_mem (l := l), List.mem_cons]
/-- as long as each other, and within bounds -/
def FitT (d : Nat) (x : List Int) : Prop := x.length = d ∧ TS.Bd 1000 x
theorem cdT_one : ∀ {x y : List Int}, x.length = y.length → TS.Bd 1000 x → TS.Bd 1000 y → ¬ cdT x < cdT y → ¬ cdT y < cdT x → x = y
  | [], [], _, _, _, _, _ => rfl
  | [], _ :: _, h, _, _, _, _ => by cases h
  | _ :: _, [], h, _, _, _, _ => by cases h
  | a :: x, b :: y, h, hx, hy, h1, h2 => by
    have hl : x.length = y.length := by simpa using h
    have bx : TS.Bd 1000 x := fun m hm => hx m (List.mem_cons_of_mem _ hm)
    have bt : TS.Bd 1000 y := fun m hm => hy m (List.mem_cons_of_mem _ hm)
    have e : a = b := by
      rcases Int.lt_trichotomy a b with q | q | q
      · exact absurd (TS.code_lt hl bx bt q) h1
      · exact q
      · exact absurd (TS.code_lt hl.symm bt bx q) h2
    subst e
    have e1 : ∀ z : List Int, cdT (a :: z) = a * 1000 ^ z.length + cdT z := fun z => by unfold cdT; rw [TS.code]
    rw [e1, e1, hl] at h1 h2
    rw [cdT_one hl bx bt (by omega) (by omega)]
theorem insT_lt {d : Nat} {x : List Int} (fx : FitT d x) : ∀ {l : List (List Int)}, (∀ y ∈ l, FitT d y) → l.Pairwise (fun p q => cdT p < cdT q) → (insT x l).Pairwise (fun p q => cdT p < cdT q)
  | [], _, _ => by simp [insT]
  | y :: l, hf, h => by
    obtain ⟨h1, h2⟩ := List.pairwise_cons.mp h
    unfold insT
    split
    · rename_i hx
      refine List.pairwise_cons.mpr ⟨fun z hz => ?_, h⟩
      rcases List.mem_cons.mp hz with rfl | hz
      · exact hx
      · exact Int.lt_trans hx (h1 z hz)
    · rename_i hx
      split
      · exact h
      · rename_i hne
        refine List.pairwise_cons.mpr ⟨fun z hz => ?_, insT_lt fx (fun y hy => hf y (List.mem_cons_of_mem _ hy)) h2⟩
        rcases insT_mem.mp hz with rfl | hz
        · have fy := hf y List.mem_cons_self
          by_cases q : cdT y < cdT z
          · exact q
          · exact absurd (cdT_one (fx.1.trans fy.1.symm) fx.2 fy.2 hx q) hne
        · exact h1 z hz
theorem ssetT_lt {d : Nat} : ∀ {l : List (List Int)}, (∀ y ∈ l, FitT d y) → (ssetT l).Pairwise (fun p q => cdT p < cdT q)
  | [], _ => .nil
  | x :: l, h => by
    unfold ssetT
    exact insT_lt (h x List.mem_cons_self) (fun y hy => h y (List.mem_cons_of_mem _ (ssetT_mem.mp hy))) (ssetT_lt fun y hy => h y (List.mem_cons_of_mem _ hy))
theorem risesT : ∀ {a b : List (List Int)}, a.Pairwise (fun p q => cdT p < cdT q) → b.Pairwise (fun p q => cdT p < cdT q) → (∀ z, z ∈ a ↔ z ∈ b) → a = b
  | [], [], _, _, _ => rfl
  | [], y :: b, _, _, h => absurd ((h y).mpr List.mem_cons_self) (by simp)
  | x :: a, [], _, _, h => absurd ((h x).mp List.mem_cons_self) (by simp)
  | x :: a, y :: b, ha, hb, h => by
    obtain ⟨a1, a2⟩ := List.pairwise_cons.mp ha
    obtain ⟨b1, b2⟩ := List.pairwise_cons.mp hb
    have e : x = y := by
      have p := (h x).mp List.mem_cons_self
      have q := (h y).mpr List.mem_cons_self
      rcases List.mem_cons.mp p with p | p
      · exact p
      · rcases List.mem_cons.mp q with q | q
        · exact q.symm
        · have := a1 y q
          have := b1 x p
          omega
    subst e
    rw [risesT a2 b2 fun z => ?_]
    constructor
    · intro hz
      have := a1 z hz
      rcases List.mem_cons.mp ((h z).mp (List.mem_cons_of_mem _ hz)) with p | p
      · subst p; omega
      · exact p
    · intro hz
      have := b1 z hz
      rcases List.mem_cons.mp ((h z).mpr (List.mem_cons_of_mem _ hz)) with p | p
      · subst p; omega
      · exact p
theorem insT_le (x : List Int) : ∀ l : List (List Int), (insT x l).length ≤ l.length + 1
  | [] => Nat.le_refl _
  | y :: l => by
    unfold insT
    split
    · exact Nat.le_refl _
    · split
      · exact Nat.le_succ _
      · exact Nat.succ_le_succ (insT_le x l)
theorem ssetT_le : ∀ l : List (List Int), (ssetT l).length ≤ l.length
  | [] => Nat.le_refl _
  | x :: l => Nat.le_trans (insT_le x _) (Nat.succ_le_succ (ssetT_le l))
/-- tuples of ints -/
def tupsOf : List D → Option (List (List Int))
  | [] => some []
  | .tuple ds :: r => match intsOf ds, tupsOf r with
    | some ns, some l => some (ns :: l)
    | _, _ => none
  | _ => none
abbrev tupI (ns : List Int) : D := .tuple (ns.map .int)
theorem tupsOf_eq : ∀ {ds : List D} {l : List (List Int)}, tupsOf ds = some l → ds = l.map tupI
  | [], l, h => by cases h; rfl
  | .tuple ds :: r, l, h => by
    unfold tupsOf at h
    cases e1 : intsOf ds with
    | none => rw [e1] at h; cases h
    | some ns =>
      cases e2 : tupsOf r with
      | none => rw [e1, e2] at h; cases h
      | some l' =>
        rw [e1, e2] at h
        cases h
        rw [List.map_cons, ← tupsOf_eq e2, intsOf_eq e1]
  | .none :: r, l, h => by cases h
  | .bool _ :: r, l, h => by cases h
  | .int _ :: r, l, h => by cases h
  | .str _ :: r, l, h => by cases h
  | .list _ :: r, l, h => by cases h
  | .dict _ :: r, l, h => by cases h
/-- below 64, as long as the first, not empty, bounded -/
def fitsT (l : List (List Int)) : Bool := !l.isEmpty && decide (l.length < 64) && l.all fun x => decide (x.length = (l.headD []).length) && decide (1 ≤ x.length) && x.all fun m => decide (0 ≤ m) && decide (m < 1000)
theorem fitsT_of {l : List (List Int)} (h : fitsT l = true) : l.length < 64 ∧ 1 ≤ (l.headD []).length ∧ ∀ x ∈ l, FitT (l.headD []).length x := by
  unfold fitsT at h
  rw [Bool.and_eq_true, Bool.and_eq_true, List.all_eq_true] at h
  obtain ⟨⟨h0, h1⟩, h2⟩ := h
  refine ⟨of_decide_eq_true h1, ?_, fun x hx => ?_⟩
  · cases l with
    | nil => cases h0
    | cons x l =>
      have := h2 x List.mem_cons_self
      simp only [Bool.and_eq_true, decide_eq_true_eq] at this
      exact this.1.2
  · have := h2 x hx
    simp only [Bool.and_eq_true, decide_eq_true_eq, List.all_eq_true] at this
    exact ⟨this.1.1, fun m hm => this.2 m hm⟩
def ssetTD (l : List (List Int)) (cs : CS) : Res D := if fitsT l = true then .ok (.list ((ssetT l).map tupI)) cs else .stuck
section
variable {Γ : Ctx}
/-- addresses beside the tuples -/
theorem tups_at {s : S3} {cs : CS} (ok : OkS Γ.K s cs) : ∀ {l : List (List Int)} {vs : List V}, AtAll Γ.K Γ.fa s.Hs s.ca vs (l.map tupI) → ∃ ks : List (Addr × List Int), vs = ks.map (fun p => V.ref p.1) ∧ l = ks.map (·.2) ∧ ∀ p ∈ ks, SqT Γ.K s.H p.1 (p.2.map V.int) ∧ At Γ.K Γ.fa s.Hs s.ca (.ref p.1) (tupI p.2)
  | [], _, h => by
    cases h
    exact ⟨[], rfl, rfl, fun p hp => by cases hp⟩
  | x :: l, _, h => by
    cases h with
    | cons a t =>
      obtain ⟨ks, rfl, h2, h3⟩ := tups_at ok t
      obtain ⟨p, vs, rfl, h4, hz, h5⟩ := tup_of ok a
      have ev : vs = x.map V.int := h5.ints
      subst ev
      refine ⟨(p, x) :: ks, rfl, by rw [h2]; rfl, fun q hq => ?_⟩
      rcases List.mem_cons.mp hq with rfl | hq
      · exact ⟨h4, a⟩
      · exact h3 q hq
/-- of ints, or of tuples of ints -/
def rSet2 (Γ : Ctx) : List V → Hp → VK → Prop := fun xs H Q => rSetI Γ.K Γ.w xs H Q ∨ rSetOfT Γ.K Γ.P Γ.w xs H Q
def rSorted2 (Γ : Ctx) : List V → Hp → VK → Prop := fun xs H Q => rSortedSet Γ.w xs H Q ∨ rSortedT Γ.K Γ.P Γ.w xs H Q
theorem ssetT_ok {s : S3} {cs : CS} {v : V} {d : D} {ds : List D} {l : List (List Int)} {Q : VK} (ok : OkS Γ.K s cs) (a : At Γ.K Γ.fa s.Hs s.ca v d) (e : lstOf d cs = some ds) (e2 : tupsOf ds = some l) (h : Sat (ssetTD l cs) (Beh Γ s Q) (BehX Γ s)) : rTwo (rSet2 Γ) (rSorted2 Γ) [v] s.H Q := by
  unfold ssetTD at h
  split at h
  · rename_i hf
    obtain ⟨f1, f2, f3⟩ := fitsT_of hf
    obtain ⟨p, vs, rfl, h1, hz, h2⟩ := lst_of ok a e
    rw [tupsOf_eq e2] at h2
    obtain ⟨ks, rfl, rfl, h3⟩ := tups_at ok h2
    refine .inr ⟨p, ks, rfl, SqL.of h1, fun p hp => (h3 p hp).1, by simpa using f1, fun b L hb hL1 hL2 => ?_⟩
    obtain ⟨st1, ok1⟩ := step_new (o := SetTO Γ.P Γ.w b L) ok hb
    refine .inr ⟨b, L, ((ks.map (·.2)).headD []).length, 1000, rfl, upd_same, fun p hp => ?_, f2, fun p hp => ?_, fun L' q perm nd lt pw hq => ?_⟩
    · exact seqT (fun b u e => by rw [upd_ne (ne_of_none e hb)]; exact e) (h3 p (hL1 p hp)).1
    · have := f3 p.2 (List.mem_map_of_mem (hL1 p hp))
      exact ⟨this.1, this.2⟩
    · have fit : ∀ p ∈ L', FitT ((ks.map (·.2)).headD []).length p.2 := fun p hp => f3 _ (List.mem_map_of_mem (hL1 p (perm.mem_iff.mp hp)))
      have em : L'.map (·.2) = ssetT (ks.map (·.2)) := by
        refine risesT ?_ (ssetT_lt f3) fun z => ?_
        · rw [List.pairwise_map]
          rw [List.nodup_iff_pairwise_ne, List.pairwise_map] at nd
          refine (List.Pairwise.and nd pw).imp_of_mem fun {p q} hp hq hh => ?_
          have fp := fit p hp
          have fq := fit q hq
          by_cases c : cdT p.2 < cdT q.2
          · exact c
          · have h1 := hh.2
            exact absurd (cdT_one (fp.1.trans fq.1.symm) fp.2 fq.2 c (by show ¬ cdT q.2 < cdT p.2; show ¬ TS.code 1000 q.2 < TS.code 1000 p.2; omega)) hh.1
        · rw [ssetT_mem]
          constructor
          · intro hz
            obtain ⟨p, hp, rfl⟩ := List.mem_map.mp hz
            exact List.mem_map_of_mem (hL1 p (perm.mem_iff.mp hp))
          · intro hz
            obtain ⟨p, hp, rfl⟩ := List.mem_map.mp hz
            obtain ⟨p', hp', e'⟩ := List.mem_map.mp (hL2 p hp)
            exact List.mem_map.mpr ⟨p', perm.mem_iff.mpr hp', e'⟩
      have at1 : ∀ (M : List (Addr × List Int)), (∀ p ∈ M, p ∈ ks) → AtAll Γ.K Γ.fa s.Hs s.ca (M.map fun q => V.ref q.1) (M.map fun q => tupI q.2) := by
        intro M
        induction M with
        | nil => intro _; exact .nil
        | cons p M ih => exact fun hM => .cons (h3 p (hM p List.mem_cons_self)).2 (ih fun q hq => hM q (List.mem_cons_of_mem _ hq))
      have hl : (L'.map fun q => V.ref q.1).length ≤ sizeLine := by rw [List.length_map, line_eq]; omega
      have a1 := at1 L' fun p hp => hL1 p (perm.mem_iff.mp hp)
      have e3 : (L'.map fun q => tupI q.2) = (ssetT (ks.map (·.2))).map tupI := by rw [← em, List.map_map]; rfl
      rw [e3] at a1
      obtain ⟨st2, ok2, a2⟩ := new_lst (vs := L'.map fun q => V.ref q.1) ok1 hq hl (a1.step st1)
      exact h _ _ (st1.trans st2) ok2 a2
  · exact h.elim
end
section
variable {Γ : Ctx} {pos p p2 q : Pos} {e : Expr} {fl : Env → M (List D)}
def ssetD (ds : List D) : M D := fun cs => match ds with
  | [d] => (match (seqOf d cs).bind intsOf with
    | some ns => if ns.length < 64 then .ok (.list ((ssetL ns).map .int)) cs else .stuck
    | none => (match (lstOf d cs).bind tupsOf with
      | some l => ssetTD l cs
      | none => .stuck))
  | _ => .stuck
def lsetD (ds : List D) : M D := fun cs => match ds with
  | [d] => (match (seqOf d cs).bind intsOf with
    | some ns => if ns.length < 4000 then .ok (.int (ssetL ns).length) cs else .stuck
    | none => .stuck)
  | _ => .stuck
theorem se_two {x : Str} {id : String} {rI rO : List V → Hp → VK → Prop} {o : List D → M D} (hI : ∀ X, Good Γ X → CallR X (.type "set") rI) (hO : ∀ X, Good Γ X → CallR X (.builtin id) rO) (od : CallD Γ (rTwo rI rO) o)
    (hg : Γ.sc.names.lookup x = some .globalImplicit) (hm : Γ.mg x = none) (hv : bootBuiltins x = some (.builtin id)) (hn : x ≠ "__name__") (hd : (x == ("__debug__" : Str)) = false)
    (hg2 : Γ.sc.names.lookup ("set" : Str) = some .globalImplicit) (hm2 : Γ.mg ("set" : Str) = none) (hs : noStar e = true) (ha : SA Γ [e] fl) :
    SE Γ (.Call (.Name x p) [.Call (.Name "set" p2) [e] [] q] [] pos) (evA o fl) := by
  obtain ⟨t, h1, h2⟩ := ha
  refine ⟨tCB rO (tCons (tCB rI t) tNil), fun X G => ?_, sem_call (t := t) od h2⟩
  have h3 := pe_callTy (x := "set") (p := p2) (pos := q) (hI X G) (by show X.env.scope.names.lookup _ = _; rw [G.sc]; exact hg2) (by rw [G.mg]; exact hm2) (by decide +kernel) (h1 X G) (by decide +kernel) (by decide +kernel) (star_of hs)
  exact pe_callB (hO X G) (by show X.env.scope.names.lookup x = _; rw [G.sc]; exact hg) (by rw [G.mg]; exact hm) hv (pa_cons h3 pa_nil) hn hd (star_of rfl)
theorem seq_ints {s : S3} {cs : CS} {v : V} {d : D} {ns : List Int} (ok : OkS Γ.K s cs) (a : At Γ.K Γ.fa s.Hs s.ca v d) (h : (seqOf d cs).bind intsOf = some ns) : ∃ p, v = .ref p ∧ (SqL Γ.K s.H p (ns.map V.int) ∨ SqT Γ.K s.H p (ns.map V.int)) := by
  cases e : seqOf d cs with
  | none => rw [e] at h; cases h
  | some ds =>
    rw [e] at h
    have := intsOf_eq (show intsOf ds = some ns from h)
    subst this
    obtain ⟨p, vs, rfl, h1, hz, a1⟩ := seq_of ok a e
    have ev : vs = ns.map V.int := a1.ints
    subst ev
    exact ⟨p, rfl, seq_or h1⟩
theorem ssetD_ok : CallD Γ (rTwo (rSet2 Γ) (rSorted2 Γ)) ssetD := by
  intro s cs xs ds Q ok a h
  unfold ssetD at h
  split at h
  · split at h
    · rename_i ns e1
      split at h
      · rename_i hz
        cases a with
        | cons a t =>
          cases t
          obtain ⟨l, rfl, h1⟩ := seq_ints ok a e1
          refine .inl ⟨l, ns, rfl, h1, by unfold scanBound; omega, fun p hp => ?_⟩
          obtain ⟨st1, ok1⟩ := step_new (o := SetO Γ.w p (fun j => decide (j ∈ ns)) (ssetL ns).length) ok hp
          have hle := ssetL_le ns
          refine .inl ⟨p, _, _, rfl, upd_same, by omega, fun ms q r1 r2 r3 hq => ?_⟩
          have em : ms = ssetL ns := rises_one r1 (ssetL_lt ns) fun z => by rw [r2 z, ssetL_mem]; simp
          subst em
          have hl : ((ssetL ns).map V.int).length ≤ sizeLine := by rw [List.length_map, line_eq]; omega
          obtain ⟨st2, ok2, a2⟩ := new_lst (vs := (ssetL ns).map V.int) (ds := (ssetL ns).map .int) ok1 hq hl (AtAll.of_ints _)
          exact h _ _ (st1.trans st2) ok2 a2
      · exact h.elim
    · split at h
      · rename_i l e2
        cases a with
        | cons a t =>
          cases t
          obtain ⟨ds, e3, e4⟩ := Option.bind_eq_some_iff.mp e2
          exact ssetT_ok ok a e3 e4 h
      · exact h.elim
  · exact h.elim
theorem lsetD_ok : CallD Γ (rTwo (rSetI Γ.K Γ.w) (rLenSetI Γ.w)) lsetD := by
  intro s cs xs ds Q ok a h
  unfold lsetD at h
  split at h
  · split at h
    · rename_i ns e1
      split at h
      · rename_i hz
        cases a with
        | cons a t =>
          cases t
          obtain ⟨l, rfl, h1⟩ := seq_ints ok a e1
          refine ⟨l, ns, rfl, h1, by unfold scanBound; omega, fun p hp => ?_⟩
          obtain ⟨st1, ok1⟩ := step_new (o := SetO Γ.w p (fun j => decide (j ∈ ns)) (ssetL ns).length) ok hp
          exact ⟨p, _, _, rfl, upd_same, h _ _ st1 ok1 (.int _)⟩
      · exact h.elim
    · exact h.elim
  · exact h.elim
theorem se_sset (hg : Γ.sc.names.lookup ("sorted" : Str) = some .globalImplicit) (hm : Γ.mg ("sorted" : Str) = none) (hg2 : Γ.sc.names.lookup ("set" : Str) = some .globalImplicit) (hm2 : Γ.mg ("set" : Str) = none) (hs : noStar e = true) (ha : SA Γ [e] fl) :
    SE Γ (.Call (.Name "sorted" p) [.Call (.Name "set" p2) [e] [] q] [] pos) (evA ssetD fl) :=
  se_two (fun X G => by unfold rSet2; rw [← G.K, ← G.w, ← G.prog]; exact CallR.or (cr_setI G.calm) (cr_setOfT G.calm (by have := room66 G; omega))) (fun X G => by unfold rSorted2; rw [← G.w, ← G.K, ← G.prog]; exact CallR.or (cr_sortedSet G.calm) (cr_sortedT G.calm)) ssetD_ok hg hm (by decide +kernel) (by decide +kernel) (by decide +kernel) hg2 hm2 hs ha
theorem se_lset (hg : Γ.sc.names.lookup ("len" : Str) = some .globalImplicit) (hm : Γ.mg ("len" : Str) = none) (hg2 : Γ.sc.names.lookup ("set" : Str) = some .globalImplicit) (hm2 : Γ.mg ("set" : Str) = none) (hs : noStar e = true) (ha : SA Γ [e] fl) :
    SE Γ (.Call (.Name "len" p) [.Call (.Name "set" p2) [e] [] q] [] pos) (evA lsetD fl) :=
  se_two (fun X G => by rw [← G.K, ← G.w]; exact cr_setI G.calm) (fun X G => by rw [← G.w]; exact cr_lenSetI) lsetD_ok hg hm (by decide +kernel) (by decide +kernel) (by decide +kernel) hg2 hm2 hs ha
end
/-! ### index -/
def fstEq (d : D) : List D → Option Nat
  | [] => none
  | z :: zs => if PyData.eqv z d = true then some 0 else (fstEq d zs).map (· + 1)
theorem fstEq_at {d : D} : ∀ {ds : List D} {j : Nat}, fstEq d ds = some j → ∃ z, ds[j]? = some z ∧ PyData.eqv z d = true ∧ ∀ (m : Nat) (z' : D), m < j → ds[m]? = some z' → PyData.eqv z' d = false
  | [], j, h => by cases h
  | z :: zs, j, h => by
    unfold fstEq at h
    split at h
    · rename_i e
      cases h
      exact ⟨z, rfl, e, fun m _ hm => absurd hm (Nat.not_lt_zero _)⟩
    · rename_i e
      cases e2 : fstEq d zs with
      | none => rw [e2] at h; cases h
      | some k =>
        rw [e2] at h
        cases h
        obtain ⟨z', h1, h2, h3⟩ := fstEq_at e2
        refine ⟨z', by simpa using h1, h2, fun m z'' hm hz => ?_⟩
        cases m with
        | zero =>
          cases hz
          simpa using e
        | succ m => exact h3 m z'' (Nat.lt_of_succ_lt_succ hm) (by simpa using hz)
def idxD (o : D) (ys : List D) : M D := fun cs => match ys, lstOf o cs with
  | [y], some ds => if (SeqAt.shaped (.list ds) && SeqAt.shaped y) = true then (match fstEq y ds with
    | some j => .ok (.int (j : Nat)) cs
    | none => .stuck) else .stuck
  | _, _ => .stuck
section
variable {Γ : Ctx} {pos p : Pos} {e a : Expr} {f : Env → M D} {fl : Env → M (List D)}
theorem idxD_ok : MtD Γ (rIndexD Γ.K) idxD := by
  intro s cs x ys d es Q ok a b h
  unfold idxD at h
  split at h
  · rename_i y ds e1
    split at h
    · rename_i hz
      rw [Bool.and_eq_true] at hz
      split at h
      · rename_i j e2
        cases b with
        | cons b t =>
          cases t
          obtain ⟨p, vs, rfl, h1, hl, a1⟩ := lst_of ok a e1
          obtain ⟨z, z1, z2, z3⟩ := fstEq_at e2
          have hcl : PyData.canLayAll0 ds = true := by have := shaped_lay hz.1; simpa only [PyData.canLay0] using this
          exact ⟨p, _, y, ds, j, z, rfl, rfl, .lst (SqL.of h1) (a1.dp ok.same hcl), b.dp ok.same (shaped_lay hz.2), hz.1, hz.2, z1, z2, z3, Beh.here h ok (.int _)⟩
      · exact h.elim
    · exact h.elim
  · exact h.elim
theorem se_idx (hb : notCall0 e = true) (hl : (p.endLine == pos.line) = true) (hn : noStar a = true) (h : SE Γ e f) (ha : SA Γ [a] fl) : SE Γ (.Call (.Attribute e "index" p) [a] [] pos) (evMt idxD f fl) := by
  obtain ⟨t, h1, h2⟩ := h
  obtain ⟨u, r1, r2⟩ := ha
  refine ⟨_, fun X G => ?_, sem_mt idxD_ok h2 r2⟩
  rw [← G.K]
  exact pe_bm PySem.F.plainAttrs_list PySem.F.slot_list_index PySem.F.type_list_index (mt_indexD (by have := G.room.units; exact room65 G)) (h1 X G) (r1 X G) (base_of hb) (few_of (by rw [List.all_cons, hn]; rfl) (by show 1 < 29; decide)) hl (star_of hn) rfl
end
end KH

/-! KH: x[::-1] of lists and tuples. -/
namespace KH
open PySem PySem.Spec PyProof.Rows L2
section
variable {prog : Program} {w : World} {A : Around} {E : Value → Shared → Prop} {s : Shared}
theorem back_apply {sl : Addr} {vl vu vs : Value} {n : Nat} {Q : Int × Int × Nat → Shared → Prop} (hs : s.heap.IsSliceOf sl vl vu vs) (pl : IsPart vl none) (pu : IsPart vu none) (ps : IsPart vs (some (-1)))
    (h : Q ((n : Int) - 1, -1, n) s) : wpAny (model prog w) A (Builtin.Slice.sliceApplied (.ref sl) (pure (n : Int))) Q E s := by
  obtain ⟨os, hos, hcs, hds⟩ := id hs
  unfold Builtin.Slice.sliceApplied Builtin.Slice.sliceFields
  refine wpAny_bind (wpAny_bind (wpAny_field hos hds (x := vl) rfl (wpAny_bind (wpAny_field hos hds (x := vu) rfl (wpAny_bind (wpAny_field hos hds (x := vs) rfl (wpAny_pure ?_)))))))
  refine wpAny_bind (HT.slicePart_ ps ?_)
  show wpAny _ _ (if ((-1 : Int) == 0) = true then _ else _) _ _ s
  rw [if_neg (by decide)]
  refine wpAny_bind (HT.slicePart_ pl (wpAny_bind (HT.slicePart_ pu (wpAny_bind (wpAny_pure ?_)))))
  show wpAny _ _ (pure ((n : Int) - 1, (-1 : Int), Builtin.Slice.slicePlaces ((n : Int) - 1) (-1) (-1))) _ _ s
  have e : Builtin.Slice.slicePlaces ((n : Int) - 1) (-1) (-1) = n := by
    unfold Builtin.Slice.slicePlaces
    rw [if_neg (by decide)]
    by_cases h0 : (n : Int) - 1 > -1
    · rw [if_pos h0]
      have : (((n : Int) - 1 - -1 - 1) / (- -1) + 1).toNat = n := by
        rw [show (- -1 : Int) = 1 by decide, Int.ediv_one]; omega
      exact this
    · rw [if_neg h0]; omega
  rw [e]
  exact wpAny_pure h
theorem fm_congr {α β : Type} {f g : α → Option β} : ∀ {l : List α}, (∀ x ∈ l, f x = g x) → l.filterMap f = l.filterMap g
  | [], _ => rfl
  | x :: l, h => by
    rw [List.filterMap_cons, List.filterMap_cons, h x List.mem_cons_self, fm_congr fun y hy => h y (List.mem_cons_of_mem _ hy)]
theorem back_pick (xs : Array Value) : ((List.range xs.size).filterMap fun (m : Nat) => xs[(((xs.size : Int) - 1) + (m : Int) * (-1)).toNat]?).toArray = xs.toList.reverse.toArray := by
  have e : ∀ m ∈ List.range xs.size, xs[(((xs.size : Int) - 1) + (m : Int) * (-1)).toNat]? = (fun m => xs.toList.reverse[m]?) m := fun m hm => by
    have hm := List.mem_range.mp hm
    have h2 : (((xs.size : Int) - 1) + (m : Int) * (-1)).toNat = xs.size - 1 - m := by omega
    rw [h2]
    show _ = xs.toList.reverse[m]?
    rw [List.getElem?_reverse (by rw [Array.length_toList]; exact hm), Array.length_toList, Array.getElem?_toList]
  rw [fm_congr e]
  have e2 : (List.range xs.size).filterMap (fun m => xs.toList.reverse[m]?) = xs.toList.reverse := by
    have h3 := PySem.W.krv_all xs.toList.reverse.toArray
    simpa using h3
  rw [e2]
theorem getItem_tuple_back {t sl : Addr} {items : Array Value} {vl vu vs : Value} {Q : Value → Shared → Prop} (ht : IsTup s.heap t items) (hs : s.heap.IsSliceOf sl vl vu vs) (pl : IsPart vl none) (pu : IsPart vu none) (ps : IsPart vs (some (-1)))
    (h : Q (.ref s.heap.objs.size) { s with heap := s.heap.push { cls := .type "tuple", data := .seq items.toList.reverse.toArray } })
    (hsz : items.size ≤ sizeLine) : wpAny (model prog w) A (getItem (.ref t) (.ref sl)) Q E s := by
  have hfit : sizeOk (.seq items.toList.reverse.toArray) := by
    show items.toList.reverse.toArray.size ≤ sizeLine
    rw [List.size_toArray, List.length_reverse, Array.length_toList]
    exact hsz
  obtain ⟨os, hos, hcs, hds⟩ := id hs
  have hTs : s.TypeIs (.ref sl) "slice" := ⟨os, hos, hcs⟩
  unfold getItem
  try with_reducible refine wpAny_holding ?_
  first | refine wpAny_bind (wpAny_pure ?_) | skip
  refine wpAny_bind (wpAny_sequenceKey ht.typeIs (by decide) ?_)
  refine wpAny_bind (wpAny_callSpecial?_slot (name := Str.ofString "__getitem__") ht.typeIs PyProof.Rows.slot_tuple_getitem
    (wpAny_call_entry PyProof.Rows.slot_tuple_getitem ht.typeIs entry_tuple_getitem ?_ (args_tuple_getitem _ _)))
  show wpAny _ _ (Builtin.Tuple.tupleItemsOf (.ref t) >>= _) _ _ s
  refine wpAny_bind (tupleItemsOf_ ht ?_)
  refine wpAny_bind (wpAny_typeOf hTs ?_)
  rw [if_pos (by decide)]
  refine wpAny_bind (back_apply hs pl pu ps ?_)
  have hno : ¬ ((((items.size : Int) - 1) == 0 && (-1 : Int) == 1 && items.size == items.size) = true) := by
    intro q
    rw [Bool.and_eq_true, Bool.and_eq_true] at q
    exact absurd q.1.2 (by decide)
  show wpAny _ _ (if (((items.size : Int) - 1) == 0 && (-1 : Int) == 1 && items.size == items.size) = true then _ else _) _ _ s
  rw [if_neg hno, back_pick]
  first
    | exact wpAny_bind (m := Builtin.Tuple.tupleExact _) (wpAny_newObj_type (wpAny_pure ⟨_, rfl, wpAny_pure h⟩) hfit)
    | exact wpAny_bind (m := Builtin.Tuple.tupleExact _) (wpAny_newObj_type (wpAny_bind (wpAny_pure (wpAny_pure ⟨_, rfl, wpAny_pure h⟩))) hfit)
    | exact wpAny_bind (wpAny_bind (m := Builtin.Tuple.tupleExact _) (wpAny_newObj_type (wpAny_pure (wpAny_pure ⟨_, rfl, wpAny_pure h⟩)) hfit))
    | exact wpAny_bind (wpAny_bind (m := Builtin.Tuple.tupleExact _) (wpAny_newObj_type (wpAny_pure ⟨_, rfl, wpAny_pure h⟩) hfit))
end
section
variable {X : Cx}
def tBack (K : PySem.W.Frag) (te : TE) : TE := fun σ H Q => te σ H fun x H1 => ∃ a xs, x = .ref a ∧ ((SqL K H1 a xs ∧ ∀ p, H1 p = none → Q (.ref p) (upd H1 p (.lst xs.reverse))) ∨ (SqT K H1 a xs ∧ ∀ p, H1 p = none → Q (.ref p) (upd H1 p (.tup xs.reverse))))
theorem pe_back {e : Expr} {te : TE} {k : Nat} {p1 p2 p3 pos : Pos} (he : PE X e te) : PE X (.Subscript e (.Slice none none (some (.UnaryOp .USub (.Constant (.int 1) k p1) p2)) p3) pos) (tBack X.K te) := by
  refine ⟨fun pins s σ H Q I h => ?_⟩
  refine Subscript_ (thn (he.run pins s σ H _ I h) fun v s1 ⟨x, H1, I1, r1, q1⟩ => ?_)
  obtain ⟨a, xs, ex, q⟩ := q1
  subst ex
  cases r1
  have hst : PO X (some (.UnaryOp .USub (.Constant (.int 1) k p1) p2)) (tPart (tUn (rU fun i => .int (-i)) (tC (.int 1)))) := po_some (pe_un un_neg pe_int)
  refine wpAny_Slice (thn (po_none.run pins s1 σ H1 (fun o H2 => o = none ∧ H2 = H1) I1 ⟨rfl, rfl⟩) fun vl s2 ⟨l, H2, I2, pl, el, e2⟩ => ?_)
  subst el e2
  refine thn (po_none.run pins s2 σ H2 (fun o H3 => o = none ∧ H3 = H2) I2 ⟨rfl, rfl⟩) fun vu s3 ⟨u, H3, I3, pu, eu, e3⟩ => ?_
  subst eu e3
  refine thn (hst.run pins s3 σ H3 (fun o H4 => o = some (-1) ∧ H4 = H3) I3 ⟨1, rfl, -1, rfl, rfl, rfl⟩) fun vs s4 ⟨o, H4, I4, ps, eo, e4⟩ => ?_
  subst eo e4
  have I5 : Inv X pins σ H4 { s4 with heap := s4.heap.push { cls := .type "slice", data := .fields #[vl, vu, vs] } } := I4.kept (t' := s4.toks) fun b ob q => Heap.get?_push_of_some _ q
  show wpAny (model X.prog X.w) X.A (subscriptTail e (.Slice none none (some (.UnaryOp .USub (.Constant (.int 1) k p1) p2)) p3) (.ref a) (.ref s4.heap.objs.size)) (EP X pins σ Q) X.xe { s4 with heap := s4.heap.push { cls := .type "slice", data := .fields #[vl, vu, vs] } }
  rcases q with ⟨hx, q⟩ | ⟨hx, q⟩
  · obtain ⟨its, r, ht, hz⟩ := I5.list hx
    have hlen := r.length
    refine tail_any (ops := [.ref a, .ref s4.heap.objs.size]) ht.isList.typeIs (PySem.slot_list_getitem.lookup) ?_ (by with_unfolding_all rfl)
    refine wpAny_getItem_list_slice ht.isList (Heap.IsSliceOf.new _ vl vu vs) pl pu ps (by decide) ?_ (by rw [List.size_toArray]; omega)
    rw [PySem.W.krv_pick]
    refine ⟨.ref _, _, I5.laid (t' := s4.toks) (o := .lst xs.reverse) (fun b ob q => Heap.get?_push_of_some _ q) (Nat.le_refl _) ?_, rfl, q _ (I5.hok.fresh (Nat.le_refl _))⟩
    exact ⟨by rw [List.length_reverse]; exact hz, _, 0, r.reverse, Heap.get?_push_size _ rfl⟩
  · obtain ⟨its, r, ht, hz⟩ := I5.tuple hx
    have hlen := r.length
    refine tail_any (ops := [.ref a, .ref s4.heap.objs.size]) ht.typeIs (PyProof.Rows.slot_tuple_getitem.lookup) ?_ (by with_unfolding_all rfl)
    refine getItem_tuple_back ht (Heap.IsSliceOf.new _ vl vu vs) pl pu ps ?_ (by rw [List.size_toArray]; omega)
    refine ⟨.ref _, _, I5.laid (t' := s4.toks) (o := .tup xs.reverse) (fun b ob q => Heap.get?_push_of_some _ q) (Nat.le_refl _) ?_, rfl, q _ (I5.hok.fresh (Nat.le_refl _))⟩
    exact ⟨by rw [List.length_reverse]; exact hz, _, r.reverse, IsTup.new _ _⟩
end
section
variable {Γ : Ctx} {pos p1 p2 p3 : Pos} {e : Expr} {f : Env → M D}
def revD (d : D) : M D := fun cs => match d with
  | .tuple xs => .ok (.tuple xs.reverse) cs
  | d => match lstOf d cs with
    | some xs => .ok (.list xs.reverse) cs
    | none => .stuck
theorem se_rev {k : Nat} (h : SE Γ e f) : SE Γ (.Subscript e (.Slice none none (some (.UnaryOp .USub (.Constant (.int 1) k p1) p2)) p3) pos) (ev1 revD f) := by
  obtain ⟨t, h1, h2⟩ := h
  refine ⟨tBack Γ.K t, fun X G => by rw [← G.K]; exact pe_back (h1 X G), fun σ s env cs Q ok eo h => ?_⟩
  refine h2 σ s env cs _ ok eo ?_
  have h := sat_bind.mp h
  refine h.imp (fun d cs1 h => ?_) fun _ _ z => z
  intro v s1 st1 ok1 a1
  have h : Sat (revD d cs1) (Beh Γ s1 Q) (BehX Γ s1) := h.imp (fun z cs3 h v3 s3 st3 ok3 a3 => h v3 s3 (st1.trans st3) ok3 a3) fun _ _ z => z.step st1
  unfold revD at h
  split at h
  · obtain ⟨p, vs, rfl, q1, hz, a2⟩ := tup_of ok1 a1
    exact ⟨p, vs, rfl, .inr ⟨q1, Beh.tup h ok1 (by rw [List.length_reverse]; exact hz) a2.rev⟩⟩
  · split at h
    · rename_i xs e1
      obtain ⟨p, vs, rfl, q1, hz, a2⟩ := lst_of ok1 a1 e1
      exact ⟨p, vs, rfl, .inl ⟨SqL.of q1, Beh.lst h ok1 (by rw [List.length_reverse]; exact hz) a2.rev⟩⟩
    · exact h.elim
end
end KH

/-! KH: x = zip(a, b), and all over it. -/
namespace KH
open PySem PySem.Spec PyProof.Rows L2
theorem na (n k : Nat) (h : k ≤ 4) : n ≤ n + k ∧ n + k ≤ n + 4 := by omega
theorem nsu (n k : Nat) : n + k - n = k := by omega
theorem nxx (n c : Nat) (h : n ≤ c ∧ c ≤ n + 4) : ∃ k, c = n + k ∧ k ≤ 4 := ⟨c - n, by omega, by omega⟩
/-- the five objects of a zip of two tuples -/
def zipO (n l1 l2 : Addr) (k : Nat) : HO := .ext fun h => match k with
  | 0 => h.IsTupleIter n l1 0
  | 1 => h.IsTupleIter (n + 1) l2 0
  | 2 => IsPair h (n + 2) (.ref n) (.ref (n + 1))
  | 3 => IsPair h (n + 3) .none .none
  | _ => IsZip h (n + 4) (n + 2) (n + 3) .none
def zipH (H : Hp) (n l1 l2 : Addr) : Hp := fun b => if n ≤ b ∧ b ≤ n + 4 then some (zipO n l1 l2 (b - n)) else H b
theorem zipH_in {H : Hp} {n l1 l2 b : Addr} (h : n ≤ b ∧ b ≤ n + 4) : zipH H n l1 l2 b = some (zipO n l1 l2 (b - n)) := if_pos h
theorem zipH_out {H : Hp} {n l1 l2 b : Addr} (h : ¬ (n ≤ b ∧ b ≤ n + 4)) : zipH H n l1 l2 b = H b := if_neg h
theorem un_new {fs ex : List Addr} {H H' : Hp} {h h' : Heap} (k : ∀ b o, h.get? b = some o → h'.get? b = some o) (hn : ∀ b, h.objs.size ≤ b → H b = none) (hs : ∀ b, b < h.objs.size → H' b = H b) : Un fs ex H H' h h' := by
  have old : ∀ b u, H b = some u → H' b = H b := fun b u q => by
    refine hs b ?_
    rcases Nat.lt_or_ge b h.objs.size with c | c
    · exact c
    · rw [hn b c] at q; cases q
  exact ⟨fun b o q _ _ _ => k b o q, fun b o q _ _ _ => ⟨o.slots, k b o q⟩, fun b o q n _ => by rw [hs b (Heap.lt_size q)]; exact n, fun b o q _ => ⟨o, k b o q⟩,
    fun b xs q => by rw [old b _ q]; exact q, fun b o u q => by rw [old b _ q]; exact q, fun b ps q => ⟨#[], by rw [old b _ q, q]; simp⟩⟩
section
variable {X : Cx} {pins : List (Addr × Obj)} {σ : L2.St} {H : Hp} {s : Shared}
theorem zip_drop {n l1 l2 : Addr} (I : Inv X pins σ (zipH H n l1 l2) s) (hn : ∀ b, n ≤ b → b ≤ n + 4 → H b = none) : Inv X pins σ H s := by
  have other : ∀ b u, H b = some u → zipH H n l1 l2 b = some u := fun b u e => by
    rw [zipH_out fun z => by rw [hn b z.1 z.2] at e; cases e]
    exact e
  have back : ∀ b u, zipH H n l1 l2 b = some u → (∀ ψ, u ≠ .ext ψ) → H b = some u := fun b u e w => by
    by_cases z : n ≤ b ∧ b ≤ n + 4
    · rw [zipH_in z] at e
      exact absurd (Option.some.inj e).symm (w _)
    · rw [zipH_out z] at e; exact e
  have hok : HOk X.prog X.w H s.heap := fun b u e => (I.hok b u (other b u e)).stay (fun _ _ _ z => z) (fun c z => back c _ z fun _ w => (nomatch w)) fun c xs z => back c _ z fun _ w => (nomatch w)
  have u : Un X.fs [] (zipH H n l1 l2) H s.heap s.heap := ⟨fun _ _ e _ _ _ => e, fun _ o e _ _ _ => ⟨o.slots, e⟩, fun b o _ z _ => by
      by_cases q : n ≤ b ∧ b ≤ n + 4
      · rw [zipH_in q] at z; cases z
      · rw [zipH_out q] at z; exact z, fun _ o e _ => ⟨o, e⟩, fun b xs z => back b _ z fun _ w => (nomatch w),
    fun b o x z => back b _ z fun _ w => (nomatch w), fun b ps z => ⟨#[], by rw [back b _ z fun _ w => (nomatch w)]; simp⟩⟩
  exact I.un (t' := s.toks) u hok
theorem zip_fp {n l1 l2 b : Addr} (I : Inv X pins σ (zipH H n l1 l2) s) (hn : H b = none) (hb : n ≤ b ∧ b ≤ n + 4) (hs : X.s_0.heap.objs.size ≤ n) : FpOk X pins H b := by
  have h := zipH_in (H := H) (l1 := l1) (l2 := l2) hb
  refine ⟨hn, fun z => ?_, fun z => ?_, .inr (Nat.le_trans hs hb.1), fun x c e z => ?_, fun p hp z => ?_⟩
  · rw [z, I.free] at h
    cases h
  · obtain ⟨_, o, ho, _⟩ := I.ok.funs.mem z
    exact absurd (Nat.lt_of_lt_of_le (Heap.lt_size ho) (Nat.le_trans hs hb.1)) (Nat.lt_irrefl _)
  · have q := I.freeC x c e
    rw [z, h] at q
    cases q
  · have q := (I.pin p hp).2.1
    rw [z, h] at q
    cases q
/-- zip(t, u), two tuples -/
def rZipV (K : PySem.W.Frag) (m : Nat) : List V → Hp → VK → Prop := fun vs H Q => ∃ (a b : Addr) (xs ys : List V), vs = [.ref a, .ref b] ∧ SqT K H a xs ∧ SqT K H b ys ∧
  ∀ n, m ≤ n → a < n → b < n → (∀ c, n ≤ c → c ≤ n + 4 → H c = none) → Q (.ref (n + 4)) (zipH H n a b)
theorem cr_zipV : CallR X (.type "zip") (rZipV X.K X.s_0.heap.objs.size) := by
  intro pins s σ H vs us Q I r h
  obtain ⟨a, b, xs, ys, rfl, ha, hb, q⟩ := h
  cases r with
  | cons r rr =>
    cases rr with
    | cons r' rr =>
      cases rr
      cases r
      cases r'
      obtain ⟨its, rv, p1, _⟩ := I.tuple ha
      obtain ⟨its2, rv2, p2, _⟩ := I.tuple hb
      obtain ⟨o1, ho1, _⟩ := id p1
      obtain ⟨o2, ho2, _⟩ := id p2
      refine RZ.call_zipT (show s.heap.IsTuple a its.toArray from p1) (show s.heap.IsTuple b its2.toArray from p2) fun h' hz hTI hTO h1 h2 hsz hk => ?_
      have hn : ∀ c, s.heap.objs.size ≤ c → H c = none := fun c hc => I.hok.fresh hc
      refine ⟨.ref (s.heap.objs.size + 4), zipH H s.heap.objs.size a b, ?_, rfl, q _ I.sz (Heap.lt_size ho1) (Heap.lt_size ho2) fun c hc _ => hn c hc⟩
      refine I.un (t' := s.toks) (un_new hk hn fun c hc => zipH_out fun z => absurd z.1 (Nat.not_le.mpr hc)) fun c u e => ?_
      by_cases hc : s.heap.objs.size ≤ c ∧ c ≤ s.heap.objs.size + 4
      · rw [zipH_in hc] at e
        cases e
        obtain ⟨k, rfl, hk5⟩ := nxx _ _ hc
        rw [nsu]
        match k, hk5 with
        | 0, _ => exact ⟨h1, by obtain ⟨o, e, _⟩ := h1; exact ⟨o, e⟩, fun x y p kk => p.at fun o e => kk o e⟩
        | 1, _ => exact ⟨h2, by obtain ⟨o, e, _⟩ := h2; exact ⟨o, e⟩, fun x y p kk => p.at fun o e => kk o e⟩
        | 2, _ => exact ⟨hTI, ⟨_, hTI⟩, fun x y p kk => kk _ p⟩
        | 3, _ => exact ⟨hTO, ⟨_, hTO⟩, fun x y p kk => kk _ p⟩
        | 4, _ => exact ⟨hz, ⟨_, hz⟩, fun x y p kk => kk _ p⟩
      · rw [zipH_out hc] at e
        have hlt : ∀ d v, H d = some v → zipH H s.heap.objs.size a b d = some v := fun d v e => by
          rw [zipH_out fun z => by rw [hn d z.1] at e; cases e]
          exact e
        exact (I.hok c u e).stay (fun d v _ q => hk d v q) (fun d z => hlt d _ z) fun d xs z => hlt d _ z
/-- for .. in x, x a local name that holds a new zip -/
def iZv (K : PySem.W.Frag) (m k : Nat) : TI := fun σ H R => ∃ (n a b : Addr) (H0 : Hp), σ[k]? = some (some (.ref (n + 4))) ∧ H = zipH H0 n a b ∧ m ≤ n ∧ a < n ∧ b < n ∧ (∀ c, n ≤ c → c ≤ n + 4 → H0 c = none) ∧ R (RZ.ItzT K a b) H0
theorem pi_zv {elts : List Expr} {kk : Nat} {tpos p : Pos} {k : Nat} {x : Str} (hN : X.N[k]? = some x) (hv : Vis X.env.scope x) (hd : (x == ("__debug__" : Str)) = false) (hcd : (x == ("__classdict__" : Str)) = false) :
    PI X (.Tuple elts kk tpos) (.Name x p) (iZv X.K X.s_0.heap.objs.size k) := by
  refine ⟨fun pins s σ H R I h => ?_⟩
  obtain ⟨n, a, b, H0, hs, eH0, hm, han, hbn, hn, q⟩ := h
  refine thn ((pe_var (pos := p) (i := k) hN hv hd hcd).run pins s σ H (fun v H1 => v = .ref (n + 4) ∧ H1 = H) I ⟨.ref (n + 4), hs, rfl, rfl⟩) fun u s1 ⟨v, H1, I1, r1, ev, eH⟩ => ?_
  subst ev
  rw [eH, eH0] at I1
  cases r1
  have at_ : ∀ c, n ≤ c ∧ c ≤ n + 4 → ObjOk X.prog X.w (zipH H0 n a b) s1.heap c (zipO n a b (c - n)) := fun c hc => I1.hok c _ (zipH_in hc)
  have o0 : s1.heap.IsTupleIter n a 0 := by
    have := (at_ n (na n 0 (by decide))).1
    rw [Nat.sub_self] at this
    exact this
  have o1 : s1.heap.IsTupleIter (n + 1) b 0 := by
    have := (at_ (n + 1) (na n 1 (by decide))).1
    rw [nsu] at this
    exact this
  have o2 : IsPair s1.heap (n + 2) (.ref n) (.ref (n + 1)) := by
    have := (at_ (n + 2) (na n 2 (by decide))).1
    rw [nsu] at this
    exact this
  have o3 : IsPair s1.heap (n + 3) .none .none := by
    have := (at_ (n + 3) (na n 3 (by decide))).1
    rw [nsu] at this
    exact this
  have o4 : IsZip s1.heap (n + 4) (n + 2) (n + 3) .none := by
    have := (at_ (n + 4) (na n 4 (by decide))).1
    rw [nsu] at this
    exact this
  refine wpAny_pyIter_zip o4 ?_
  refine ⟨n + 4, [n + 4, n + 2, n + 3, n, n + 1], _, _, H0, rfl, zip_drop I1 hn, RZ.turn_zipT (PySem.W.ktu_apart n a b han hbn), ⟨o4, o2, ⟨_, _, o3⟩, o0, o1⟩, fun c hc => ?_, q⟩
  have hc' : n ≤ c ∧ c ≤ n + 4 := by
    have e' : c = n + 4 ∨ c = n + 2 ∨ c = n + 3 ∨ c = n ∨ c = n + 1 := by simpa using hc
    rcases e' with z | z | z | z | z
    · rw [z]; exact na n 4 (by decide)
    · rw [z]; exact na n 2 (by decide)
    · rw [z]; exact na n 3 (by decide)
    · rw [z]; exact na n 0 (by decide)
    · rw [z]; exact na n 1 (by decide)
  exact zip_fp I1 (hn c hc'.1 hc'.2) hc' hm
end
end KH

/-! KH: x = zip(a, b); return not all([.. for .. in x]). -/
namespace KH
open PySem PySem.Spec PyProof.Rows L2
def freeAt (env : Env) (i : Nat) : Bool := match env[i]? with
  | some none => true
  | _ => false
def zipAll (k : List D → M (List D)) (ds : List D) : M Fl := match ds with
  | [.tuple xs, .tuple ys] => mb (k (pairsL xs ys)) fun zs => mb (allD [.list zs]) fun b => mb (notD b) fun d => ret (.rt d)
  | _ => stk
def evZall (i : Nat) (fl : Env → M (List D)) (vs : List Nat) (tg : Tg) (elt : Env → M D) : Env → M Fl := fun env => if freeAt env i = true then mb (fl env) (zipAll (compL vs tg none elt env)) else stk
section
variable {Γ : Ctx}
theorem EnvOk.hide {s : S3} {σ : L2.St} {env : Env} (h : EnvOk Γ s σ env) {i : Nat} (hf : freeAt env i = true) (v : Option V) : EnvOk Γ s (σ.set i v) env := by
  refine ⟨by rw [List.length_set]; exact h.len, fun j d e => ?_⟩
  by_cases hij : i = j
  · subst hij
    unfold freeAt at hf
    rw [e] at hf
    cases hf
  · obtain ⟨u, e1, a1⟩ := h.at_ j d e
    exact ⟨u, by rw [List.getElem?_set_ne hij]; exact e1, a1⟩
variable {px p1 p2 pos p3 p4 p5 p6 p7 pos2 : Pos} {a b elt : Expr} {x : Str} {i : Nat} {fl : Env → M (List D)} {f : Env → M D} {scope : Scope} {own : List (Str × Nat)} {elts : List Expr} {kk : Nat} {tpos : Pos} {tg : Tg}
theorem sss_zall (hN : Γ.N[i]? = some x) (hs : Γ.st x = true) (hvis : Vis Γ.sc x) (hd : (x == ("__debug__" : Str)) = false) (hcd : (x == ("__classdict__" : Str)) = false)
    (hz : Γ.sc.names.lookup ("zip" : Str) = some .globalImplicit) (hzm : Γ.mg ("zip" : Str) = none) (hal : Γ.sc.names.lookup ("all" : Str) = some .globalImplicit) (halm : Γ.mg ("all" : Str) = none)
    (hn : [a, b].all noStar = true) (ha : SA Γ [a, b] fl) (ok : blkC Γ.N Γ.sc scope own = true) (hg : SG (Γ.blk scope) (.Tuple elts kk tpos) tg) (he : SE (Γ.blk scope) elt f) (hv : ∀ i ∈ tg.slots, i ∈ own.map (·.2)) :
    SSs Γ [.Assign [.Name x px] (.Call (.Name "zip" p1) [a, b] [] p2) pos, .Return (some (.UnaryOp .Not (.Call (.Name "all" p3) [.ListComp elt [⟨.Tuple elts kk tpos, .Name x p4, [], 0⟩] scope p5] [] p6) p7)) pos2] (evZall i fl (own.map (·.2)) tg f) := by
  obtain ⟨tA, a1, a2⟩ := ha
  obtain ⟨g, g1, g2⟩ := hg
  obtain ⟨te, e1, e2⟩ := he
  let T : Nat → TS := fun m => tSeq (tAsg (tCB (rZipV Γ.K m) tA) (gName i)) (tSeq (tRet (tNotV (tCB (rAll Γ.K) (tCons (tLc (iZv Γ.K m i) g tYes te (own.map (·.2))) tNil)))) tNext)
  refine ⟨fun D σ H => ∀ m, T m D σ H, fun X G => ⟨fun pins s σ H D I h => ?_⟩, fun σ s env cs Dn ok0 eo h m => ?_⟩
  · have Gx := G.toGood
    have q1 : PE X (.Call (.Name "zip" p1) [a, b] [] p2) (tCB (rZipV Γ.K X.s_0.heap.objs.size) tA) := by
      have hc := cr_zipV (X := X)
      rw [Gx.K] at hc
      exact pe_callTy hc (by show X.env.scope.names.lookup _ = _; rw [Gx.sc]; exact hz) (by rw [Gx.mg]; exact hzm) (by decide +kernel) (a1 X Gx) (by decide +kernel) (by decide +kernel) (noStars hn) (no_splice p2 (by rw [List.all_cons, Bool.and_eq_true] at hn; exact hn.2))
    obtain ⟨k1, k2⟩ := G.sto x hs
    have q2 : PS X (.Assign [.Name x px] (.Call (.Name "zip" p1) [a, b] [] p2) pos) _ := ps_set G.nd (by rw [G.N]; exact hN) k1 q1 (swaps_no rfl _ _ _) k2
    have qi : PI X (.Tuple elts kk tpos) (.Name x p4) (iZv Γ.K X.s_0.heap.objs.size i) := by
      have := pi_zv (X := X) (elts := elts) (kk := kk) (tpos := tpos) (p := p4) (k := i) (x := x) (by rw [G.N]; exact hN) (by rw [G.sc]; exact hvis) hd hcd
      rw [Gx.K] at this
      exact this
    have q3 := pe_lc (pos := p5) (tt := tYes) (ifs := []) G.calm G.nd qi (blkOk_by (by rw [G.N, G.sc]; exact ok)) (fun s H C cl fp => g1 _ (good_blk Gx)) (fun s H C cl fp => pts_nil) (fun s H C cl fp => e1 _ (good_blk Gx)) (fun _ => rfl)
    have q4 := pe_callB (x := "all") (p := p3) (pos := p6) (cr_allD X Gx) (by show X.env.scope.names.lookup _ = _; rw [Gx.sc]; exact hal) (by rw [Gx.mg]; exact halm) (by decide +kernel) (pa_cons q3 pa_nil) (by decide +kernel) (by decide +kernel) (star_of rfl)
    exact (pss_cons q2 (pss_cons (ps_ret (pe_not q4)) pss_nil)).run pins s σ H D I (h X.s_0.heap.objs.size)
  · have h : Sat ((if freeAt env i = true then mb (fl env) (zipAll (compL (own.map (·.2)) tg none f env)) else stk : M Fl) cs) (BehS Γ s Dn) (BehX Γ s) := h
    by_cases hf : freeAt env i = true
    · rw [if_pos hf] at h
      show tA σ s.H _
      refine a2 σ s env cs _ ok0 eo ?_
      have h := sat_bind.mp h
      refine h.imp (fun ds cs1 h => ?_) fun _ _ z => z
      intro vs s1 st1 ok1 aa
      unfold zipAll at h
      split at h
      · rename_i xs ys
        cases aa with
        | cons ax t =>
          cases t with
          | cons ay t =>
            cases t
            cases ax with
            | @tup pa va _ q1 z1 q2 =>
              cases ay with
              | @tup pb vb _ p1 z2 p2 =>
                refine ⟨pa, pb, va, vb, rfl, seqT ok1.same q1, seqT ok1.same p1, fun n hm han hbn hfree => ?_⟩
                have hlen : i < σ.length := by
                  rw [eo.len]
                  unfold freeAt at hf
                  cases e : env[i]? with
                  | none => rw [e] at hf; cases hf
                  | some o => exact (List.getElem?_eq_some_iff.mp e).1
                show tNotV (tCB (rAll Γ.K) (tCons (tLc (iZv Γ.K m i) g tYes te (own.map (·.2))) tNil)) (σ.set i (some (.ref (n + 4)))) (zipH s1.H n pa pb) Dn.rt
                refine ⟨n, pa, pb, s1.H, List.getElem?_set_self hlen, rfl, hm, han, hbn, hfree, ?_⟩
                have wk : WalkOk Γ s1 (pairsL xs ys) (RZ.ItzT Γ.K pa pb) := walk_pairs (walk_zipT rfl) z1 (fun s2 cs2 st ok => ⟨seqT ok.same (seqT st.hs q1), seqT ok.same (seqT st.hs p1)⟩) q2 p2
                have h := sat_bind.mp h
                show tLcJ (RZ.ItzT Γ.K pa pb) g tYes te (own.map (·.2)) (σ.set i (some (.ref (n + 4)))) s1.H (fun v H2 => rAll Γ.K [v] H2 fun w H3 => ∃ c, w = .bl c ∧ Dn.rt (.bl (!c)) H3)
                refine comp_at (Γ := Γ) (scope := scope) (cond := none) hv g2 rfl e2 (s := s1) ((eo.step st1).hide hf _) (Step.refl s1) ok1 wk ?_
                refine h.imp (fun zs cs2 h => ?_) fun _ _ z => z.step st1
                intro p vs2 s2 st2 ok2 r
                obtain ⟨y1, y2, y3⟩ := r.freeze st2 ok2
                have h := sat_bind.mp h
                refine allD_ok (Γ := Γ) (s := ⟨s2.H, upd s2.Hs p (.lst vs2), s2.ca⟩) (cs := cs2) (xs := [.ref p]) (ds := [.list zs]) _ y2 (.cons y3 .nil) ?_
                refine h.imp (fun d cs3 h => ?_) fun _ _ z => z.step (st1.trans y1)
                intro v3 s3 st3 ok3 a3
                cases d with
                | bool c =>
                  cases a3
                  exact ⟨c, rfl, h _ s3 ((st1.trans y1).trans st3) ok3 (.bl _)⟩
                | _ => exact h.elim
      · exact h.elim
    · rw [if_neg hf] at h
      exact h.elim
end
end KH

/-! KH: comprehensions of two clauses. -/
namespace KH
open PySem PySem.Spec PyProof.Rows L2
/-- the items, one by one; n: how many there are so far -/
def comp2L (vs : List Nat) (tg : Tg) (vs1 : List Nat) (it1 : Env → M (List D)) (tg1 : Tg) (cond : Option (Env → M D)) (elt : Env → M D) (env : Env) : List D → Nat → M (List D)
  | [], _ => ret []
  | d :: ds, n => match setTg tg d (wipeE env vs) with
    | none => stk
    | some e1 => mb (nox (it1 e1)) fun ds1 => if n + ds1.length ≤ 16777216 then mb (compL vs1 tg1 cond elt e1 ds1) fun ys => mb (comp2L vs tg vs1 it1 tg1 cond elt env ds (n + ys.length)) fun zs => ret (ys ++ zs) else stk
def evComp2 (vs : List Nat) (tg : Tg) (it : Env → M (List D)) (vs1 : List Nat) (it1 : Env → M (List D)) (tg1 : Tg) (cond : Option (Env → M D)) (elt : Env → M D) : Env → M (List D) := fun env => mb (it env) fun ds => comp2L vs tg vs1 it1 tg1 cond elt env ds 0
/-- what the body of a clause asks -/
def tBody (tt1 : TT) (te : TE) (D : Addr) (σ3 : L2.St) (H5 : Hp) (Nx1 : Hp → Prop) : Prop := tt1 σ3 H5 fun b H6 => if b = true then te σ3 H6 fun y H7 => ∃ acc, H7 D = some (.lst acc) ∧ acc.length < sizeLine ∧ Nx1 (upd H7 D (.lst (acc ++ [y]))) else Nx1 H6
/-- an inner walk -/
theorem inner_it {J : It} {n : Nat} {G : Hp → Prop} {Y : Nat → Hp → V → Hp → Prop} (w : Walk J n G Y) {g : TG} {vs : List Nat} {σ : L2.St} {H4 : Hp} {B : L2.St → Hp → (Hp → Prop) → Prop} {Nx : Hp → Prop} (Pv : Nat → Hp → Prop) (h0 : Pv 0 H4) (hG : ∀ i H, i ≤ n → Pv i H → G H)
    (hs : ∀ i x H H', i < n → Pv i H → Y i H x H' → g x (L2.wipe σ vs) H' fun σ3 H5 => L2.wipe σ3 vs = L2.wipe σ vs ∧ B σ3 H5 (Pv (i + 1))) (hd : ∀ H, Pv n H → Nx H) :
    ∃ W1 : Nat → Nat → Hp → Prop, (∃ m, W1 0 m H4) ∧ ∀ j k H, W1 j k H →
      (J.stop j H ∧ Nx H) ∨ (J.go j H ∧ ∃ Nx1 : Hp → Prop, (∀ H', Nx1 H' → ∃ k', k' < k ∧ W1 (j + 1) k' H') ∧ ∀ x H', J.yld j H x H' → g x (L2.wipe σ vs) H' fun σ3 H5 => L2.wipe σ3 vs = L2.wipe σ vs ∧ B σ3 H5 Nx1) := by
  refine ⟨fun i m H => m = n - i ∧ i ≤ n ∧ Pv i H, ⟨n, by simp, Nat.zero_le _, h0⟩, ?_⟩
  rintro i m H ⟨rfl, hi, p⟩
  have q := hG i H hi p
  by_cases hlt : i < n
  · refine .inr ⟨w.goes i H hlt q, Pv (i + 1), fun H' p' => ⟨n - (i + 1), by omega, rfl, hlt, p'⟩, fun x H' y => hs i x H H' hlt p (w.yields i H x H' hlt q y)⟩
  · have e : i = n := by omega
    subst e
    exact .inl ⟨w.stops H q, hd H p⟩
section
variable {Γ : Ctx}
/-- the inner clause: what it gives is put behind the list that is being made -/
theorem comp_in {scope : Scope} {vs1 : List Nat} {g1 : TG} {tt1 : TT} {te : TE} {tg1 : Tg} {cond : Option (Env → M D)} {elt : Env → M D} (hv : ∀ i ∈ tg1.slots, i ∈ vs1)
    (hg : SemG (Γ.blk scope) g1 tg1) (ht : SemTt (Γ.blk scope) tt1 cond) (he : SemE (Γ.blk scope) te elt) {σ2 : L2.St} {s1 s2 : S3} {env1 : Env} {cs2 : CS} {ds1 : List D} {J : It} {p : Addr} {acc : List V} {accD : List D}
    (eo : EnvOk (Γ.blk scope) s2 σ2 env1) (m : Made Γ s1 s2 cs2 p acc accD) (hw : WalkOk (Γ.blk scope) s2 ds1 J) (hz : acc.length + ds1.length ≤ 16777216) {R : List D → CS → Prop} {RX : Exc → CS → Prop} (h : Sat (compL vs1 tg1 cond elt env1 ds1 cs2) R RX)
    (Nx : Hp → Prop) (hd : ∀ s3 cs3 acc' rest, Made Γ s1 s3 cs3 p acc' (accD ++ rest) → acc'.length ≤ acc.length + ds1.length → R rest cs3 → Nx s3.H) :
    ∃ W1 : Nat → Nat → Hp → Prop, (∃ m, W1 0 m s2.H) ∧ ∀ j k H, W1 j k H →
      (J.stop j H ∧ Nx H) ∨ (J.go j H ∧ ∃ Nx1 : Hp → Prop, (∀ H', Nx1 H' → ∃ k', k' < k ∧ W1 (j + 1) k' H') ∧ ∀ x H', J.yld j H x H' → g1 x (L2.wipe σ2 vs1) H' fun σ3 H5 => L2.wipe σ3 vs1 = L2.wipe σ2 vs1 ∧ tBody tt1 te p σ3 H5 Nx1) := by
  obtain ⟨G, Y, w, hz2, hw⟩ := hw
  refine inner_it w (B := fun σ3 H5 Nx1 => tBody tt1 te p σ3 H5 Nx1) (fun i H => ∃ s3 cs3 acc' accD', s3.H = H ∧ Made Γ s1 s3 cs3 p acc' accD' ∧ StepH s2 s3 ∧ acc'.length ≤ acc.length + i ∧ ∃ pre, accD' = accD ++ pre ∧ Sat (compL vs1 tg1 cond elt env1 (ds1.drop i) cs3) (fun rest cs4 => R (pre ++ rest) cs4) RX) ?_ ?_ ?_ ?_
  · exact ⟨s2, cs2, acc, accD, rfl, m, StepH.refl _, Nat.le_refl _, [], by rw [List.append_nil], by rw [List.drop_zero]; exact h⟩
  · rintro i H _ ⟨s3, cs3, acc', accD', rfl, m3, st, _⟩
    exact (hw s3 cs3 st m3.ok).1
  · rintro i x H H' hlt ⟨s3, cs3, acc', accD', rfl, m3, st, hacc, pre, rfl, h⟩ y
    obtain ⟨s4, rfl, st4, ok4, d, hd', ad⟩ := (hw s3 cs3 st m3.ok).2 i x H' hlt y
    have m4 := m3.next st4 ok4
    rw [List.drop_eq_getElem_cons hlt] at h
    have hdd : ds1[i] = d := by rw [List.getElem?_eq_getElem hlt] at hd'; exact Option.some.inj hd'
    rw [hdd] at h
    unfold compL at h
    have st24 := st.trans st4.toH
    have eo4 : EnvOk (Γ.blk scope) s4 σ2 env1 := ⟨eo.len, fun i d e => let ⟨v, e1, a⟩ := eo.at_ i d e; ⟨v, e1, At.stepH (Γ := Γ.blk scope) a st24⟩⟩
    cases e1 : setTg tg1 d (wipeE env1 vs1) with
    | none => rw [e1] at h; exact h.elim
    | some env2 =>
      rw [e1] at h
      refine hg (L2.wipe σ2 vs1) s4 (wipeE env1 vs1) env2 cs3 x d _ ok4 (EnvOk.wipe (Γ := Γ.blk scope) eo4 vs1) ad e1 fun σ3 eo5 ap => ?_
      refine ⟨(wipe_same ap hv).trans wipe_wipe, ?_⟩
      have go : ∀ (s5 : S3) (cs5 : CS), Step s4 s5 → OkS Γ.K s5 cs5 → Sat (mb (nox (elt env2)) (fun y => mb (compL vs1 tg1 cond elt env1 (List.drop (i + 1) ds1)) fun ys => ret (y :: ys)) cs5) (fun rest cs4 => R (pre ++ rest) cs4) RX →
          te σ3 s5.H fun y H4 => ∃ acc2, H4 p = some (.lst acc2) ∧ acc2.length < sizeLine ∧ ∃ s3 cs3 acc'' accD', s3.H = upd H4 p (.lst (acc2 ++ [y])) ∧ Made Γ s1 s3 cs3 p acc'' accD' ∧ StepH s2 s3 ∧ acc''.length ≤ acc.length + (i + 1) ∧ ∃ pre, accD' = accD ++ pre ∧ Sat (compL vs1 tg1 cond elt env1 (ds1.drop (i + 1)) cs3) (fun rest cs4 => R (pre ++ rest) cs4) RX := by
        intro s5 cs5 st5 ok5 h
        refine he σ3 s5 env2 cs5 _ ok5 (eo5.step (Γ := Γ.blk scope) st5) ?_
        have h := sat_nox.mp (sat_bind.mp h)
        refine h.imp (fun dy cs6 h => ?_) fun _ _ z => z.elim
        intro y s6 st6 ok6 a6
        have m6 := (m4.next st5 ok5).next st6 ok6
        have h := sat_bind.mp h
        have st26 := (st24.trans st5.toH).trans st6.toH
        refine ⟨acc', m6.at_, by rw [line_eq]; omega, _, cs6, acc' ++ [y], (accD ++ pre) ++ [dy], rfl, m6.put a6, ⟨st26.hs, st26.ca⟩, by rw [List.length_append, List.length_singleton]; omega, pre ++ [dy], by rw [List.append_assoc], ?_⟩
        refine h.imp (fun ys cs7 h => ?_) fun _ _ z => z
        rw [List.append_assoc]
        exact h
      cases cond with
      | none =>
        have ht : tt1 = tYes := ht
        subst ht
        show tYes σ3 s4.H _
        dsimp only [tYes]
        rw [if_pos rfl]
        exact go s4 cs3 (Step.refl _) ok4 h
      | some c =>
        have ht : SemT (Γ.blk scope) tt1 c := ht
        refine ht σ3 s4 env2 cs3 _ ok4 eo5 ?_
        have h := sat_nox.mp (sat_bind.mp h)
        refine h.imp (fun b cs5 h => ?_) fun _ _ z => z.elim
        cases b with
        | bool k =>
          refine ⟨k, rfl, fun s5 st5 ok5 => ?_⟩
          cases k with
          | true => exact iteT (go s5 cs5 st5 ok5 h)
          | false => exact iteF ⟨s5, cs5, acc', accD ++ pre, rfl, m4.next st5 ok5, st24.trans st5.toH, by omega, pre, rfl, h⟩
        | _ => exact h.elim
  · rintro H ⟨s3, cs3, acc', accD', rfl, m3, st, hacc, pre, rfl, h⟩
    rw [List.drop_length] at h
    have h : R (pre ++ []) cs3 := h
    rw [List.append_nil] at h
    exact hd s3 cs3 acc' pre m3 hacc h
theorem comp2_at {scope : Scope} {vs vs1 : List Nat} {g g1 : TG} {tt1 : TT} {te : TE} {wi1 : TI} {tg tg1 : Tg} {it1 : Env → M (List D)} {cond : Option (Env → M D)} {elt : Env → M D} (hv : ∀ i ∈ tg.slots, i ∈ vs) (hv1 : ∀ i ∈ tg1.slots, i ∈ vs1)
    (hg : SemG (Γ.blk scope) g tg) (hi1 : SemI (Γ.blk scope) wi1 it1) (hg1 : SemG (Γ.blk scope) g1 tg1) (ht : SemTt (Γ.blk scope) tt1 cond) (he : SemE (Γ.blk scope) te elt) {σ : L2.St} {s s1 : S3} {env : Env} {cs1 : CS} {Q : VK} {ds : List D} {J : It} (eo : EnvOk Γ s σ env) (st1 : Step s s1) (ok1 : OkS Γ.K s1 cs1) (hw : WalkOk Γ s1 ds J)
    (h : Sat (comp2L vs tg vs1 it1 tg1 cond elt env ds 0 cs1) (BehF Γ s Q) (BehX Γ s)) :
    ∀ D, s1.H D = none → ∃ W : Nat → Nat → Hp → Prop, (∃ m, W 0 m (upd s1.H D (.lst []))) ∧ ∀ i m H, W i m H →
  (J.stop i H ∧ Q (.ref D) H) ∨ (J.go i H ∧ ∃ Nx : Hp → Prop, (∀ H', Nx H' → ∃ m', m' < m ∧ W (i + 1) m' H') ∧ ∀ x H', J.yld i H x H' → g x (L2.wipe σ vs) H' fun σ2 H2 => L2.wipe σ2 vs = L2.wipe σ vs ∧ tYes σ2 H2 fun b H3 =>
    if b = true then wi1 σ2 H3 fun J1 H4 => ∃ W1 : Nat → Nat → Hp → Prop, (∃ m, W1 0 m H4) ∧ ∀ j k H, W1 j k H →
      (J1.stop j H ∧ Nx H) ∨ (J1.go j H ∧ ∃ Nx1 : Hp → Prop, (∀ H', Nx1 H' → ∃ k', k' < k ∧ W1 (j + 1) k' H') ∧ ∀ x H', J1.yld j H x H' → g1 x (L2.wipe σ2 vs1) H' fun σ3 H5 => L2.wipe σ3 vs1 = L2.wipe σ2 vs1 ∧ tt1 σ3 H5 fun b H6 =>
        if b = true then te σ3 H6 fun y H7 => ∃ acc, H7 D = some (.lst acc) ∧ acc.length < sizeLine ∧ Nx1 (upd H7 D (.lst (acc ++ [y]))) else Nx1 H6)
    else Nx H3) := by
  intro p hp
  obtain ⟨G, Y, w, hz, hw⟩ := hw
  have key := inner_it (vs := vs) (σ := σ) w (g := g) (H4 := upd s1.H p (.lst [])) (Nx := Q (.ref p)) (B := fun σ2 H2 Nx => tYes σ2 H2 fun b H3 =>
    if b = true then wi1 σ2 H3 fun J1 H4 => ∃ W1 : Nat → Nat → Hp → Prop, (∃ m, W1 0 m H4) ∧ ∀ j k H, W1 j k H →
      (J1.stop j H ∧ Nx H) ∨ (J1.go j H ∧ ∃ Nx1 : Hp → Prop, (∀ H', Nx1 H' → ∃ k', k' < k ∧ W1 (j + 1) k' H') ∧ ∀ x H', J1.yld j H x H' → g1 x (L2.wipe σ2 vs1) H' fun σ3 H5 => L2.wipe σ3 vs1 = L2.wipe σ2 vs1 ∧ tBody tt1 te p σ3 H5 Nx1)
    else Nx H3)
    (fun i H => ∃ s2 cs2 acc accD, s2.H = H ∧ Made Γ s1 s2 cs2 p acc accD ∧ acc.length ≤ 16777216 ∧ Sat (comp2L vs tg vs1 it1 tg1 cond elt env (ds.drop i) acc.length cs2) (fun rest cs3 => BehF Γ s Q (accD ++ rest) cs3) (BehX Γ s)) ?_ ?_ ?_ ?_
  · exact key
  · obtain ⟨q1, q2, q3⟩ := raw_new (vs := []) (ds := []) (Step.refl s1) ok1 hp (Nat.zero_le _) .nil
    exact ⟨_, cs1, [], [], rfl, ⟨q1, q2, upd_same, q3.hs, q3.ca, q3.new, .nil⟩, Nat.zero_le _, by rw [List.drop_zero]; exact h⟩
  · rintro i H _ ⟨s2, cs2, acc, accD, rfl, m, _⟩
    exact (hw s2 cs2 m.st.toH m.ok).1
  · rintro i x H H' hlt ⟨s2, cs2, acc, accD, rfl, m, hacc, h⟩ y
    obtain ⟨s3, rfl, st3, ok3, d, hd, ad⟩ := (hw s2 cs2 m.st.toH m.ok).2 i x H' hlt y
    have m3 := m.next st3 ok3
    rw [List.drop_eq_getElem_cons hlt] at h
    have hdd : ds[i] = d := by rw [List.getElem?_eq_getElem hlt] at hd; exact Option.some.inj hd
    rw [hdd] at h
    unfold comp2L at h
    have eo3 : EnvOk Γ s3 σ env := (eo.step st1).step (m.st.trans st3)
    cases e1 : setTg tg d (wipeE env vs) with
    | none => rw [e1] at h; exact h.elim
    | some env1 =>
      rw [e1] at h
      refine hg (L2.wipe σ vs) s3 (wipeE env vs) env1 cs2 x d _ ok3 (eo3.wipe vs).blk ad e1 fun σ2 eo2 ap => ?_
      refine ⟨(wipe_same ap hv).trans wipe_wipe, ?_⟩
      show tYes σ2 s3.H _
      dsimp only [tYes]
      rw [if_pos rfl]
      refine hi1 σ2 s3 env1 cs2 _ ok3 eo2 ?_
      have h := sat_nox.mp (sat_bind.mp h)
      refine h.imp (fun ds1 cs4 h => ?_) fun _ _ z => z.elim
      intro J1 s4 st4 ok4 hw1
      have m4 := m3.next st4 ok4
      by_cases hb : acc.length + ds1.length ≤ 16777216
      · rw [if_pos hb] at h
        have h := sat_bind.mp h
        refine comp_in hv1 hg1 ht he (eo2.step (Γ := Γ.blk scope) st4) m4 hw1 hb h _ fun s5 cs5 acc' rest m5 hl q => ?_
        have hal : acc'.length = acc.length + rest.length := by
          have e1 := m4.all.len
          have e2 := m5.all.len
          rw [e2, List.length_append, e1]
        refine ⟨s5, cs5, acc', accD ++ rest, rfl, m5, by omega, ?_⟩
        rw [hal]
        refine (sat_bind.mp q).imp (fun zs cs6 h => ?_) fun _ _ z => z
        rw [List.append_assoc]
        exact h
      · rw [if_neg hb] at h; exact h.elim
  · rintro H ⟨s2, cs2, acc, accD, rfl, m, hacc, h⟩
    rw [List.drop_length] at h
    have h : BehF Γ s Q (accD ++ []) cs2 := h
    rw [List.append_nil] at h
    have hn : s.H p = none := by
      by_cases hc : p ∈ s.ca
      · obtain ⟨l, e⟩ := st1.ca
        obtain ⟨o, e'⟩ := ok1.live p (by rw [e]; exact List.mem_append_left _ hc)
        rw [hp] at e'; cases e'
      · cases e : s.H p with
        | none => rfl
        | some o => rw [st1.keep p o hc e] at hp; cases hp
    exact h p acc s2 (st1.trans m.st) m.ok ⟨m.at_, m.hs, m.ca, hn, by rw [line_eq]; exact hacc, m.all⟩
theorem sem_comp2 {scope : Scope} {vs vs1 : List Nat} {wi wi1 : TI} {g g1 : TG} {tt1 : TT} {te : TE} {it it1 : Env → M (List D)} {tg tg1 : Tg} {cond : Option (Env → M D)} {elt : Env → M D} (hv : ∀ i ∈ tg.slots, i ∈ vs) (hv1 : ∀ i ∈ tg1.slots, i ∈ vs1)
    (hi : SemI Γ wi it) (hg : SemG (Γ.blk scope) g tg) (hi1 : SemI (Γ.blk scope) wi1 it1) (hg1 : SemG (Γ.blk scope) g1 tg1) (ht : SemTt (Γ.blk scope) tt1 cond) (he : SemE (Γ.blk scope) te elt) : SemF Γ (tLc2 wi g tYes wi1 g1 tt1 te vs vs1) (evComp2 vs tg it vs1 it1 tg1 cond elt) := by
  intro σ s env cs Q ok eo h
  refine hi σ s env cs _ ok eo ?_
  have h := sat_bind.mp h
  refine h.imp (fun ds cs1 h => ?_) fun _ _ z => z
  intro J s1 st1 ok1 hw
  exact comp2_at hv hv1 hg hi1 hg1 ht he eo st1 ok1 hw h
variable {pos pos' pc : Pos} {ptg pit ptg1 pit1 elt : Expr} {ifs1 : List Expr} {scope : Scope} {own : List (Str × Nat)} {vs1 : List Nat} {it it1 : Env → M (List D)} {tg tg1 : Tg} {cond : Option (Env → M D)} {f : Env → M D}
theorem sf_comp2 (hi : SI Γ ptg pit it) (ok : blkC Γ.N Γ.sc scope own = true) (hg : SG (Γ.blk scope) ptg tg) (hi1 : SI (Γ.blk scope) ptg1 pit1 it1) (hg1 : SG (Γ.blk scope) ptg1 tg1) (ht : SP1 (Γ.blk scope) ifs1 cond) (he : SE (Γ.blk scope) elt f) (hv : ∀ i ∈ tg.slots, i ∈ own.map (·.2)) (hv1 : ∀ i ∈ tg1.slots, i ∈ vs1) (hvv : ∀ i ∈ vs1, i ∈ own.map (·.2)) (hs : notSet pit = true) (hs1 : notSet pit1 = true) :
    SF Γ (.ListComp elt [⟨ptg, pit, [], 0⟩, ⟨ptg1, pit1, ifs1, 0⟩] scope pos) (evComp2 (own.map (·.2)) tg it vs1 it1 tg1 cond f) := by
  obtain ⟨wi, i1, i2⟩ := hi
  obtain ⟨g, g1, g2⟩ := hg
  obtain ⟨wi1, j1, j2⟩ := hi1
  obtain ⟨g', k1, k2⟩ := hg1
  obtain ⟨tt, t1, t2⟩ := ht
  obtain ⟨te, e1, e2⟩ := he
  exact ⟨tLc2 wi g tYes wi1 g' tt te (own.map (·.2)) vs1, fun X G => pe_lc2 G.calm G.nd (i1 X G) (blkOk_by (by rw [G.N, G.sc]; exact ok)) hvv (fun s H C cl fp => g1 _ (good_blk G)) (fun s H C cl fp => pts_nil) (fun s H C cl fp => j1 _ (good_blk G)) (fun s H C cl fp => k1 _ (good_blk G)) (fun s H C cl fp => t1 _ (good_blk G)) (fun s H C cl fp => e1 _ (good_blk G)) (folded_of hs _) (fun env x => folded_of hs1 env x), sem_comp2 hv hv1 i2 g2 j2 k2 t2 e2⟩
theorem ss_setComp2 {i : Nat} {x : Str} (cel : Bool) (hN : Γ.N[i]? = some x) (hst : Γ.st x = true)
    (hi : SI Γ ptg pit it) (ok : blkC Γ.N Γ.sc scope own = true) (hg : SG (Γ.blk scope) ptg tg) (hi1 : SI (Γ.blk scope) ptg1 pit1 it1) (hg1 : SG (Γ.blk scope) ptg1 tg1) (ht : SP1 (Γ.blk scope) ifs1 cond) (he : SE (Γ.blk scope) elt f) (hv : ∀ i ∈ tg.slots, i ∈ own.map (·.2)) (hv1 : ∀ i ∈ tg1.slots, i ∈ vs1) (hvv : ∀ i ∈ vs1, i ∈ own.map (·.2)) (hs : notSet pit = true) (hs1 : notSet pit1 = true) :
    SS Γ (.Assign [.Name x pos'] (.ListComp elt [⟨ptg, pit, [], 0⟩, ⟨ptg1, pit1, ifs1, 0⟩] scope pc) pos) (evSet i (boxF cel (evComp2 (own.map (·.2)) tg it vs1 it1 tg1 cond f))) := by
  obtain ⟨wi, i1, i2⟩ := hi
  obtain ⟨g, g1, g2⟩ := hg
  obtain ⟨wi1, j1, j2⟩ := hi1
  obtain ⟨g', k1', k2'⟩ := hg1
  obtain ⟨tt, t1, t2⟩ := ht
  obtain ⟨te, e1, e2⟩ := he
  have hF : SemF Γ (tLc2 wi g tYes wi1 g' tt te (own.map (·.2)) vs1) (evComp2 (own.map (·.2)) tg it vs1 it1 tg1 cond f) := sem_comp2 hv hv1 i2 g2 j2 k2' t2 e2
  have hE : SemE Γ (tLc2 wi g tYes wi1 g' tt te (own.map (·.2)) vs1) (boxF cel (evComp2 (own.map (·.2)) tg it vs1 it1 tg1 cond f)) := sem_boxF cel hF
  refine ⟨tAsg (tLc2 wi g tYes wi1 g' tt te (own.map (·.2)) vs1) (gName i), fun X G => ?_, sem_set hE⟩
  obtain ⟨k1, k2⟩ := G.sto x hst
  have hb : blkC X.N X.env.scope scope own = true := by rw [G.N, G.sc]; exact ok
  by_cases hsw : swpB X.env.scope scope x pos' pc = true
  · have hsw' := hsw
    unfold swpB at hsw'
    rw [Bool.and_eq_true, Bool.and_eq_true] at hsw'
    have hl : X.env.scope.names.lookup x = some .local := eq_of_beq hsw'.1.1
    refine ps_setLc2 G.calm G.nd (by rw [G.N]; exact hN) hl ?_ (i1 X G.toGood) (blkOk_by hb) hvv (fun s H C cl fp => g1 _ (good_blk G.toGood)) (fun s H C cl fp => pts_nil) (fun s H C cl fp => j1 _ (good_blk G.toGood)) (fun s H C cl fp => k1' _ (good_blk G.toGood)) (fun s H C cl fp => t1 _ (good_blk G.toGood)) (fun s H C cl fp => e1 _ (good_blk G.toGood)) (folded_of hs _) (fun env x => folded_of hs1 env x)
    exact sw_true G.kind hl hsw'.1.2 (by simpa using hsw'.2)
  · refine ps_set G.nd (by rw [G.N]; exact hN) k1 (pe_lc2 G.calm G.nd (i1 X G.toGood) (blkOk_by hb) hvv (fun s H C cl fp => g1 _ (good_blk G.toGood)) (fun s H C cl fp => pts_nil) (fun s H C cl fp => j1 _ (good_blk G.toGood)) (fun s H C cl fp => k1' _ (good_blk G.toGood)) (fun s H C cl fp => t1 _ (good_blk G.toGood)) (fun s H C cl fp => e1 _ (good_blk G.toGood)) (folded_of hs _) (fun env x => folded_of hs1 env x)) ?_ k2
    have hbk : X.env.blockKind = .function := by unfold PySem.Env.blockKind; rw [G.kind]; rfl
    have hsw : swpB X.env.scope scope x pos' pc = false := by simpa using hsw
    unfold swpB at hsw
    show (pure (X.env.blockKind == .function && X.env.kindOf x == some .local && pos'.line == pc.line && !(scope.names.any fun (n, k) => n == x && (k == .local || k == .cell))) : Sem Bool) = pure false
    rw [hbk]
    show (pure ((true && X.env.scope.names.lookup x == some .local) && pos'.line == pc.line && !(scope.names.any fun (n, k) => n == x && (k == .local || k == .cell))) : Sem Bool) = pure false
    rw [Bool.true_and, hsw]
end
end KH

/-! KH: programs as trees: what they do (ev), when a text is one (chk). -/
namespace KH
open PySem PySem.Spec PyProof.Rows L2
inductive Cmp1 where
  | lt | le | gt | ge | eq | ne | is | isn | in_ | nin
  deriving DecidableEq
def Cmp1.op : Cmp1 → CmpOp
  | .lt => .Lt | .le => .LtE | .gt => .Gt | .ge => .GtE | .eq => .Eq | .ne => .NotEq | .is => .Is | .isn => .IsNot | .in_ => .In | .nin => .NotIn
def Cmp1.fn : Cmp1 → D → D → M D
  | .lt => cmpD .Lt | .le => cmpD .LtE | .gt => cmpD .Gt | .ge => cmpD .GtE | .eq => eqD | .ne => neD | .is => isD | .isn => isnD | .in_ => inD false | .nin => inD true
inductive Bop where
  | add | sub | mul | fdiv | mod | pow
  deriving DecidableEq
def Bop.op : Bop → Operator
  | .add => .Add | .sub => .Sub | .mul => .Mult | .fdiv => .FloorDiv | .mod => .Mod | .pow => .Pow
def Bop.fn : Bop → D → D → M D
  | .add => addD | .sub => subD | .mul => mulD | .fdiv => fdivD | .mod => modD | .pow => powD
inductive Blt where
  | len | abs | int | tuple | list | sum | all | any | sorted | min | max | str
  deriving DecidableEq
def Blt.name : Blt → String
  | .len => "len" | .abs => "abs" | .int => "int" | .tuple => "tuple" | .list => "list" | .sum => "sum" | .all => "all" | .any => "any" | .sorted => "sorted" | .min => "min" | .max => "max" | .str => "str"
def Blt.fn : Blt → List D → M D
  | .len => lenD | .abs => absD | .int => intD | .tuple => tupD | .list => listD | .sum => sumD | .all => allD | .any => anyD | .sorted => sortedD | .min => bestD PySem.W.minD minI | .max => bestD PySem.W.maxD maxI | .str => strD
mutual
inductive E where
  | hole | nev
  | var (i : Nat) | int (i : Int) | bl (b : Bool) | non | str (s : Str) | con (c : Nat)
  | tup (es : Es) | disp (cel : Bool) (es : Es)
  | bin (o : Bop) (a b : E) | neg (a : E) | not (a : E) | and (a b : E) | or (a b : E) | one (a : E)
  | cmp (c : Cmp1) (a b : E) | chn (c d : Cmp1) (a b e : E) | ife (c a b : E)
  | call (f : Nat) (es : Es) | blt (b : Blt) (es : Es) | isi (t : Ty) (e : E)
  | ix (a i : E) | sl (a lo hi : E)
  | comp (cel : Bool) (vs : List Nat) (tg : Tg) (it : It) (c e : E)
  | comp2 (cel : Bool) (vs vs1 : List Nat) (tg tg1 : Tg) (it it1 : It) (c e : E)
  | lrg1 (cel : Bool) (a : E) | lrg2 (cel : Bool) (a b : E) | rep (cel : Bool) (a b : E) | lsc (cel : Bool) (a : E)
  | app (a e : E) | pop (a : E) | popAt (a i : E) | sset (a : E) | lset (a : E) | idx (a e : E) | rev (a : E)
inductive Es where
  | nil
  | cons (e : E) (es : Es)
inductive It where
  | seq (e : E) | rng1 (a : E) | rng2 (a b : E) | rng3 (a b c : E) | zip (a b : E) | enm (a : E)
end
mutual
inductive S where
  | set (i : Nat) (e : E) | setT (is : List Nat) (e : E) | par (is : List Nat) (es : Es) | setI (o i v : E) | aug (i : Nat) (e : E) | drop (e : E) | doc | pass | ret (e : E) | retN
  | iff (c : E) (a b : Ss) | forS (tg : Tg) (it : It) (b : Ss) | wh (n : Nat) (c : E) (b : Ss) | raise (c : Nat) | never
inductive Ss where
  | nil
  | cons (s : S) (ss : Ss)
  | frz (i : Nat) (ss : Ss)
  | clr (is : List Nat) (ss : Ss)
  | zall (i : Nat) (a b : E) (vs : List Nat) (tg : Tg) (e : E)
end
def E.isHole : E → Bool
  | .hole => true
  | _ => false
def partOf (h : Bool) (f : Env → M D) : Env → M (Option Int) := if h then evNoPart else evPart f
def condOf (h : Bool) (f : Env → M D) : Option (Env → M D) := if h then none else some f
structure Tab where
  fns : List Str
  cons : List (Str × D)
  excs : List Str
abbrev box := boxF
def evDisp (fl : Env → M (List D)) : Env → M (List D) := fun env => mb (fl env) fun xs => if xs.length ≤ 16777216 then ret xs else stk
section
variable (R : Nat → List D → M D) (T : Tab)
def evCon (c : Nat) : Env → M D := match T.cons[c]? with
  | some (_, d) => evC d
  | none => fun _ => stk
mutual
def evE : E → Env → M D
  | .hole => fun _ => stk
  | .nev => fun _ => stk
  | .var i => evVar i
  | .int i => evC (.int i)
  | .bl b => evC (.bool b)
  | .non => evC .none
  | .str s => evC (.str s)
  | .con c => evCon T c
  | .tup es => evTup (evEs es)
  | .disp cel es => box cel (evDisp (evEs es))
  | .bin o a b => ev2 o.fn (evE a) (evE b)
  | .neg a => ev1 negD (evE a)
  | .not a => ev1 notD (evE a)
  | .and a b => evAnd (evE a) (evE b)
  | .or a b => evOr (evE a) (evE b)
  | .one a => evE a
  | .cmp c a b => ev2 c.fn (evE a) (evE b)
  | .chn c d a b e => ev3 c.fn d.fn (evE a) (evE b) (evE e)
  | .ife c a b => evIf (evE c) (evE a) (evE b)
  | .call f es => evA (R f) (evEs es)
  | .blt b es => evA b.fn (evEs es)
  | .isi t e => ev1 (isiD t) (evE e)
  | .ix a i => ev2 ixD (evE a) (evE i)
  | .sl a lo hi => evSlice (evE a) (partOf lo.isHole (evE lo)) (partOf hi.isHole (evE hi))
  | .comp cel vs tg it c e => box cel (evComp vs tg (evI it) (condOf c.isHole (evE c)) (evE e))
  | .comp2 cel vs vs1 tg tg1 it it1 c e => box cel (evComp2 vs tg (evI it) vs1 (evI it1) tg1 (condOf c.isHole (evE c)) (evE e))
  | .lrg1 cel a => box cel (evLrg1 (evE a))
  | .lrg2 cel a b => box cel (evLrg2 (evE a) (evE b))
  | .rep cel a b => box cel (evRepF (evE a) (evE b))
  | .lsc cel a => box cel (evListF (evE a))
  | .app a e => evMt appDs (evE a) (evCons (evE e) evNil)
  | .pop a => ev1 popD (evE a)
  | .popAt a i => evMt popAtDs (evE a) (evCons (evE i) evNil)
  | .sset a => evA ssetD (evCons (evE a) evNil)
  | .lset a => evA lsetD (evCons (evE a) evNil)
  | .idx a i => evMt idxD (evE a) (evCons (evE i) evNil)
  | .rev a => ev1 revD (evE a)
def evEs : Es → Env → M (List D)
  | .nil => evNil
  | .cons e es => evCons (evE e) (evEs es)
def evI : It → Env → M (List D)
  | .seq e => evSeq (evE e)
  | .rng1 a => evRng range1D (evCons (evE a) evNil)
  | .rng2 a b => evRng range2D (evCons (evE a) (evCons (evE b) evNil))
  | .rng3 a b c => evRng range3D (evCons (evE a) (evCons (evE b) (evCons (evE c) evNil)))
  | .zip a b => evRng zipD (evCons (evE a) (evCons (evE b) evNil))
  | .enm a => evRng enumD (evCons (evE a) evNil)
end
mutual
def evS : S → Env → M Fl
  | .set i e => evSet i (evE R T e)
  | .setT is e => evSetT is (evE R T e)
  | .par is es => evPar is (evEs R T es)
  | .setI o i v => evSetI (evE R T o) (evE R T i) (evE R T v)
  | .aug i e => evAug i (evE R T e)
  | .drop e => evDrop (evE R T e)
  | .doc => fun env => ret (.nx env)
  | .pass => fun env => ret (.nx env)
  | .ret e => evRet (evE R T e)
  | .retN => fun _ => ret (.rt .none)
  | .iff c a b => evIfS (evE R T c) (evSs a) (evSs b)
  | .forS tg it b => evFor tg (evI R T it) (evSs b)
  | .wh n c b => whL (evE R T c) (evSs b) n
  | .raise c => evRaise c
  | .never => fun _ => stk
def evSs : Ss → Env → M Fl
  | .nil => fun env => ret (.nx env)
  | .cons s ss => evSeqS (evS s) (evSs ss)
  | .frz i ss => evFrz i (evSs ss)
  | .clr is ss => fun env => evSs ss (wipeE env is)
  | .zall i a b vs tg e => evZall i (evCons (evE R T a) (evCons (evE R T b) evNil)) vs tg (evE R T e)
end
end
/-! ### when a text is such a tree -/
section
variable (T : Tab) (N : List Str)
def nmB (i : Nat) (x : Str) : Bool := decide (N[i]? = some x)
def visB (sc : Scope) (x : Str) : Bool := match sc.names.lookup x with
  | some .local => true
  | some .cell => true
  | some .free => true
  | _ => false
def glB (sc : Scope) (x : Str) : Bool := decide (sc.names.lookup x = some .globalImplicit)
def ndB (x : Str) : Bool := !(x == ("__debug__" : Str))
def ncB (x : Str) : Bool := !(x == ("__classdict__" : Str))
def isBo : E → Bool
  | .and .. => true
  | .or .. => true
  | .one .. => true
  | _ => false
def ownOf (vs : List Nat) : List (Str × Nat) := vs.map fun i => ((N[i]?).getD Str.empty, i)
def fnB (f : Nat) (x : Str) : Bool := decide (T.fns[f]? = some x)
def conB (c : Nat) (x : Str) : Bool := match T.cons[c]? with
  | some (y, _) => decide (y = x)
  | none => false
def excB (c : Nat) (x : Str) : Bool := decide (T.excs[c]? = some x)
/-- the targets -/
def chkNs (st : Str → Bool) : List Nat → List Expr → Bool
  | [], [] => true
  | i :: is, .Name x _ :: es => nmB N i x && st x && chkNs st is es
  | _, _ => false
def chkT (st : Str → Bool) : Tg → Expr → Bool
  | .nm i, pe => match pe with
    | .Name x _ => nmB N i x && st x
    | _ => false
  | .tp is, pe => match pe with
    | .Tuple es _ _ => chkNs N st is es
    | _ => false
def isTupE : Expr → Bool
  | .Tuple .. => true
  | _ => false
mutual
def chkE (sc : Scope) : E → Expr → Bool
  | .hole, _ => false
  | .nev, _ => true
  | .var i, pe => match pe with
    | .Name x _ => nmB N i x && visB sc x && ndB x && ncB x
    | _ => false
  | .int i, pe => match pe with
    | .Constant (.int j) _ _ => decide (i = j)
    | _ => false
  | .bl i, pe => match pe with
    | .Constant (.bool j) _ _ => decide (i = j)
    | _ => false
  | .non, pe => match pe with
    | .Constant .none _ _ => true
    | _ => false
  | .str i, pe => match pe with
    | .Constant (.str j) _ _ => decide (i = j)
    | _ => false
  | .con c, pe => match pe with
    | .Name x _ => conB T c x && glB sc x && ndB x
    | _ => false
  | .tup es, pe => match pe with
    | .Tuple ps _ _ => chkEs sc es ps
    | _ => false
  | .disp _ es, pe => match pe with
    | .List ps _ => chkEs sc es ps
    | _ => false
  | .bin o a b, pe => match pe with
    | .BinOp x op y _ => decide (op = o.op) && chkE sc a x && chkE sc b y
    | _ => false
  | .neg a, pe => match pe with
    | .UnaryOp .USub x _ => chkE sc a x
    | _ => false
  | .not a, pe => match pe with
    | .UnaryOp .Not x _ => chkE sc a x
    | _ => false
  | .and a b, pe => match pe with
    | .BoolOp .And (x :: y :: r) pos => chkE sc a x && isBo b && chkE sc b (.BoolOp .And (y :: r) pos)
    | _ => false
  | .or a b, pe => match pe with
    | .BoolOp .Or (x :: y :: r) pos => chkE sc a x && isBo b && chkE sc b (.BoolOp .Or (y :: r) pos)
    | _ => false
  | .one a, pe => match pe with
    | .BoolOp _ [x] _ => chkE sc a x
    | _ => false
  | .cmp c a b, pe => match pe with
    | .Compare x [o] [y] _ => decide (o = c.op) && chkE sc a x && chkE sc b y && notSet y
    | _ => false
  | .chn c d a b e, pe => match pe with
    | .Compare x [o, o2] [y, z] _ => decide (o = c.op) && decide (o2 = d.op) && chkE sc a x && chkE sc b y && chkE sc e z && notSet y && notSet z
    | _ => false
  | .ife c a b, pe => match pe with
    | .IfExp z x y _ => chkE sc c z && chkE sc a x && chkE sc b y
    | _ => false
  | .call f es, pe => match pe with
    | .Call (.Name x _) ps [] _ => fnB T f x && glB sc x && ndB x && ps.all noStar && chkEs sc es ps
    | _ => false
  | .blt b es, pe => match pe with
    | .Call (.Name x _) ps [] _ => decide (x = Str.ofString b.name) && glB sc x && ps.all noStar && !ps.isEmpty && chkEs sc es ps
    | _ => false
  | .isi t a, pe => match pe with
    | .Call (.Name x _) [p, .Name y _] [] _ => decide (x = ("isinstance" : Str)) && decide (y = Str.ofString t.name) && glB sc x && glB sc y && noStar p && chkE sc a p
    | _ => false
  | .ix a i, pe => match pe with
    | .Subscript x y _ => plainIx y && chkE sc a x && chkE sc i y
    | _ => false
  | .sl a lo hi, pe => match pe with
    | .Subscript x (.Slice l h none _) _ => chkE sc a x && (match l with | none => lo.isHole | some p => chkE sc lo p) && (match h with | none => hi.isHole | some p => chkE sc hi p)
    | _ => false
  | .comp _ vs tg it c e, pe => match pe with
    | .ListComp elt [⟨ptg, pit, ifs, k⟩] scope _ => decide (k = 0) && blkC N sc scope (ownOf N vs) && chkT N (stoB scope) tg ptg && (tg.slots.all fun i => vs.contains i) && notSet pit && chkI sc it ptg pit
        && (match ifs with | [] => c.isHole | [p] => chkE (relS scope sc) c p | _ => false) && chkE (relS scope sc) e elt
    | _ => false
  | .comp2 _ vs vs1 tg tg1 it it1 c e, pe => match pe with
    | .ListComp elt [⟨ptg, pit, [], k⟩, ⟨ptg1, pit1, ifs1, k1⟩] scope _ => decide (k = 0) && decide (k1 = 0) && blkC N sc scope (ownOf N vs) && chkT N (stoB scope) tg ptg && (tg.slots.all fun i => vs.contains i) && notSet pit && chkI sc it ptg pit
        && chkT N (stoB scope) tg1 ptg1 && (tg1.slots.all fun i => vs1.contains i) && (vs1.all fun i => vs.contains i) && notSet pit1 && chkI (relS scope sc) it1 ptg1 pit1
        && (match ifs1 with | [] => c.isHole | [p] => chkE (relS scope sc) c p | _ => false) && chkE (relS scope sc) e elt
    | _ => false
  | .lrg1 _ a, pe => match pe with
    | .Call (.Name x _) [.Call (.Name y _) [p] [] _] [] _ => decide (x = ("list" : Str)) && decide (y = ("range" : Str)) && glB sc x && glB sc y && noStar p && chkE sc a p
    | _ => false
  | .lrg2 _ a b, pe => match pe with
    | .Call (.Name x _) [.Call (.Name y _) [p, q] [] _] [] _ => decide (x = ("list" : Str)) && decide (y = ("range" : Str)) && glB sc x && glB sc y && noStar p && noStar q && chkE sc a p && chkE sc b q
    | _ => false
  | .rep _ a b, pe => match pe with
    | .BinOp x .Mult y _ => chkE sc a x && chkE sc b y
    | _ => false
  | .lsc _ a, pe => match pe with
    | .Call (.Name x _) [p] [] _ => decide (x = ("list" : Str)) && glB sc x && noStar p && chkE sc a p
    | _ => false
  | .app a e, pe => match pe with
    | .Call (.Attribute x m p) [y] [] pos => decide (m = ("append" : Str)) && notCall0 x && (p.endLine == pos.line) && noStar y && chkE sc a x && chkE sc e y
    | _ => false
  | .pop a, pe => match pe with
    | .Call (.Attribute x m p) [] [] pos => decide (m = ("pop" : Str)) && notCall0 x && (p.endLine == pos.line) && chkE sc a x
    | _ => false
  | .popAt a e, pe => match pe with
    | .Call (.Attribute x m p) [y] [] pos => decide (m = ("pop" : Str)) && notCall0 x && (p.endLine == pos.line) && noStar y && chkE sc a x && chkE sc e y
    | _ => false
  | .sset a, pe => match pe with
    | .Call (.Name x _) [.Call (.Name y _) [p] [] _] [] _ => decide (x = ("sorted" : Str)) && decide (y = ("set" : Str)) && glB sc x && glB sc y && noStar p && chkE sc a p
    | _ => false
  | .lset a, pe => match pe with
    | .Call (.Name x _) [.Call (.Name y _) [p] [] _] [] _ => decide (x = ("len" : Str)) && decide (y = ("set" : Str)) && glB sc x && glB sc y && noStar p && chkE sc a p
    | _ => false
  | .idx a e, pe => match pe with
    | .Call (.Attribute x m p) [y] [] pos => decide (m = ("index" : Str)) && notCall0 x && (p.endLine == pos.line) && noStar y && chkE sc a x && chkE sc e y
    | _ => false
  | .rev a, pe => match pe with
    | .Subscript x (.Slice none none (some (.UnaryOp .USub (.Constant (.int i) _ _) _)) _) _ => decide (i = 1) && chkE sc a x
    | _ => false
def chkEs (sc : Scope) : Es → List Expr → Bool
  | .nil, ps => match ps with
    | [] => true
    | _ => false
  | .cons e es, ps => match ps with
    | p :: ps => noStar p && chkE sc e p && chkEs sc es ps
    | _ => false
def chkI (sc : Scope) : It → Expr → Expr → Bool
  | .seq e, _, pe => chkE sc e pe
  | .rng1 a, _, pe => match pe with
    | .Call (.Name x _) [p] [] _ => decide (x = ("range" : Str)) && glB sc x && noStar p && chkE sc a p
    | _ => false
  | .rng2 a b, _, pe => match pe with
    | .Call (.Name x _) [p, q] [] _ => decide (x = ("range" : Str)) && glB sc x && noStar p && noStar q && chkE sc a p && chkE sc b q
    | _ => false
  | .rng3 a b c, _, pe => match pe with
    | .Call (.Name x _) [p, q, r] [] _ => decide (x = ("range" : Str)) && glB sc x && noStar p && noStar q && noStar r && chkE sc a p && chkE sc b q && chkE sc c r
    | _ => false
  | .zip a b, tg, pe => match pe with
    | .Call (.Name x _) [p, q] [] _ => decide (x = ("zip" : Str)) && isTupE tg && glB sc x && noStar p && noStar q && chkE sc a p && chkE sc b q
    | _ => false
  | .enm a, tg, pe => match pe with
    | .Call (.Name x _) [p] [] _ => decide (x = ("enumerate" : Str)) && isTupE tg && glB sc x && noStar p && chkE sc a p
    | _ => false
end
end
end KH

/-! KH: what a tree does is what the text does. -/
namespace KH
open PySem PySem.Spec PyProof.Rows L2
example (R : Nat → List D → M D) (T : Tab) (a b : E) : evE R T (.bin .add a b) = ev2 addD (evE R T a) (evE R T b) := rfl
example (R : Nat → List D → M D) (T : Tab) (a : E) (p : Pos) : chkE T [] ⟨.function, [], false, false, []⟩ (.neg a) (.UnaryOp .USub (.Constant .none 0 p) p) = chkE T [] ⟨.function, [], false, false, []⟩ a (.Constant .none 0 p) := rfl
def bltNames : List Str := ["len", "abs", "int", "tuple", "list", "sum", "all", "any", "sorted", "min", "max", "isinstance", "bool", "str", "range", "zip", "enumerate", "set", "dict"]
structure Sup (Γ : Ctx) (T : Tab) (R : Nat → List D → M D) : Prop where
  blt : ∀ x, x ∈ bltNames → Γ.mg x = none
  fns : ∀ (f : Nat) (x : Str), T.fns[f]? = some x → FnI Γ x (R f)
  cons : ∀ (c : Nat) (x : Str) (d : D), T.cons[c]? = some (x, d) → ∃ v u, Γ.mg x = some u ∧ RelV v u ∧ At Γ.K Γ.fa (fun _ => none) [] v d
  excs : ∀ (c : Nat) (x : Str), T.excs[c]? = some x → ExcI Γ x c
section
variable {R : Nat → List D → M D} {T : Tab} {Γ : Ctx}
theorem Sup.blk (S : Sup Γ T R) (scope : Scope) : Sup (Γ.blk scope) T R := ⟨S.blt, fun f x h => ⟨(S.fns f x h).ex⟩, S.cons, fun c x h => ⟨(S.excs c x h).ex⟩⟩
theorem visB_ok {sc : Scope} {x : Str} (h : visB sc x = true) : Vis sc x := by
  unfold visB at h
  split at h
  · exact .inl (by assumption)
  · exact .inr (.inl (by assumption))
  · exact .inr (.inr (by assumption))
  · cases h
theorem ndB_ok {x : Str} (h : ndB x = true) : (x == ("__debug__" : Str)) = false := by unfold ndB at h; simpa using h
theorem ncB_ok {x : Str} (h : ncB x = true) : (x == ("__classdict__" : Str)) = false := by unfold ncB at h; simpa using h
theorem bop_rule (o : Bop) : ∃ r, (∀ X, Good Γ X → OpR X (binaryOp o.op) r) ∧ OpD Γ r o.fn := by
  cases o
  · exact ⟨_, op_addD, addD_ok⟩
  · exact ⟨_, op_subD, subD_ok⟩
  · exact ⟨_, op_mulD, mulD_ok⟩
  · exact ⟨_, op_fdivD, fdivD_ok⟩
  · exact ⟨_, op_modD, modD_ok⟩
  · exact ⟨_, op_powD, powD_ok⟩
theorem cmp_rule (o : Cmp1) : ∃ r, (∀ X, Good Γ X → OpR X (compareOp o.op) r) ∧ OpD Γ r o.fn := by
  cases o
  · exact ⟨_, op_cmpD rfl, cmpD_ok⟩
  · exact ⟨_, op_cmpD rfl, cmpD_ok⟩
  · exact ⟨_, op_cmpD rfl, cmpD_ok⟩
  · exact ⟨_, op_cmpD rfl, cmpD_ok⟩
  · exact ⟨_, op_eqD', eqD_ok⟩
  · exact ⟨_, op_neD', neD_ok⟩
  · exact ⟨_, op_isD, isD_ok⟩
  · exact ⟨_, op_isnD, isnD_ok⟩
  · exact ⟨_, op_inD', inD_ok⟩
  · exact ⟨_, op_notInD', notInD_ok⟩
theorem nomarkB {c : Cmp1} {y : Expr} (h : notSet y = true) : behindInMarks c.op y = false := by
  cases y <;> first | rfl | simp [notSet] at h
theorem se_bltAny (S : Sup Γ T R) {b : Blt} {p pos : Pos} {e : Expr} {es : List Expr} {fl : Env → M (List D)} (hg : Γ.sc.names.lookup (Str.ofString b.name) = some .globalImplicit) (hs : (e :: es).all noStar = true) (ha : SA Γ (e :: es) fl) :
    SE Γ (.Call (.Name (Str.ofString b.name) p) (e :: es) [] pos) (evA b.fn fl) := by
  have hm : Γ.mg (Str.ofString b.name) = none := S.blt _ (by cases b <;> decide +kernel)
  have hn : Str.ofString b.name ≠ ("__name__" : Str) := by cases b <;> decide +kernel
  have hd : (Str.ofString b.name == ("__debug__" : Str)) = false := by cases b <;> decide +kernel
  cases b
  · exact se_blt cr_lenD lenD_ok hg hm (by decide +kernel) hn hd hs ha
  · exact se_blt cr_absD absD_ok hg hm (by decide +kernel) hn hd hs ha
  · exact se_ty cr_intD intD_ok hg hm (by decide +kernel) hn hd hs ha
  · exact se_ty cr_tupD tupD_ok hg hm (by decide +kernel) hn hd hs ha
  · exact se_ty cr_listD listD_ok hg hm (by decide +kernel) hn hd hs ha
  · exact se_blt cr_sumD sumD_ok hg hm (by decide +kernel) hn hd hs ha
  · exact se_blt cr_allD allD_ok hg hm (by decide +kernel) hn hd hs ha
  · exact se_blt cr_anyD anyD_ok hg hm (by decide +kernel) hn hd hs ha
  · exact se_blt cr_sortedD sortedD_ok hg hm (by decide +kernel) hn hd hs ha
  · exact se_blt cr_minD best_ok hg hm (by decide +kernel) hn hd hs ha
  · exact se_blt cr_maxD best_ok hg hm (by decide +kernel) hn hd hs ha
  · exact se_ty cr_strD strD_ok hg hm (by decide +kernel) hn hd hs ha
theorem se_box {e : Expr} {f : Env → M (List D)} (cel : Bool) (h : SF Γ e f) : SE Γ e (box cel f) := by
  cases cel
  · exact se_val h
  · exact se_cel h
theorem chkNs_ok : ∀ {is : List Nat} {es : List Expr}, chkNs Γ.N Γ.st is es = true → SGs Γ es is ∧ es.length = is.length
  | [], [], _ => ⟨sgs_nil, rfl⟩
  | i :: is, .Name x p :: es, h => by
    unfold chkNs at h
    rw [Bool.and_eq_true, Bool.and_eq_true] at h
    obtain ⟨⟨h1, h2⟩, h3⟩ := h
    obtain ⟨q1, q2⟩ := chkNs_ok h3
    exact ⟨sgs_cons (of_decide_eq_true h1) h2 q1, by rw [List.length_cons, List.length_cons, q2]⟩
  | [], _ :: _, h => by simp [chkNs] at h
  | _ :: _, [], h => by simp [chkNs] at h
  | i :: is, e :: es, h => by
    cases e with
    | Name x p =>
      unfold chkNs at h
      rw [Bool.and_eq_true, Bool.and_eq_true] at h
      obtain ⟨⟨h1, h2⟩, h3⟩ := h
      obtain ⟨q1, q2⟩ := chkNs_ok h3
      exact ⟨sgs_cons (of_decide_eq_true h1) h2 q1, by rw [List.length_cons, List.length_cons, q2]⟩
    | _ => simp [chkNs] at h
theorem chkT_ok {tg : Tg} {pe : Expr} (h : chkT Γ.N Γ.st tg pe = true) : SG Γ pe tg := by
  cases tg with
  | nm i =>
    cases pe with
    | Name x p =>
      have h : (nmB Γ.N i x && Γ.st x) = true := h
      rw [Bool.and_eq_true] at h
      exact sg_name (of_decide_eq_true h.1) h.2
    | _ => cases h
  | tp is =>
    cases pe with
    | Tuple es k p =>
      obtain ⟨q1, q2⟩ := chkNs_ok (Γ := Γ) (is := is) (es := es) h
      exact sg_tup q2 q1
    | _ => cases h
theorem ownOf_snd (N : List Str) (vs : List Nat) : (ownOf N vs).map (·.2) = vs := by
  unfold ownOf
  rw [List.map_map]
  show vs.map (fun i => i) = vs
  exact List.map_id' vs
def Both (Γ : Ctx) (e : E) (pe : Expr) (f : Env → M D) : Prop := SE Γ pe f ∧ ST Γ pe f ∧ (isBo e = true → SW Γ pe f)
theorem both {e : E} {pe : Expr} {f : Env → M D} (h : SE Γ pe f) (hp : plainTest pe = true) (hb : isBo e = false) : Both Γ e pe f := ⟨h, st_val hp h, fun z => by rw [hb] at z; cases z⟩
theorem se_nev {Γ : Ctx} {pe : Expr} : SE Γ pe (fun _ => stk) := ⟨fun _ _ _ => False, fun X G => ⟨fun pins s σ H Q I h => h.elim⟩, fun σ s env cs Q ok eo h => (show False from h).elim⟩
theorem st_nev {Γ : Ctx} {pe : Expr} : ST Γ pe (fun _ => stk) := ⟨fun _ _ _ => False, fun X G => ⟨fun pins s σ H Q I h => h.elim⟩, fun σ s env cs Q ok eo h => (show False from h).elim⟩
mutual
theorem sE : ∀ (e : E) (Γ : Ctx) (S : Sup Γ T R) (pe : Expr), chkE T Γ.N Γ.sc e pe = true → Both Γ e pe (evE R T e)
  | .hole, Γ, S, pe, h => by cases h
  | .nev, Γ, S, pe, h => ⟨se_nev, st_nev, fun z => by cases z⟩
  | .var i, Γ, S, pe, h => by
    unfold chkE at h
    split at h
    · simp only [Bool.and_eq_true] at h
      obtain ⟨⟨⟨h1, h2⟩, h3⟩, h4⟩ := h
      exact both (se_var (of_decide_eq_true h1) (visB_ok h2) (ndB_ok h3) (ncB_ok h4)) rfl rfl
    · cases h
  | .int i, Γ, S, pe, h => by
    unfold chkE at h
    split at h
    · have := of_decide_eq_true h
      subst this
      exact both se_int rfl rfl
    · cases h
  | .bl i, Γ, S, pe, h => by
    unfold chkE at h
    split at h
    · have := of_decide_eq_true h
      subst this
      exact both se_bl rfl rfl
    · cases h
  | .non, Γ, S, pe, h => by
    unfold chkE at h
    split at h
    · exact both se_non rfl rfl
    · cases h
  | .str i, Γ, S, pe, h => by
    unfold chkE at h
    split at h
    · have := of_decide_eq_true h
      subst this
      exact both se_str rfl rfl
    · cases h
  | .con c, Γ, S, pe, h => by
    unfold chkE at h
    split at h
    · simp only [Bool.and_eq_true] at h
      obtain ⟨⟨h1, h2⟩, h3⟩ := h
      unfold conB at h1
      split at h1
      · rename_i y d e1
        have := of_decide_eq_true h1
        subst this
        obtain ⟨v, u, q1, q2, q3⟩ := S.cons c _ d e1
        refine both ?_ rfl rfl
        have : evE R T (.con c) = evC d := by show evCon T c = _; unfold evCon; rw [e1]
        rw [this]
        exact se_con (of_decide_eq_true h2) q1 q2 q3 (ndB_ok h3)
      · cases h1
    · cases h
  | .tup es, Γ, S, pe, h => by
    unfold chkE at h
    split at h
    · exact both (se_tup (sEs es Γ S _ h)) rfl rfl
    · cases h
  | .disp cel es, Γ, S, pe, h => by
    unfold chkE at h
    split at h
    · exact both (se_box cel (sf_disp (sEs es Γ S _ h))) rfl rfl
    · cases h
  | .bin o a b, Γ, S, pe, h => by
    unfold chkE at h
    split at h
    · simp only [Bool.and_eq_true] at h
      obtain ⟨⟨h1, h2⟩, h3⟩ := h
      have := of_decide_eq_true h1
      subst this
      obtain ⟨r, r1, r2⟩ := bop_rule (Γ := Γ) o
      exact both (se_op r1 r2 (sE a Γ S _ h2).1 (sE b Γ S _ h3).1) rfl rfl
    · cases h
  | .neg a, Γ, S, pe, h => by
    unfold chkE at h
    split at h
    · exact both (se_un un_negD negD_ok (sE a Γ S _ h).1) rfl rfl
    · cases h
  | .not a, Γ, S, pe, h => by
    unfold chkE at h
    split at h
    · obtain ⟨q1, q2, _⟩ := sE a Γ S _ h
      exact ⟨se_not q1, st_not q2, fun z => by cases z⟩
    · cases h
  | .and a b, Γ, S, pe, h => by
    unfold chkE at h
    split at h
    · simp only [Bool.and_eq_true] at h
      obtain ⟨⟨h1, h2⟩, h3⟩ := h
      obtain ⟨q1, q2, _⟩ := sE a Γ S _ h1
      obtain ⟨r1, r2, r3⟩ := sE b Γ S _ h3
      have w := sw_and q2 (r3 h2)
      exact ⟨se_and q1 r1, w.st, fun _ => w⟩
    · cases h
  | .or a b, Γ, S, pe, h => by
    unfold chkE at h
    split at h
    · simp only [Bool.and_eq_true] at h
      obtain ⟨⟨h1, h2⟩, h3⟩ := h
      obtain ⟨q1, q2, _⟩ := sE a Γ S _ h1
      obtain ⟨r1, r2, r3⟩ := sE b Γ S _ h3
      have w := sw_or q2 (r3 h2)
      exact ⟨se_or q1 r1, w.st, fun _ => w⟩
    · cases h
  | .one a, Γ, S, pe, h => by
    unfold chkE at h
    split at h
    · obtain ⟨q1, q2, _⟩ := sE a Γ S _ h
      exact ⟨se_one q1, (sw_one q2).st, fun _ => sw_one q2⟩
    · cases h
  | .cmp c a b, Γ, S, pe, h => by
    unfold chkE at h
    split at h
    · simp only [Bool.and_eq_true] at h
      obtain ⟨⟨⟨h1, h2⟩, h3⟩, h4⟩ := h
      have := of_decide_eq_true h1
      subst this
      obtain ⟨r, r1, r2⟩ := cmp_rule (Γ := Γ) c
      have q1 := (sE a Γ S _ h2).1
      have q2 := (sE b Γ S _ h3).1
      exact ⟨se_cmp r1 r2 q1 q2 (nomarkB h4), st_cmp r1 r2 q1 q2 (nomarkB h4), fun z => by cases z⟩
    · cases h
  | .chn c d a b e, Γ, S, pe, h => by
    unfold chkE at h
    split at h
    · simp only [Bool.and_eq_true] at h
      obtain ⟨⟨⟨⟨⟨⟨h1, h2⟩, h3⟩, h4⟩, h5⟩, h6⟩, h7⟩ := h
      have := of_decide_eq_true h1
      subst this
      have := of_decide_eq_true h2
      subst this
      obtain ⟨r, r1, r2⟩ := cmp_rule (Γ := Γ) c
      obtain ⟨r', r1', r2'⟩ := cmp_rule (Γ := Γ) d
      have q1 := (sE a Γ S _ h3).1
      have q2 := (sE b Γ S _ h4).1
      have q3 := (sE e Γ S _ h5).1
      have hm : ∀ {y z : Expr}, notSet z = true → lastMarks [c.op, d.op] [y, z] = false := fun hz => nomarkB hz
      exact ⟨se_chain r1 r2 r1' r2' q1 q2 q3 (hm h7), st_chain r1 r2 r1' r2' q1 q2 q3 (hm h7), fun z => by cases z⟩
    · cases h
  | .ife c a b, Γ, S, pe, h => by
    unfold chkE at h
    split at h
    · simp only [Bool.and_eq_true] at h
      obtain ⟨⟨h1, h2⟩, h3⟩ := h
      have q1 := (sE c Γ S _ h1).2.1
      obtain ⟨q2, q3, _⟩ := sE a Γ S _ h2
      obtain ⟨q4, q5, _⟩ := sE b Γ S _ h3
      exact ⟨se_if q1 q2 q4, st_if q1 q3 q5, fun z => by cases z⟩
    · cases h
  | .call f es, Γ, S, pe, h => by
    unfold chkE at h
    split at h
    · simp only [Bool.and_eq_true] at h
      obtain ⟨⟨⟨⟨h1, h2⟩, h3⟩, h4⟩, h5⟩ := h
      have I := S.fns f _ (of_decide_eq_true h1)
      have q := sEs es Γ S _ h5
      rename_i x p ps pos
      cases ps with
      | nil =>
        have e0 : es = .nil := by
          cases es with
          | nil => rfl
          | cons e es => simp [chkEs] at h5
        subst e0
        exact both (se_call0 I (of_decide_eq_true h2) (ndB_ok h3)) rfl rfl
      | cons p ps => exact both (se_call I (of_decide_eq_true h2) (ndB_ok h3) h4 q) rfl rfl
    · cases h
  | .blt b es, Γ, S, pe, h => by
    unfold chkE at h
    split at h
    · simp only [Bool.and_eq_true] at h
      obtain ⟨⟨⟨⟨h1, h2⟩, h3⟩, h4⟩, h5⟩ := h
      have := of_decide_eq_true h1
      subst this
      have q := sEs es Γ S _ h5
      rename_i p ps pos
      cases ps with
      | nil => simp at h4
      | cons p ps => exact both (se_bltAny S (of_decide_eq_true h2) h3 q) rfl rfl
    · cases h
  | .isi t a, Γ, S, pe, h => by
    unfold chkE at h
    split at h
    · simp only [Bool.and_eq_true] at h
      obtain ⟨⟨⟨⟨⟨h1, h2⟩, h3⟩, h4⟩, h5⟩, h6⟩ := h
      have := of_decide_eq_true h1
      subst this
      refine both (se_isi (of_decide_eq_true h2) (of_decide_eq_true h3) (S.blt _ (by decide +kernel)) (of_decide_eq_true h4) (S.blt _ ?_) h5 (sE a Γ S _ h6).1) rfl rfl
      rw [of_decide_eq_true h2]
      cases t <;> decide +kernel
    · cases h
  | .ix a i, Γ, S, pe, h => by
    unfold chkE at h
    split at h
    · simp only [Bool.and_eq_true] at h
      obtain ⟨⟨h1, h2⟩, h3⟩ := h
      exact both (se_ix h1 (sE a Γ S _ h2).1 (sE i Γ S _ h3).1) rfl rfl
    · cases h
  | .sl a lo hi, Γ, S, pe, h => by
    unfold chkE at h
    split at h
    · simp only [Bool.and_eq_true] at h
      obtain ⟨⟨h1, h2⟩, h3⟩ := h
      rename_i x l u p2 pos
      have q1 : SO Γ l (partOf lo.isHole (evE R T lo)) := by
        cases l with
        | none => rw [show lo.isHole = true from h2]; exact so_none
        | some p =>
          have hl : lo.isHole = false := by
            cases lo <;> first | rfl | (exact (Bool.false_ne_true (show false = true from h2)).elim)
          rw [hl]
          exact so_some (sE lo Γ S p h2).1
      have q2 : SO Γ u (partOf hi.isHole (evE R T hi)) := by
        cases u with
        | none => rw [show hi.isHole = true from h3]; exact so_none
        | some p =>
          have hl : hi.isHole = false := by
            cases hi <;> first | rfl | (exact (Bool.false_ne_true (show false = true from h3)).elim)
          rw [hl]
          exact so_some (sE hi Γ S p h3).1
      exact both (se_slice (sE a Γ S _ h1).1 q1 q2) rfl rfl
    · cases h
  | .comp cel vs tg it c e, Γ, S, pe, h => by
    unfold chkE at h
    split at h
    · simp only [Bool.and_eq_true] at h
      obtain ⟨⟨⟨⟨⟨⟨⟨h1, h2⟩, h3⟩, h4⟩, h5⟩, h6⟩, h7⟩, h8⟩ := h
      have := of_decide_eq_true h1
      subst this
      rename_i elt ptg pit ifs scope pos
      have q7 : SP1 (Γ.blk scope) ifs (condOf c.isHole (evE R T c)) := by
        cases ifs with
        | nil => rw [show c.isHole = true from h7]; exact sp_nil
        | cons p ps =>
          cases ps with
          | nil =>
            have hl : c.isHole = false := by
              cases c <;> first | rfl | (exact (Bool.false_ne_true (show false = true from h7)).elim)
            rw [hl]
            exact sp_one (sE c (Γ.blk scope) (S.blk scope) p h7).2.1
          | cons _ _ => cases h7
      have q := sf_comp (pos := pos) (own := ownOf Γ.N vs) (sI it Γ S _ _ h6) h2 (chkT_ok (Γ := Γ.blk scope) h3) q7 (sE e (Γ.blk scope) (S.blk scope) _ h8).1 (fun i hi => by
        rw [ownOf_snd]
        have := List.all_eq_true.mp h4 i hi
        simpa using this) h5
      rw [ownOf_snd] at q
      exact both (se_box cel q) rfl rfl
    · cases h
  | .comp2 cel vs vs1 tg tg1 it it1 c e, Γ, S, pe, h => by
    unfold chkE at h
    split at h
    · simp only [Bool.and_eq_true] at h
      obtain ⟨⟨⟨⟨⟨⟨⟨⟨⟨⟨⟨⟨⟨h1, h1'⟩, h2⟩, h3⟩, h4⟩, h5⟩, h6⟩, g3⟩, g4⟩, g4'⟩, g5⟩, g6⟩, h7⟩, h8⟩ := h
      have := of_decide_eq_true h1
      subst this
      have := of_decide_eq_true h1'
      subst this
      rename_i elt ptg pit ptg1 pit1 ifs scope pos
      have q7 : SP1 (Γ.blk scope) ifs (condOf c.isHole (evE R T c)) := by
        cases ifs with
        | nil => rw [show c.isHole = true from h7]; exact sp_nil
        | cons p ps =>
          cases ps with
          | nil =>
            have hl : c.isHole = false := by
              cases c <;> first | rfl | (exact (Bool.false_ne_true (show false = true from h7)).elim)
            rw [hl]
            exact sp_one (sE c (Γ.blk scope) (S.blk scope) p h7).2.1
          | cons _ _ => cases h7
      have q := sf_comp2 (pos := pos) (own := ownOf Γ.N vs) (vs1 := vs1) (sI it Γ S _ _ h6) h2 (chkT_ok (Γ := Γ.blk scope) h3) (sI it1 (Γ.blk scope) (S.blk scope) _ _ g6) (chkT_ok (Γ := Γ.blk scope) g3) q7 (sE e (Γ.blk scope) (S.blk scope) _ h8).1 (fun i hi => by
        rw [ownOf_snd]
        have := List.all_eq_true.mp h4 i hi
        simpa using this) (fun i hi => by
        have := List.all_eq_true.mp g4 i hi
        simpa using this) (fun i hi => by
        rw [ownOf_snd]
        have := List.all_eq_true.mp g4' i hi
        simpa using this) h5 g5
      rw [ownOf_snd] at q
      exact both (se_box cel q) rfl rfl
    · cases h
  | .lrg1 cel a, Γ, S, pe, h => by
    unfold chkE at h
    split at h
    · simp only [Bool.and_eq_true] at h
      obtain ⟨⟨⟨⟨⟨h1, h2⟩, h3⟩, h4⟩, h5⟩, h6⟩ := h
      have := of_decide_eq_true h1
      subst this
      have := of_decide_eq_true h2
      subst this
      exact both (se_box cel (sf_lrg1 (of_decide_eq_true h3) (S.blt _ (by decide +kernel)) (of_decide_eq_true h4) (S.blt _ (by decide +kernel)) h5 (sE a Γ S _ h6).1)) rfl rfl
    · cases h
  | .lrg2 cel a b, Γ, S, pe, h => by
    unfold chkE at h
    split at h
    · simp only [Bool.and_eq_true] at h
      obtain ⟨⟨⟨⟨⟨⟨⟨h1, h2⟩, h3⟩, h4⟩, h5⟩, h5'⟩, h6⟩, h7⟩ := h
      have := of_decide_eq_true h1
      subst this
      have := of_decide_eq_true h2
      subst this
      exact both (se_box cel (sf_lrg2 (of_decide_eq_true h3) (S.blt _ (by decide +kernel)) (of_decide_eq_true h4) (S.blt _ (by decide +kernel)) h5 h5' (sE a Γ S _ h6).1 (sE b Γ S _ h7).1)) rfl rfl
    · cases h
  | .rep cel a b, Γ, S, pe, h => by
    unfold chkE at h
    split at h
    · simp only [Bool.and_eq_true] at h
      exact both (se_box cel (sf_rep (sE a Γ S _ h.1).1 (sE b Γ S _ h.2).1)) rfl rfl
    · cases h
  | .lsc cel a, Γ, S, pe, h => by
    unfold chkE at h
    split at h
    · simp only [Bool.and_eq_true] at h
      obtain ⟨⟨⟨h1, h2⟩, h3⟩, h4⟩ := h
      have := of_decide_eq_true h1
      subst this
      exact both (se_box cel (sf_list (of_decide_eq_true h2) (S.blt _ (by decide +kernel)) h3 (sE a Γ S _ h4).1)) rfl rfl
    · cases h
  | .app a e, Γ, S, pe, h => by
    unfold chkE at h
    split at h
    · simp only [Bool.and_eq_true] at h
      obtain ⟨⟨⟨⟨⟨h1, h2⟩, h3⟩, h4⟩, h5⟩, h6⟩ := h
      have := of_decide_eq_true h1
      subst this
      exact both (se_append h2 h3 h4 (sE a Γ S _ h5).1 (sa_cons h4 (sE e Γ S _ h6).1 sa_nil)) rfl rfl
    · cases h
  | .pop a, Γ, S, pe, h => by
    unfold chkE at h
    split at h
    · simp only [Bool.and_eq_true] at h
      obtain ⟨⟨⟨h1, h2⟩, h3⟩, h5⟩ := h
      have := of_decide_eq_true h1
      subst this
      exact both (se_pop h2 h3 (sE a Γ S _ h5).1) rfl rfl
    · cases h
  | .popAt a e, Γ, S, pe, h => by
    unfold chkE at h
    split at h
    · simp only [Bool.and_eq_true] at h
      obtain ⟨⟨⟨⟨⟨h1, h2⟩, h3⟩, h4⟩, h5⟩, h6⟩ := h
      have := of_decide_eq_true h1
      subst this
      exact both (se_popAt h2 h3 h4 (sE a Γ S _ h5).1 (sa_cons h4 (sE e Γ S _ h6).1 sa_nil)) rfl rfl
    · cases h
  | .sset a, Γ, S, pe, h => by
    unfold chkE at h
    split at h
    · simp only [Bool.and_eq_true] at h
      obtain ⟨⟨⟨⟨⟨h1, h2⟩, h3⟩, h4⟩, h5⟩, h6⟩ := h
      have := of_decide_eq_true h1
      subst this
      have := of_decide_eq_true h2
      subst this
      exact both (se_sset (of_decide_eq_true h3) (S.blt _ (by decide +kernel)) (of_decide_eq_true h4) (S.blt _ (by decide +kernel)) h5 (sa_cons h5 (sE a Γ S _ h6).1 sa_nil)) rfl rfl
    · cases h
  | .lset a, Γ, S, pe, h => by
    unfold chkE at h
    split at h
    · simp only [Bool.and_eq_true] at h
      obtain ⟨⟨⟨⟨⟨h1, h2⟩, h3⟩, h4⟩, h5⟩, h6⟩ := h
      have := of_decide_eq_true h1
      subst this
      have := of_decide_eq_true h2
      subst this
      exact both (se_lset (of_decide_eq_true h3) (S.blt _ (by decide +kernel)) (of_decide_eq_true h4) (S.blt _ (by decide +kernel)) h5 (sa_cons h5 (sE a Γ S _ h6).1 sa_nil)) rfl rfl
    · cases h
  | .idx a e, Γ, S, pe, h => by
    unfold chkE at h
    split at h
    · simp only [Bool.and_eq_true] at h
      obtain ⟨⟨⟨⟨⟨h1, h2⟩, h3⟩, h4⟩, h5⟩, h6⟩ := h
      have := of_decide_eq_true h1
      subst this
      exact both (se_idx h2 h3 h4 (sE a Γ S _ h5).1 (sa_cons h4 (sE e Γ S _ h6).1 sa_nil)) rfl rfl
    · cases h
  | .rev a, Γ, S, pe, h => by
    unfold chkE at h
    split at h
    · simp only [Bool.and_eq_true] at h
      have := of_decide_eq_true h.1
      subst this
      exact both (se_rev (sE a Γ S _ h.2).1) rfl rfl
    · cases h
theorem sEs : ∀ (es : Es) (Γ : Ctx) (S : Sup Γ T R) (ps : List Expr), chkEs T Γ.N Γ.sc es ps = true → SA Γ ps (evEs R T es)
  | .nil, Γ, S, ps, h => by
    unfold chkEs at h
    split at h
    · exact sa_nil
    · cases h
  | .cons e es, Γ, S, ps, h => by
    unfold chkEs at h
    split at h
    · simp only [Bool.and_eq_true] at h
      obtain ⟨⟨h1, h2⟩, h3⟩ := h
      exact sa_cons h1 (sE e Γ S _ h2).1 (sEs es Γ S _ h3)
    · cases h
theorem sI : ∀ (it : It) (Γ : Ctx) (S : Sup Γ T R) (tg pe : Expr), chkI T Γ.N Γ.sc it tg pe = true → SI Γ tg pe (evI R T it)
  | .seq e, Γ, S, tg, pe, h => by
    unfold chkI at h
    exact si_seq (sE e Γ S _ h).1
  | .rng1 a, Γ, S, tg, pe, h => by
    unfold chkI at h
    split at h
    · simp only [Bool.and_eq_true] at h
      obtain ⟨⟨⟨h1, h2⟩, h3⟩, h4⟩ := h
      have := of_decide_eq_true h1
      subst this
      exact si_range1 (of_decide_eq_true h2) (S.blt _ (by decide +kernel)) h3 (sa_cons h3 (sE a Γ S _ h4).1 sa_nil)
    · cases h
  | .rng2 a b, Γ, S, tg, pe, h => by
    unfold chkI at h
    split at h
    · simp only [Bool.and_eq_true] at h
      obtain ⟨⟨⟨⟨⟨h1, h2⟩, h3⟩, h4⟩, h5⟩, h6⟩ := h
      have := of_decide_eq_true h1
      subst this
      exact si_range2 (of_decide_eq_true h2) (S.blt _ (by decide +kernel)) h3 h4 (sa_cons h3 (sE a Γ S _ h5).1 (sa_cons h4 (sE b Γ S _ h6).1 sa_nil))
    · cases h
  | .rng3 a b c, Γ, S, tg, pe, h => by
    unfold chkI at h
    split at h
    · simp only [Bool.and_eq_true] at h
      obtain ⟨⟨⟨⟨⟨⟨⟨h1, h2⟩, h3⟩, h4⟩, h4'⟩, h5⟩, h6⟩, h7⟩ := h
      have := of_decide_eq_true h1
      subst this
      exact si_range3 (of_decide_eq_true h2) (S.blt _ (by decide +kernel)) h3 (by rw [List.all_cons, List.all_cons, h4, h4']; rfl) (sa_cons h3 (sE a Γ S _ h5).1 (sa_cons h4 (sE b Γ S _ h6).1 (sa_cons h4' (sE c Γ S _ h7).1 sa_nil)))
    · cases h
  | .zip a b, Γ, S, tg, pe, h => by
    unfold chkI at h
    split at h
    · simp only [Bool.and_eq_true] at h
      obtain ⟨⟨⟨⟨⟨⟨h1, h0⟩, h2⟩, h3⟩, h4⟩, h5⟩, h6⟩ := h
      have := of_decide_eq_true h1
      subst this
      cases tg <;> first | cases h0 | skip
      exact si_zip (of_decide_eq_true h2) (S.blt _ (by decide +kernel)) h3 h4 (sa_cons h3 (sE a Γ S _ h5).1 (sa_cons h4 (sE b Γ S _ h6).1 sa_nil))
    · cases h
  | .enm a, Γ, S, tg, pe, h => by
    unfold chkI at h
    split at h
    · simp only [Bool.and_eq_true] at h
      obtain ⟨⟨⟨⟨h1, h0⟩, h2⟩, h3⟩, h4⟩ := h
      have := of_decide_eq_true h1
      subst this
      cases tg <;> first | cases h0 | skip
      exact si_enum (of_decide_eq_true h2) (S.blt _ (by decide +kernel)) h3 (sa_cons h3 (sE a Γ S _ h4).1 sa_nil)
    · cases h
end
end
end KH

/-! KH: statements as trees; whole programs. -/
namespace KH
open PySem PySem.Spec PyProof.Rows L2
def isLocB (sc : Scope) (x : Str) : Bool := decide (sc.names.lookup x = some .local)
def foldB (vs : List Expr) : Bool := !(vs.all (constantsAlone 8)) || vs.all (foldedForSure 8)
def isComp1 : E → Expr → Bool
  | .comp .., .ListComp .. => true
  | .comp2 .., .ListComp .. => true
  | _, _ => false
section
variable (T : Tab) (N : List Str) (sc : Scope)
mutual
def chkS : S → Stmt → Bool
  | .set i e, st => match st with
    | .Assign [.Name x _] v _ => nmB N i x && stoB sc x && (notComp v || isComp1 e v) && chkE T N sc e v
    | _ => false
  | .setT is e, st => match st with
    | .Assign [.Tuple ts _ _] v _ => chkNs N (stoB sc) is ts && chkE T N sc e v && (match v with
      | .Tuple vs _ _ => foldB vs && decide (swapN (fun x => sc.names.lookup x) ts vs = none)
      | v => notComp v)
    | _ => false
  | .par is es, st => match st, is with
    | .Assign [.Tuple [.Name x px, .Name y py] _ _] (.Tuple [a, b] _ _) _, [i, j] => nmB N i x && nmB N j y && decide (i ≠ j) && isLocB sc x && isLocB sc y && foldB [a, b] &&
        decide (swapN (fun x => sc.names.lookup x) [.Name x px, .Name y py] [a, b] = some [x, y]) && chkEs T N sc es [a, b]
    | .Assign [.Tuple [.Name x px, .Name y py, .Name z pz] _ _] (.Tuple [a, b, c] _ _) _, [i, j, l] => nmB N i x && nmB N j y && nmB N l z && decide (i ≠ j) && decide (i ≠ l) && decide (j ≠ l) && isLocB sc x && isLocB sc y && isLocB sc z && foldB [a, b, c] &&
        decide (swapN (fun x => sc.names.lookup x) [.Name x px, .Name y py, .Name z pz] [a, b, c] = some [x, y, z]) && chkEs T N sc es [a, b, c]
    | _, _ => false
  | .setI o i v, st => match st with
    | .Assign [.Subscript x y _] w _ => notComp w && subPlain y && chkE T N sc o x && chkE T N sc i y && chkE T N sc v w
    | _ => false
  | .aug i e, st => match st with
    | .AugAssign (.Name x _) .Add v _ => nmB N i x && stoB sc x && chkE T N sc e v
    | _ => false
  | .drop e, st => match st with
    | .Expr v _ => notComp v && chkE T N sc e v
    | _ => false
  | .doc, st => match st with
    | .Expr (.Constant (.str _) _ _) _ => true
    | _ => false
  | .pass, st => match st with
    | .Pass _ => true
    | _ => false
  | .ret e, st => match st with
    | .Return (some v) _ => chkE T N sc e v
    | _ => false
  | .retN, st => match st with
    | .Return none _ => true
    | _ => false
  | .iff c a b, st => match st with
    | .If x y z _ => chkE T N sc c x && chkSs a y && chkSs b z
    | _ => false
  | .forS tg it b, st => match st with
    | .For ptg pit body [] _ => chkT N (stoB sc) tg ptg && notSet pit && chkI T N sc it ptg pit && chkSs b body
    | _ => false
  | .wh _ c b, st => match st with
    | .While x body [] _ => chkE T N sc c x && chkSs b body
    | _ => false
  | .raise c, st => match st with
    | .Raise (some (.Call (.Name x _) [.Constant (.str _) _ _] [] _)) none _ => excB T c x && glB sc x && ndB x
    | _ => false
  | .never, _ => true
def chkSs : Ss → List Stmt → Bool
  | .nil, sts => match sts with
    | [] => true
    | _ => false
  | .cons s ss, sts => match sts with
    | st :: sts => chkS s st && chkSs ss sts
    | _ => false
  | .frz _ ss, sts => chkSs ss sts
  | .clr _ ss, sts => chkSs ss sts
  | .zall i a b vs tg e, sts => match sts with
    | [.Assign [.Name x _] (.Call (.Name z _) [pa, pb] [] _) _, .Return (some (.UnaryOp .Not (.Call (.Name al _) [.ListComp elt [⟨ptg, .Name y _, [], k⟩] scope _] [] _) _)) _] =>
        decide (z = ("zip" : Str)) && decide (al = ("all" : Str)) && decide (y = x) && decide (k = 0) && nmB N i x && stoB sc x && visB sc x && ndB x && ncB x && glB sc z && glB sc al && noStar pa && noStar pb && chkE T N sc a pa && chkE T N sc b pb
        && isTupE ptg && blkC N sc scope (ownOf N vs) && chkT N (stoB scope) tg ptg && (tg.slots.all fun i => vs.contains i) && chkE T N (relS scope sc) e elt
    | _ => false
end
end
theorem foldB_ok {vs : List Expr} (h : foldB vs = true) : vs.all (constantsAlone 8) = false ∨ vs.all (foldedForSure 8) = true := by
  unfold foldB at h
  rw [Bool.or_eq_true] at h
  exact h.imp (fun z => by simpa using z) id
section
variable {R : Nat → List D → M D} {T : Tab} {Γ : Ctx}
theorem st_comp1 (S0 : Sup Γ T R) {i : Nat} {x : Str} {cel : Bool} {vs : List Nat} {tg : Tg} {it : It} {c e : E} {v : Expr} {pos pos' : Pos} (hi : Γ.N[i]? = some x) (hs : Γ.st x = true) (h : chkE T Γ.N Γ.sc (.comp cel vs tg it c e) v = true) : SS Γ (.Assign [.Name x pos'] v pos) (evSet i (evE R T (.comp cel vs tg it c e))) := by
  unfold chkE at h
  split at h
  · simp only [Bool.and_eq_true] at h
    obtain ⟨⟨⟨⟨⟨⟨⟨h1, h2⟩, h3⟩, h4⟩, h5⟩, h6⟩, h7⟩, h8⟩ := h
    have := of_decide_eq_true h1
    subst this
    rename_i elt ptg pit ifs scope pc
    have q7 : SP1 (Γ.blk scope) ifs (condOf c.isHole (evE R T c)) := by
      cases ifs with
      | nil => rw [show c.isHole = true from h7]; exact sp_nil
      | cons p ps =>
        cases ps with
        | nil =>
          have hl : c.isHole = false := by
            cases c <;> first | rfl | (exact (Bool.false_ne_true (show false = true from h7)).elim)
          rw [hl]
          exact sp_one (sE c (Γ.blk scope) (S0.blk scope) p h7).2.1
        | cons _ _ => cases h7
    have hv : ∀ i ∈ tg.slots, i ∈ (ownOf Γ.N vs).map (·.2) := fun i hi => by
      rw [ownOf_snd]
      have := List.all_eq_true.mp h4 i hi
      simpa using this
    have q := ss_setComp (pos := pos) (pos' := pos') (pc := pc) cel hi hs (sI it Γ S0 _ _ h6) h2 (chkT_ok (Γ := Γ.blk scope) h3) q7 (sE e (Γ.blk scope) (S0.blk scope) _ h8).1 hv h5
    rw [ownOf_snd] at q
    exact q
  · cases h
theorem st_comp2 (S0 : Sup Γ T R) {i : Nat} {x : Str} {cel : Bool} {vs vs1 : List Nat} {tg tg1 : Tg} {it it1 : It} {c e : E} {v : Expr} {pos pos' : Pos} (hi : Γ.N[i]? = some x) (hs : Γ.st x = true) (h : chkE T Γ.N Γ.sc (.comp2 cel vs vs1 tg tg1 it it1 c e) v = true) : SS Γ (.Assign [.Name x pos'] v pos) (evSet i (evE R T (.comp2 cel vs vs1 tg tg1 it it1 c e))) := by
  unfold chkE at h
  split at h
  · simp only [Bool.and_eq_true] at h
    obtain ⟨⟨⟨⟨⟨⟨⟨⟨⟨⟨⟨⟨⟨h1, h1'⟩, h2⟩, h3⟩, h4⟩, h5⟩, h6⟩, g3⟩, g4⟩, g4'⟩, g5⟩, g6⟩, h7⟩, h8⟩ := h
    have := of_decide_eq_true h1
    subst this
    have := of_decide_eq_true h1'
    subst this
    rename_i elt ptg pit ptg1 pit1 ifs scope pc
    have q7 : SP1 (Γ.blk scope) ifs (condOf c.isHole (evE R T c)) := by
      cases ifs with
      | nil => rw [show c.isHole = true from h7]; exact sp_nil
      | cons p ps =>
        cases ps with
        | nil =>
          have hl : c.isHole = false := by
            cases c <;> first | rfl | (exact (Bool.false_ne_true (show false = true from h7)).elim)
          rw [hl]
          exact sp_one (sE c (Γ.blk scope) (S0.blk scope) p h7).2.1
        | cons _ _ => cases h7
    have q := ss_setComp2 (pos := pos) (pos' := pos') (pc := pc) (own := ownOf Γ.N vs) (vs1 := vs1) cel hi hs (sI it Γ S0 _ _ h6) h2 (chkT_ok (Γ := Γ.blk scope) h3) (sI it1 (Γ.blk scope) (S0.blk scope) _ _ g6) (chkT_ok (Γ := Γ.blk scope) g3) q7 (sE e (Γ.blk scope) (S0.blk scope) _ h8).1 (fun i hi => by
      rw [ownOf_snd]
      have := List.all_eq_true.mp h4 i hi
      simpa using this) (fun i hi => by
      have := List.all_eq_true.mp g4 i hi
      simpa using this) (fun i hi => by
      rw [ownOf_snd]
      have := List.all_eq_true.mp g4' i hi
      simpa using this) h5 g5
    rw [ownOf_snd] at q
    exact q
  · cases h
theorem st_comp (S0 : Sup Γ T R) {i : Nat} {x : Str} {e : E} {v : Expr} {pos pos' : Pos} (hi : Γ.N[i]? = some x) (hs : Γ.st x = true) (hc : isComp1 e v = true) (h : chkE T Γ.N Γ.sc e v = true) : SS Γ (.Assign [.Name x pos'] v pos) (evSet i (evE R T e)) := by
  cases e with
  | comp cel vs tg it c e => exact st_comp1 S0 hi hs h
  | comp2 cel vs vs1 tg tg1 it it1 c e => exact st_comp2 S0 hi hs h
  | _ => cases hc
theorem notTup_of {v : Expr} (h : ∀ (a : List Expr) (b : Nat) (c : Pos), v = .Tuple a b c → False) : notTup v = true := by
  cases v <;> first | rfl | exact (h _ _ _ rfl).elim
theorem ss_never {Γ : Ctx} {st : Stmt} : SS Γ st (fun _ => stk) := ⟨fun _ _ _ => False, fun X G => ⟨fun pins s σ H Q I h => h.elim⟩, fun σ s env cs Dn ok eo h => (show False from h).elim⟩
theorem wipeE_ok {Γ : Ctx} {s : S3} {σ : L2.St} : ∀ (is : List Nat) {env : Env}, EnvOk Γ s σ env → EnvOk Γ s σ (wipeE env is)
  | [], _, h => h
  | i :: is, env, h => by
    have h' := wipeE_ok is h
    refine ⟨by show _ = List.length (List.set _ _ _); rw [List.length_set]; exact h'.len, fun j d e => ?_⟩
    have e : (List.set (wipeE env is) i none)[j]? = some (some d) := e
    rw [List.getElem?_set] at e
    by_cases hij : i = j
    · rw [if_pos hij] at e
      split at e <;> cases e
    · rw [if_neg hij] at e
      exact h'.at_ j d e
theorem sss_clr {Γ : Ctx} {sts : List Stmt} {is : List Nat} {F : Env → M Fl} (h : SSs Γ sts F) : SSs Γ sts (fun env => F (wipeE env is)) := by
  obtain ⟨t, h1, h2⟩ := h
  exact ⟨t, h1, fun σ s env cs Dn ok eo h => h2 σ s _ cs Dn ok (wipeE_ok is eo) h⟩
mutual
theorem sS : ∀ (t : S) (Γ : Ctx) (S0 : Sup Γ T R) (hst : Γ.st = stoB Γ.sc) (hk : Γ.sc.kind = .function) (st : Stmt), chkS T Γ.N Γ.sc t st = true → SS Γ st (evS R T t)
  | .set i e, Γ, S0, hst, hk, st, h => by
    unfold chkS at h
    split at h
    · simp only [Bool.and_eq_true, Bool.or_eq_true] at h
      obtain ⟨⟨⟨h1, h2⟩, h3⟩, h4⟩ := h
      rw [← hst] at h2
      rcases h3 with h3 | h3
      · exact ss_set (of_decide_eq_true h1) h2 h3 (sE e Γ S0 _ h4).1
      · exact st_comp S0 (of_decide_eq_true h1) h2 h3 h4
    · cases h
  | .setT is e, Γ, S0, hst, hk, st, h => by
    unfold chkS at h
    split at h
    · simp only [Bool.and_eq_true] at h
      obtain ⟨⟨h1, h2⟩, h3⟩ := h
      rw [← hst] at h1
      obtain ⟨q1, q2⟩ := chkNs_ok h1
      have q3 := (sE e Γ S0 _ h2).1
      split at h3
      · rw [Bool.and_eq_true] at h3
        exact ss_tupT hk (foldB_ok h3.1) (of_decide_eq_true h3.2) (sg_tup q2 q1) q3
      · exact ss_setT h3 (notTup_of (by assumption)) (sg_tup q2 q1) q3
    · cases h
  | .par is es, Γ, S0, hst, hk, st, h => by
    unfold chkS at h
    split at h
    · simp only [Bool.and_eq_true] at h
      obtain ⟨⟨⟨⟨⟨⟨⟨h1, h2⟩, h3⟩, h4⟩, h5⟩, h6⟩, h7⟩, h8⟩ := h
      exact ss_par2 hk (foldB_ok h6) (of_decide_eq_true h7) (of_decide_eq_true h1) (of_decide_eq_true h2) (of_decide_eq_true h3) (of_decide_eq_true h4) (of_decide_eq_true h5) (sEs es Γ S0 _ h8)
    · simp only [Bool.and_eq_true] at h
      obtain ⟨⟨⟨⟨⟨⟨⟨⟨⟨⟨⟨h1, h2⟩, h3⟩, h4⟩, h5⟩, h6⟩, h7⟩, h8⟩, h9⟩, h10⟩, h11⟩, h12⟩ := h
      exact ss_par3 hk (foldB_ok h10) (of_decide_eq_true h11) (of_decide_eq_true h1) (of_decide_eq_true h2) (of_decide_eq_true h3) (of_decide_eq_true h4) (of_decide_eq_true h5) (of_decide_eq_true h6) (of_decide_eq_true h7) (of_decide_eq_true h8) (of_decide_eq_true h9) (sEs es Γ S0 _ h12)
    · cases h
  | .setI o i v, Γ, S0, hst, hk, st, h => by
    unfold chkS at h
    split at h
    · simp only [Bool.and_eq_true] at h
      obtain ⟨⟨⟨⟨h1, h2⟩, h3⟩, h4⟩, h5⟩ := h
      exact ss_setI h1 h2 (sE o Γ S0 _ h3).1 (sE i Γ S0 _ h4).1 (sE v Γ S0 _ h5).1
    · cases h
  | .aug i e, Γ, S0, hst, hk, st, h => by
    unfold chkS at h
    split at h
    · simp only [Bool.and_eq_true] at h
      obtain ⟨⟨h1, h2⟩, h3⟩ := h
      rw [← hst] at h2
      exact ss_aug (of_decide_eq_true h1) h2 (sE e Γ S0 _ h3).1
    · cases h
  | .drop e, Γ, S0, hst, hk, st, h => by
    unfold chkS at h
    split at h
    · simp only [Bool.and_eq_true] at h
      exact ss_expr h.1 (sE e Γ S0 _ h.2).1
    · cases h
  | .doc, Γ, S0, hst, hk, st, h => by
    unfold chkS at h
    split at h
    · exact ss_doc
    · cases h
  | .pass, Γ, S0, hst, hk, st, h => by
    unfold chkS at h
    split at h
    · exact ss_pass
    · cases h
  | .ret e, Γ, S0, hst, hk, st, h => by
    unfold chkS at h
    split at h
    · exact ss_ret (sE e Γ S0 _ h).1
    · cases h
  | .retN, Γ, S0, hst, hk, st, h => by
    unfold chkS at h
    split at h
    · exact ss_retN
    · cases h
  | .iff c a b, Γ, S0, hst, hk, st, h => by
    unfold chkS at h
    split at h
    · simp only [Bool.and_eq_true] at h
      obtain ⟨⟨h1, h2⟩, h3⟩ := h
      exact ss_if (sE c Γ S0 _ h1).2.1 (sSs a Γ S0 hst hk _ h2) (sSs b Γ S0 hst hk _ h3)
    · cases h
  | .forS tg it b, Γ, S0, hst, hk, st, h => by
    unfold chkS at h
    split at h
    · simp only [Bool.and_eq_true] at h
      obtain ⟨⟨⟨h1, h2⟩, h3⟩, h4⟩ := h
      rw [← hst] at h1
      exact ss_for (sI it Γ S0 _ _ h3) (chkT_ok h1) (sSs b Γ S0 hst hk _ h4) h2
    · cases h
  | .wh n c b, Γ, S0, hst, hk, st, h => by
    unfold chkS at h
    split at h
    · simp only [Bool.and_eq_true] at h
      exact ss_while n (sE c Γ S0 _ h.1).2.1 (sSs b Γ S0 hst hk _ h.2)
    · cases h
  | .raise c, Γ, S0, hst, hk, st, h => by
    unfold chkS at h
    split at h
    · simp only [Bool.and_eq_true] at h
      obtain ⟨⟨h1, h2⟩, h3⟩ := h
      exact ss_raise (S0.excs c _ (of_decide_eq_true h1)) (of_decide_eq_true h2) (ndB_ok h3)
    · cases h
  | .never, Γ, S0, hst, hk, st, h => ss_never
theorem sSs : ∀ (t : Ss) (Γ : Ctx) (S0 : Sup Γ T R) (hst : Γ.st = stoB Γ.sc) (hk : Γ.sc.kind = .function) (sts : List Stmt), chkSs T Γ.N Γ.sc t sts = true → SSs Γ sts (evSs R T t)
  | .nil, Γ, S0, hst, hk, sts, h => by
    unfold chkSs at h
    split at h
    · exact sss_nil
    · cases h
  | .cons s ss, Γ, S0, hst, hk, sts, h => by
    unfold chkSs at h
    split at h
    · rw [Bool.and_eq_true] at h
      exact sss_cons (sS s Γ S0 hst hk _ h.1) (sSs ss Γ S0 hst hk _ h.2)
    · cases h
  | .frz i ss, Γ, S0, hst, hk, sts, h => by
    unfold chkSs at h
    exact sss_frz (sSs ss Γ S0 hst hk _ h)
  | .clr is ss, Γ, S0, hst, hk, sts, h => by
    unfold chkSs at h
    exact sss_clr (sSs ss Γ S0 hst hk _ h)
  | .zall i a b vs tg e, Γ, S0, hst, hk, sts, h => by
    unfold chkSs at h
    split at h
    · simp only [Bool.and_eq_true] at h
      obtain ⟨⟨⟨⟨⟨⟨⟨⟨⟨⟨⟨⟨⟨⟨⟨⟨⟨⟨⟨h1, h2⟩, h3⟩, h4⟩, h5⟩, h6⟩, h7⟩, h8⟩, h9⟩, h10⟩, h11⟩, h12⟩, h13⟩, h14⟩, h15⟩, h16⟩, h17⟩, h18⟩, h19⟩, h20⟩ := h
      have := of_decide_eq_true h1
      subst this
      have := of_decide_eq_true h2
      subst this
      have := of_decide_eq_true h3
      subst this
      have := of_decide_eq_true h4
      subst this
      rename_i px p1 pa pb p2 pos p3 elt ptg y p4 scope p5 p6 p7 pos2
      cases ptg <;> first | cases h16 | skip
      rename_i elts kk tpos
      have hv : ∀ i ∈ tg.slots, i ∈ (ownOf Γ.N vs).map (·.2) := fun i hi => by
        rw [ownOf_snd]
        have := List.all_eq_true.mp h19 i hi
        simpa using this
      have hst' := hst
      have q := sss_zall (px := px) (p1 := p1) (p2 := p2) (pos := pos) (p3 := p3) (p4 := p4) (p5 := p5) (p6 := p6) (p7 := p7) (pos2 := pos2) (own := ownOf Γ.N vs) (of_decide_eq_true h5) (by rw [hst]; exact h6) (visB_ok h7) (ndB_ok h8) (ncB_ok h9) (of_decide_eq_true h10) (S0.blt _ (by decide +kernel)) (of_decide_eq_true h11) (S0.blt _ (by decide +kernel)) (by rw [List.all_cons, List.all_cons, h12, h13]; rfl)
        (sa_cons h12 (sE a Γ S0 _ h14).1 (sa_cons h13 (sE b Γ S0 _ h15).1 sa_nil)) h17 (chkT_ok (Γ := Γ.blk scope) h18) (sE e (Γ.blk scope) (S0.blk scope) _ h20).1 hv
      rw [ownOf_snd] at q
      exact q
    · cases h
end
end
/-! ### programs -/
structure FDef where
  name : Str
  N : List Str
  np : Nat
  keep : Bool
  body : Ss
structure Prg where
  defs : List FDef
  cons : List (Str × D)
  excs : List Str
def Prg.tab (p : Prg) : Tab := ⟨p.defs.map FDef.name, p.cons, p.excs⟩
def run (p : Prg) : Nat → Nat → List D → M D
  | 0, _, _ => stk
  | k + 1, f, ds => match p.defs[f]? with
    | some d => runDef d.N.length d.np d.keep (evSs (run p k) p.tab d.body) ds
    | none => stk
def scopeB (N P : List Str) (sc : Scope) : Bool := (match sc.kind with | .function => true | _ => false) && !sc.isCoroutine && !sc.isGenerator && decide N.Nodup && decide (N.take P.length = P) &&
  (P.all fun x => decide (sc.names.lookup x = some .local) || decide (sc.names.lookup x = some .cell)) && sc.names.all fun y => decide (y.2 ≠ .free)
theorem scopeB_ok {N P : List Str} {sc : Scope} (h : scopeB N P sc = true) : FnScope N P sc := by
  unfold scopeB at h
  simp only [Bool.and_eq_true, Bool.not_eq_true', decide_eq_true_eq] at h
  obtain ⟨⟨⟨⟨⟨⟨h1, h2⟩, h3⟩, h4⟩, h5⟩, h6⟩, h7⟩ := h
  refine ⟨?_, h2, h3, h4, h5, fun x hx => ?_, fun y hy => ?_⟩
  · split at h1
    · assumption
    · cases h1
  · have := List.all_eq_true.mp h6 x hx
    rw [Bool.or_eq_true] at this
    exact this.imp (fun z => of_decide_eq_true z) fun z => of_decide_eq_true z
  · exact of_decide_eq_true (List.all_eq_true.mp h7 y hy)
def chkDef (T : Tab) (d : FDef) (st : Stmt) : Bool := scopeB d.N (d.N.take d.np) (defScope st) && decide (d.np ≤ d.N.length) && chkSs T d.N (defScope st) d.body (defBody st)
def BindD (d : FDef) (st : Stmt) : Prop := ∀ (kV doc pm : Value) (an : Option Addr) (cdv ct : Value) (us : List Value), us.length = (d.N.take d.np).length → bindArgs (PySem.W.fnOf d.name d.name (defArgs st) (defBody st) (defScope st) .none kV doc pm an cdv ct) ⟨us, []⟩ = pure ((d.N.take d.np).zip us)
inductive Defs (T : Tab) : List FDef → List Stmt → Prop
  | nil : Defs T [] []
  | cons {d : FDef} {st : Stmt} {ds : List FDef} {sts : List Stmt} : chkDef T d st = true → BindD d st → Defs T ds sts → Defs T (d :: ds) (st :: sts)
theorem Defs.at_ {T : Tab} : ∀ {ds : List FDef} {sts : List Stmt}, Defs T ds sts → ∀ {f : Nat} {d : FDef}, ds[f]? = some d → ∃ st, sts[f]? = some st ∧ chkDef T d st = true ∧ BindD d st
  | _, _, .nil, f, d, h => by simp at h
  | _, _, .cons h1 h2 t, 0, d, h => by cases h; exact ⟨_, rfl, h1, h2⟩
  | _, _, .cons h1 h2 t, f + 1, d, h => by
    rw [List.getElem?_cons_succ] at h
    obtain ⟨st, e, q⟩ := Defs.at_ t h
    exact ⟨st, by rw [List.getElem?_cons_succ]; exact e, q⟩
/-- what the top leaves of a program -/
structure Laid (Γ : Ctx) (p : Prg) (sts : List Stmt) : Prop where
  blt : ∀ x, x ∈ bltNames → Γ.mg x = none
  defs : Defs p.tab p.defs sts
  there : ∀ (f : Nat) (d : FDef) (st : Stmt), p.defs[f]? = some d → sts[f]? = some st → ∃ a fd, Γ.mg d.name = some (.ref a) ∧ Fun Γ.K d.name d.name st a fd
  cons : ∀ (c : Nat) (x : Str) (d : D), p.cons[c]? = some (x, d) → ∃ v u, Γ.mg x = some u ∧ RelV v u ∧ At Γ.K Γ.fa (fun _ => none) [] v d
  excs : ∀ (c : Nat) (x : Str), p.excs[c]? = some x → ExcI Γ x c
def Ctx.lev (Γ : Ctx) (k : Nat) : Ctx := { Γ with k := k }
theorem fd_same {K : PySem.W.Frag} {x q : Str} {st : Stmt} {a : Addr} {fd fd' : FuncData} (F : Fun K x q st a fd) (F' : Fun K x q st a fd') : fd = fd' := by
  obtain ⟨oc, od, kV, doc, pm, an, cdv, ct, osl, _, l, _⟩ := F.ex
  obtain ⟨oc', od', kV', doc', pm', an', cdv', ct', osl', _, l', _⟩ := F'.ex
  rw [l] at l'
  cases l'
  rfl
theorem run_len (p : Prg) (k f : Nat) (d : FDef) (h : p.defs[f]? = some d) : ∀ ds cs, ds.length ≠ d.np → run p k f ds cs = .stuck := by
  intro ds cs hl
  cases k with
  | zero => rfl
  | succ k =>
    unfold run
    rw [h]
    show runDef _ _ _ _ _ _ = _
    unfold runDef
    exact if_neg hl
theorem laid_fns {Γ : Ctx} {p : Prg} {sts : List Stmt} (L : Laid Γ p sts) : ∀ (k f : Nat) (x : Str), p.tab.fns[f]? = some x → FnI (Γ.lev k) x (run p k f) := by
  intro k
  induction k with
  | zero =>
    intro f x h
    obtain ⟨d, hd, rfl⟩ : ∃ d, p.defs[f]? = some d ∧ d.name = x := by
      have h : (p.defs.map FDef.name)[f]? = some x := h
      rw [List.getElem?_map] at h
      exact Option.map_eq_some_iff.mp h
    obtain ⟨st, hs, hc, hb⟩ := L.defs.at_ hd
    obtain ⟨a, fd, hm, F⟩ := L.there f d st hd hs
    have hnp : (d.N.take d.np).length = d.np := by
      unfold chkDef at hc
      simp only [Bool.and_eq_true, decide_eq_true_eq] at hc
      rw [List.length_take]; omega
    refine ⟨a, fd, d.N.take d.np, hm, F.kp, F.binds hb, fun ds cs hl => rfl, ⟨fun vs H Q E q => ?_, fun A outer s H args us vs Q E hr e0 hbd hv q => ?_⟩⟩
    · obtain ⟨_, _, _, _, hl, _⟩ := q
      exact hl
    · obtain ⟨_, _, _, _, _, _, _, q⟩ := q
      exact q.elim
  | succ k ih =>
    intro f x h
    obtain ⟨d, hd, rfl⟩ : ∃ d, p.defs[f]? = some d ∧ d.name = x := by
      have h : (p.defs.map FDef.name)[f]? = some x := h
      rw [List.getElem?_map] at h
      exact Option.map_eq_some_iff.mp h
    obtain ⟨st, hs, hc, hb⟩ := L.defs.at_ hd
    obtain ⟨a, fd, hm, F⟩ := L.there f d st hd hs
    unfold chkDef at hc
    simp only [Bool.and_eq_true, decide_eq_true_eq] at hc
    obtain ⟨⟨h1, h2⟩, h3⟩ := hc
    have hnp : (d.N.take d.np).length = d.np := by rw [List.length_take]; omega
    have hrun : run p (k + 1) f = runDef d.N.length d.np d.keep (evSs (run p k) p.tab d.body) := by
      funext ds
      show (match p.defs[f]? with | some d => _ | none => _) = _
      rw [hd]
    have sc := scopeB_ok h1
    have main := fn_sound (Γ := Γ) (k := k) (keep := d.keep) (B := evSs (run p k) p.tab d.body) F sc fun E => by
      refine sSs d.body (Γ.def d.N (defScope st) k E) ⟨L.blt, fun g y hg => ⟨(ih g y hg).ex⟩, L.cons, fun c y hy => ⟨(L.excs c y hy).ex⟩⟩ rfl sc.kind (defBody st) h3
    rw [hnp, ← hrun] at main
    refine ⟨a, fd, d.N.take d.np, hm, F.kp, F.binds hb, fun ds cs hl => run_len p (k + 1) f d hd ds cs (by rw [hnp] at hl; exact hl), ?_⟩
    rw [hnp]
    exact main
end KH

/-! KH: from the head's facts to the law. -/
namespace KH
open PySem PySem.Spec PyProof.Rows L2
def conFa : Str × D → He.Fa
  | (x, .int i) => .int x i
  | (x, .str z) => .str x z
  | (x, _) => .int x 0
def conOk : D → Bool
  | .int _ => true
  | .str _ => true
  | _ => false
def Prg.fa (p : Prg) : List He.Fa := bltNames.map .free ++ (p.defs.map (fun d => He.Fa.glo d.name) ++ (p.defs.map (fun d => He.Fa.keep d.name) ++ (p.cons.map conFa ++ (p.excs.map He.Fa.glo ++ p.excs.map He.Fa.exc))))
def fnOne (d : FDef) (st : Stmt) : He.FnD := ⟨(d.name, none), d.name, d.name, defArgs st, defBody st, defScope st⟩
def Prg.fn (p : Prg) (sts : List Stmt) : List He.FnD := List.zipWith fnOne p.defs sts
def Ctx.of (P : Program) (w : World) (K : PySem.W.Frag) (mg : Str → Option Value) (base : Heap) (p : Prg) : Ctx :=
  { P := P, w := w, K := K, mg := mg, base := base, N := [], sc := ⟨.function, [], false, false, []⟩, st := fun _ => false, k := 0, E := fun _ _ _ => False, fa := p.defs.map fun d => He.ga K d.name, xc := fun c => (p.excs[c]?).map (He.ga K) }
section
variable {P : Program} {w : World} {K : PySem.W.Frag} {mg : Str → Option Value} {base h : Heap} {p : Prg} {sts : List Stmt}
theorem fact_of {fa : List He.Fa} {fn : List He.FnD} (c : He.SaysE fa fn K) {f : He.Fa} (hf : f ∈ fa) : f.ok K = true := by
  have c1 := (He.ba (show ((fa.all fun f => f.ok K) && fn.all fun d => (He.Fa.code d.at_ d.qual).ok K) = true from congrArg (fun z : He.Al => z.1) c)).1
  exact List.all_eq_true.mp c1 f hf
theorem laid_of (c : He.SaysE p.fa (p.fn sts) K) (X : K.In h) (G : h.Ns mainGlobals mg) (hd : Defs p.tab p.defs sts) (hc : p.cons.all (fun q => conOk q.2) = true) : Laid (Ctx.of P w K mg base p) p sts := by
  have gl : ∀ (f : Nat) (d : FDef), p.defs[f]? = some d → mg d.name = some (.ref (He.ga K d.name)) := fun f d hd => by
    refine He.glo_ok X G (fact_of c ?_)
    unfold Prg.fa
    exact List.mem_append_right _ (List.mem_append_left _ (List.mem_map.mpr ⟨d, List.mem_of_getElem? hd, rfl⟩))
  refine ⟨fun x hx => ?_, hd, fun f d st h1 h2 => ?_, fun i x d hi => ?_, fun i x hi => ?_⟩
  · refine He.free_ok X G (fact_of c ?_)
    unfold Prg.fa
    exact List.mem_append_left _ (List.mem_map.mpr ⟨x, hx, rfl⟩)
  · have hfn : (p.fn sts)[f]? = some (fnOne d st) := by
      unfold Prg.fn
      rw [List.getElem?_zipWith, h1, h2]
    obtain ⟨oc, od, osl, kV, doc, pm, an, cdv, ct, q1, q2⟩ := He.SaysE.def_ c f hfn
    refine ⟨He.ga K d.name, _, gl f d h1, fun_mk (st := st) q1 q2 (He.keep_ok (x := d.name) (fact_of c ?_))⟩
    unfold Prg.fa
    exact List.mem_append_right _ (List.mem_append_right _ (List.mem_append_left _ (List.mem_map.mpr ⟨d, List.mem_of_getElem? h1, rfl⟩)))
  · have hm : conFa (x, d) ∈ p.fa := by
      unfold Prg.fa
      exact List.mem_append_right _ (List.mem_append_right _ (List.mem_append_right _ (List.mem_append_left _ (List.mem_map.mpr ⟨(x, d), List.mem_of_getElem? hi, rfl⟩))))
    have ho := List.all_eq_true.mp hc (x, d) (List.mem_of_getElem? hi)
    cases d with
    | int i =>
      obtain ⟨t, e⟩ := He.int_ok X G (fact_of c hm)
      exact ⟨.int i, _, e, ⟨t, rfl⟩, .int i⟩
    | str z =>
      obtain ⟨t, e⟩ := He.str_ok X G (fact_of c hm)
      exact ⟨.str z, _, e, ⟨t, rfl⟩, .str z⟩
    | _ => cases ho
  · have hm : He.Fa.exc x ∈ p.fa := by
      unfold Prg.fa
      exact List.mem_append_right _ (List.mem_append_right _ (List.mem_append_right _ (List.mem_append_right _ (List.mem_append_right _ (List.mem_map.mpr ⟨x, List.mem_of_getElem? hi, rfl⟩)))))
    have hm2 : He.Fa.glo x ∈ p.fa := by
      unfold Prg.fa
      exact List.mem_append_right _ (List.mem_append_right _ (List.mem_append_right _ (List.mem_append_right _ (List.mem_append_left _ (List.mem_map.mpr ⟨x, List.mem_of_getElem? hi, rfl⟩)))))
    obtain ⟨e1, e2, e3, e4⟩ := He.exc_ok (fact_of c hm)
    refine ⟨He.ga K x, He.glo_ok X G (fact_of c hm2), ?_, e2, e1, e3, e4⟩
    show (p.excs[i]?).map (He.ga K) = _
    rw [hi]
    rfl
theorem laid_fn {Γ : Ctx} (L : Laid Γ p sts) (k f : Nat) {d : FDef} {st : Stmt} {a : Addr} {fd : FuncData} (hd : p.defs[f]? = some d) (hs : sts[f]? = some st) (F : Fun Γ.K d.name d.name st a fd) :
    FnOk Γ.P Γ.w Γ.K Γ.mg Γ.base (L2.CX Γ.P Γ.w) (k + 1) a fd (d.N.take d.np) (spD Γ (d.N.take d.np).length (run p (k + 1) f)) := by
  obtain ⟨st', hs', hc, hb⟩ := L.defs.at_ hd
  rw [hs] at hs'
  cases hs'
  unfold chkDef at hc
  simp only [Bool.and_eq_true, decide_eq_true_eq] at hc
  obtain ⟨⟨h1, h2⟩, h3⟩ := hc
  have hnp : (d.N.take d.np).length = d.np := by rw [List.length_take]; omega
  have hrun : run p (k + 1) f = runDef d.N.length d.np d.keep (evSs (run p k) p.tab d.body) := by
    funext ds
    show (match p.defs[f]? with | some d => _ | none => _) = _
    rw [hd]
  have sc := scopeB_ok h1
  have main := fn_sound (Γ := Γ) (k := k) (keep := d.keep) (B := evSs (run p k) p.tab d.body) F sc fun E => by
    refine sSs d.body (Γ.def d.N (defScope st) k E) ⟨L.blt, fun g y hg => ⟨(laid_fns L k g y hg).ex⟩, L.cons, fun c y hy => ⟨(L.excs c y hy).ex⟩⟩ rfl sc.kind (defBody st) h3
  rw [hnp, ← hrun] at main
  rw [hnp]
  exact main
end
/-- the law: whatever the script, True -/
def LawOk (p : Prg) (k f : Nat) : Prop := ∀ ns : List Int, ns.length ≤ 63 → ∃ cs, run p k f [scrD ns] [] = .ok (.bool true) cs
theorem law_sp {Γ : Ctx} {p : Prg} {k f : Nat} (h : LawOk p k f) {n : Nat} (hn : n = 1) (H : Hp) (a : Addr) (ns : List Int) (hl : ns.length ≤ 63) (hS : SqL Γ.K H a (ns.map V.int)) :
    spD Γ n (run p k f) [.ref a] H (fun v _ => v = .bl true) (fun _ _ _ => False) := by
  obtain ⟨cs, e⟩ := h ns hl
  refine ⟨⟨H, H, []⟩, [], [scrD ns], rfl, hn ▸ rfl, ⟨Same.refl _, rfl, List.nodup_nil, ?_, ?_⟩, .cons (.scr hS) .nil, ?_⟩
  · intro b hb
    exact absurd (show b ∈ ([] : List Addr) from hb) (by simp)
  · intro m b ds h1
    exact absurd (show ([] : List Addr)[m]? = some b from h1) (by simp)
  · rw [e]
    intro v s' st ok at_
    cases at_
    rfl
theorem cx_false {P : Program} {w : World} (H : Hp) (s : Shared) (e : Value) (s' : Shared) (z : L2.CX P w [] H s (fun _ _ _ => False) e s') : False := by
  obtain ⟨_, _, _, _, _, _, _, _, _, _, _, _, z⟩ := z
  exact z
theorem walk_ofW {l : PySem.W.OpenLaw} {n k : Nat} {q : Program} {loose : List Str} {XP : (Str → Option Value) → Heap → Prop} {YP : World → Heap → Prop} {d : DefRec} {CX : World → CXT} {x : Str}
    (hn : l.most = some n) (hn2 : n ≤ sizeLine) (hdf : d.params.defaults = []) (hr : Room k callerA)
    (F : ∀ (w : World) (mg : Str → Option Value) (fa : Addr) (h : Heap), YP w h → h.Ns mainGlobals mg → mg d.name = some (.ref fa) →
      ∃ (K : PySem.W.Frag) (fd : FuncData) (sp : Sp), K.In h ∧ (∀ (s : Shared) (u : Value), BindsTo s fd ⟨[u], []⟩ [(x, u)]) ∧
        (∀ (H : Hp) (a : Addr) (ns : List Int), ns.length ≤ n → Only H → SqL K H a (ns.map V.int) → sp [.ref a] H (fun v _ => v = .bl true) fun _ _ _ => False) ∧
        ∀ base : Heap, K.In base → base.Ns mainGlobals mg → FnOk l.prog w K mg base (CX w) k fa fd [x] sp)
    (hCX : ∀ (w : World) (H : Hp) (s : Shared) (e : Value) (s' : Shared), CX w [] H s (fun _ _ _ => False) e s' → False) :
    PySem.W.WalkO q loose XP YP l.row.toRowW d [] (fun f vs => PySem.call f vs) := by
  refine Att.attach_call hn hdf fun w s₀ s₁ mg mb fa o pm cd doc a vs ns G Y ho hd hcd hmg hobj hints hlen hg => ?_
  obtain ⟨K, fd, sp, KX, hb, hsp, hF⟩ := F w mg fa _ Y G.T.g hmg
  exact law_call KX G.T.g G.T.b G.T.builtins G.T.nolimit hg hobj hints (Nat.le_trans hlen hn2) hr hF hb (fun H hO hS => hsp H a ns hlen hO hS) fun H e s' => hCX w H s₁ e s'
/-- the end of a law's row, over a head by facts -/
theorem walk_law {l : PySem.W.OpenLaw} {q : Program} {loose : List Str} {XP : (Str → Option Value) → Heap → Prop} {YP : World → Heap → Prop} {dr : DefRec} {p : Prg} {sts : List Stmt} {f k : Nat} {d : FDef} {st : Stmt}
    (hn : l.most = some 63) (hdf : dr.params.defaults = []) (hr : Room (k + 1) callerA) (hY : ∀ w h, YP w h → ∃ K : PySem.W.Frag, K.In h ∧ He.SaysE p.fa (p.fn sts) K)
    (hdefs : Defs p.tab p.defs sts) (hc : p.cons.all (fun q => conOk q.2) = true) (hd : p.defs[f]? = some d) (hs : sts[f]? = some st) (hp : d.N.take d.np = [("script" : Str)]) (hnm : dr.name = d.name) (law : LawOk p (k + 1) f) :
    PySem.W.WalkO q loose XP YP l.row.toRowW dr [] (fun f vs => PySem.call f vs) := by
  refine walk_ofW (n := 63) (k := k + 1) (x := "script") (CX := fun w => L2.CX l.prog w) hn (by rw [line_eq]; decide) hdf hr (fun w mg fa h Y G hmg => ?_) fun w => cx_false
  obtain ⟨K, KX, c⟩ := hY w h Y
  have L0 : Laid (Ctx.of l.prog w K mg h p) p sts := laid_of c KX G hdefs hc
  obtain ⟨a, fd, hm, F⟩ := L0.there f d st hd hs
  obtain ⟨st', hs', hck, hb⟩ := L0.defs.at_ hd
  rw [hs] at hs'
  cases hs'
  have ea : a = fa := by
    rw [hnm] at hmg
    have hm : mg d.name = some (.ref a) := hm
    rw [hm] at hmg
    cases hmg
    rfl
  subst ea
  have hpl : (d.N.take d.np).length = 1 := by rw [hp]; rfl
  refine ⟨K, fd, spD (Ctx.of l.prog w K mg h p) 1 (run p (k + 1) f), KX, fun s u => ?_, fun H a ns hl _ hS => law_sp law rfl H a ns hl hS, fun base KB GB => ?_⟩
  · obtain ⟨oc, od, kV, doc, pm, an, cdv, ct, osl, rfl, _⟩ := F.ex
    have := hb kV doc pm an cdv ct [u] (by rw [hpl]; rfl)
    rw [hp] at this
    exact .of_eq this
  · have L : Laid (Ctx.of l.prog w K mg base p) p sts := laid_of c KB GB hdefs hc
    have q := laid_fn L k f hd hs F
    rw [hp] at q
    exact q
end KH

/-! KH: to reckon with trees: what each node does, by rewriting. -/
namespace KH
open PySem PySem.Spec PyProof.Rows L2
def Res.bd {α β : Type} (r : Res α) (k : α → CS → Res β) : Res β := match r with
  | .ok a c => k a c
  | .exc e c => .exc e c
  | .stuck => .stuck
section
variable {α β γ : Type}
@[simp] theorem bd_ok (a : α) (c : CS) (k : α → CS → Res β) : (Res.ok a c).bd k = k a c := rfl
@[simp] theorem bd_exc (e : Exc) (c : CS) (k : α → CS → Res β) : (Res.exc e c : Res α).bd k = .exc e c := rfl
@[simp] theorem bd_stuck (k : α → CS → Res β) : (Res.stuck : Res α).bd k = .stuck := rfl
@[simp] theorem bd_ite (p : Prop) [Decidable p] (a b : Res α) (k : α → CS → Res β) : (if p then a else b).bd k = if p then a.bd k else b.bd k := by split <;> rfl
theorem bd_bd (r : Res α) (f : α → CS → Res β) (g : β → CS → Res γ) : (r.bd f).bd g = r.bd fun a c => (f a c).bd g := by cases r <;> rfl
@[simp] theorem mb_bd (m : M α) (k : α → M β) (cs : CS) : mb m k cs = (m cs).bd k := by unfold mb; cases m cs <;> rfl
@[simp] theorem ret_ok (a : α) (cs : CS) : ret a cs = .ok a cs := rfl
@[simp] theorem stk_st (cs : CS) : (stk : M α) cs = .stuck := rfl
end
/-- a variable's value -/
def fetch (env : Env) (i : Nat) (cs : CS) : Res D := match env[i]? with
  | some (some d) => .ok d cs
  | _ => .stuck
@[simp] theorem fetch_0 (d : D) (env : Env) (cs : CS) : fetch (some d :: env) 0 cs = .ok d cs := rfl
@[simp] theorem fetch_s (o : Option D) (env : Env) (i : Nat) (cs : CS) : fetch (o :: env) (i + 1) cs = fetch env i cs := rfl
def fetchC (l : List (Str × D)) (i : Nat) (cs : CS) : Res D := match l[i]? with
  | some (_, d) => .ok d cs
  | _ => .stuck
@[simp] theorem fetchC_0 (x : Str) (d : D) (l : List (Str × D)) (cs : CS) : fetchC ((x, d) :: l) 0 cs = .ok d cs := rfl
@[simp] theorem fetchC_s (o : Str × D) (l : List (Str × D)) (i : Nat) (cs : CS) : fetchC (o :: l) (i + 1) cs = fetchC l i cs := rfl
/-- by a truth value -/
def tst {α : Type} (d : D) (a b : Res α) : Res α := match d with
  | .bool true => a
  | .bool false => b
  | _ => .stuck
@[simp] theorem tst_bl {α : Type} (b : Bool) (x y : Res α) : tst (.bool b) x y = if b = true then x else y := by cases b <;> rfl
theorem setTg_tp (is : List Nat) (ds : List D) (env : Env) : setTg (.tp is) (.tuple ds) env = if ds.length = is.length then some (setAll is ds env) else none := rfl
theorem ite_ap {α : Type} {p : Prop} [Decidable p] (f g : M α) (cs : CS) : (if p then f else g) cs = if p then f cs else g cs := by split <;> rfl
theorem tst_of {α : Type} {x : D} {f g : M α} {cs : CS} : (match x with | .bool true => f | .bool false => g | _ => stk) cs = tst x (f cs) (g cs) := by
  cases x with
  | bool b => cases b <;> rfl
  | _ => rfl
section
variable (R : Nat → List D → M D) (T : Tab) (env : Env) (cs : CS)
@[simp] theorem eE_var (i : Nat) : evE R T (.var i) env cs = fetch env i cs := by
  show evVar i env cs = _
  unfold evVar fetch
  cases env[i]? with
  | none => rfl
  | some o => cases o <;> rfl
@[simp] theorem eE_nev : evE R T .nev env cs = .stuck := rfl
@[simp] theorem eE_int (i : Int) : evE R T (.int i) env cs = .ok (.int i) cs := rfl
@[simp] theorem eE_bl (b : Bool) : evE R T (.bl b) env cs = .ok (.bool b) cs := rfl
@[simp] theorem eE_non : evE R T .non env cs = .ok .none cs := rfl
@[simp] theorem eE_str (s : Str) : evE R T (.str s) env cs = .ok (.str s) cs := rfl
@[simp] theorem eE_con (c : Nat) : evE R T (.con c) env cs = fetchC T.cons c cs := by
  show evCon T c env cs = _
  unfold evCon fetchC
  cases T.cons[c]? with
  | none => rfl
  | some o => rfl
@[simp] theorem eE_tup (es : Es) : evE R T (.tup es) env cs = (evEs R T es env cs).bd fun xs c => if xs.length ≤ 16777216 then .ok (.tuple xs) c else .stuck := by
  show evTup _ env cs = _
  unfold evTup
  rw [mb_bd]
  congr 1
  funext xs c
  exact ite_ap _ _ _
theorem box_f (f : Env → M (List D)) : box false f env cs = (f env cs).bd fun xs c => .ok (.list xs) c := by show mb _ _ cs = _; rw [mb_bd]; rfl
theorem box_t (f : Env → M (List D)) : box true f env cs = (f env cs).bd fun xs c => if PyData.canLayAll0 xs = true then .ok (cellD c.length) (c ++ [some xs]) else .stuck := by show mb _ _ cs = _; rw [mb_bd]; rfl
def boxR (cel : Bool) (r : Res (List D)) : Res D := r.bd fun xs c => if cel = true then (if PyData.canLayAll0 xs = true then .ok (cellD c.length) (c ++ [some xs]) else .stuck) else .ok (.list xs) c
theorem box_R (cel : Bool) (f : Env → M (List D)) : box cel f env cs = boxR cel (f env cs) := by
  cases cel
  · rw [box_f]; rfl
  · rw [box_t]; rfl
@[simp] theorem boxR_f (xs : List D) (c : CS) : boxR false (.ok xs c) = .ok (.list xs) c := rfl
@[simp] theorem boxR_t (xs : List D) (c : CS) : boxR true (.ok xs c) = if PyData.canLayAll0 xs = true then .ok (cellD c.length) (c ++ [some xs]) else .stuck := rfl
@[simp] theorem boxR_e (cel : Bool) (e : Exc) (c : CS) : boxR cel (.exc e c) = .exc e c := rfl
@[simp] theorem boxR_ite (cel : Bool) (p : Prop) [Decidable p] (a b : Res (List D)) : boxR cel (if p then a else b) = if p then boxR cel a else boxR cel b := by split <;> rfl
@[simp] theorem eE_disp (cel : Bool) (es : Es) : evE R T (.disp cel es) env cs = boxR cel ((evEs R T es env cs).bd fun xs c => if xs.length ≤ 16777216 then .ok xs c else .stuck) := by
  show box cel (evDisp _) env cs = _
  rw [box_R]
  unfold evDisp
  rw [mb_bd]
  congr 2
  funext xs c
  exact ite_ap _ _ _
@[simp] theorem eE_bin (o : Bop) (a b : E) : evE R T (.bin o a b) env cs = (evE R T a env cs).bd fun x c => (evE R T b env c).bd fun y c2 => o.fn x y c2 := by
  show ev2 _ _ _ env cs = _
  unfold ev2
  rw [mb_bd]
  congr 1
@[simp] theorem eE_neg (a : E) : evE R T (.neg a) env cs = (evE R T a env cs).bd fun x c => negD x c := by
  show ev1 _ _ env cs = _
  unfold ev1
  rw [mb_bd]
@[simp] theorem eE_not (a : E) : evE R T (.not a) env cs = (evE R T a env cs).bd fun x c => notD x c := by
  show ev1 _ _ env cs = _
  unfold ev1
  rw [mb_bd]
@[simp] theorem eE_and (a b : E) : evE R T (.and a b) env cs = (evE R T a env cs).bd fun x c => tst x (evE R T b env c) (.ok (.bool false) c) := by
  show evAnd _ _ env cs = _
  unfold evAnd
  rw [mb_bd]
  congr 1
  funext x c
  exact tst_of
@[simp] theorem eE_or (a b : E) : evE R T (.or a b) env cs = (evE R T a env cs).bd fun x c => tst x (.ok (.bool true) c) (evE R T b env c) := by
  show evOr _ _ env cs = _
  unfold evOr
  rw [mb_bd]
  congr 1
  funext x c
  exact tst_of
@[simp] theorem eE_one (a : E) : evE R T (.one a) env cs = evE R T a env cs := rfl
@[simp] theorem eE_cmp (o : Cmp1) (a b : E) : evE R T (.cmp o a b) env cs = (evE R T a env cs).bd fun x c => (evE R T b env c).bd fun y c2 => o.fn x y c2 := by
  show ev2 _ _ _ env cs = _
  unfold ev2
  rw [mb_bd]
  congr 1
@[simp] theorem eE_chn (o p : Cmp1) (a b e : E) : evE R T (.chn o p a b e) env cs = (evE R T a env cs).bd fun x c => (evE R T b env c).bd fun y c2 => (o.fn x y c2).bd fun z c3 => tst z ((evE R T e env c3).bd fun w c4 => p.fn y w c4) (.ok (.bool false) c3) := by
  show ev3 _ _ _ _ _ env cs = _
  unfold ev3
  rw [mb_bd]
  congr 1
  funext x c
  rw [mb_bd]
  congr 1
  funext y c2
  rw [mb_bd]
  congr 1
  funext z c3
  rw [← mb_bd]
  exact tst_of
@[simp] theorem eE_ife (c a b : E) : evE R T (.ife c a b) env cs = (evE R T c env cs).bd fun x c2 => tst x (evE R T a env c2) (evE R T b env c2) := by
  show evIf _ _ _ env cs = _
  unfold evIf
  rw [mb_bd]
  congr 1
  funext x c
  exact tst_of
@[simp] theorem eE_call (f : Nat) (es : Es) : evE R T (.call f es) env cs = (evEs R T es env cs).bd fun xs c => R f xs c := by
  show evA _ _ env cs = _
  unfold evA
  rw [mb_bd]
@[simp] theorem eE_blt (b : Blt) (es : Es) : evE R T (.blt b es) env cs = (evEs R T es env cs).bd fun xs c => b.fn xs c := by
  show evA _ _ env cs = _
  unfold evA
  rw [mb_bd]
@[simp] theorem eE_isi (t : Ty) (e : E) : evE R T (.isi t e) env cs = (evE R T e env cs).bd fun x c => isiD t x c := by
  show ev1 _ _ env cs = _
  unfold ev1
  rw [mb_bd]
@[simp] theorem eE_ix (a i : E) : evE R T (.ix a i) env cs = (evE R T a env cs).bd fun x c => (evE R T i env c).bd fun y c2 => ixD x y c2 := by
  show ev2 _ _ _ env cs = _
  unfold ev2
  rw [mb_bd]
  congr 1
/-- a slice's end -/
def prt (r : Res D) : Res (Option Int) := r.bd fun d c => intPart d c
@[simp] theorem intPart_i (i : Int) : intPart (.int i) cs = .ok (some i) cs := rfl
@[simp] theorem eE_sl (a lo hi : E) : evE R T (.sl a lo hi) env cs = (evE R T a env cs).bd fun d c => (if lo.isHole = true then .ok none c else (evE R T lo env c).bd fun x c => intPart x c).bd fun l c2 => (if hi.isHole = true then .ok none c2 else (evE R T hi env c2).bd fun x c => intPart x c).bd fun h c3 => cutD d l h c3 := by
  show evSlice _ _ _ env cs = _
  unfold evSlice
  rw [mb_bd]
  congr 1
  funext d c
  rw [mb_bd]
  have hp : ∀ (x : E) (c : CS), partOf x.isHole (evE R T x) env c = if x.isHole = true then .ok none c else (evE R T x env c).bd fun x c => intPart x c := fun x c => by
    unfold partOf
    cases x.isHole
    · show evPart _ env c = _
      unfold evPart
      rw [mb_bd]
      rfl
    · rfl
  rw [hp]
  congr 1
  funext l c2
  rw [mb_bd, hp]
@[simp] theorem eE_comp (cel : Bool) (vs : List Nat) (tg : Tg) (it : It) (c e : E) : evE R T (.comp cel vs tg it c e) env cs = boxR cel ((evI R T it env cs).bd fun ds c2 => compL vs tg (condOf c.isHole (evE R T c)) (evE R T e) env ds c2) := by
  show box cel (evComp _ _ _ _ _) env cs = _
  rw [box_R]
  unfold evComp
  rw [mb_bd]
@[simp] theorem eE_comp2 (cel : Bool) (vs vs1 : List Nat) (tg tg1 : Tg) (it it1 : It) (c e : E) : evE R T (.comp2 cel vs vs1 tg tg1 it it1 c e) env cs = boxR cel ((evI R T it env cs).bd fun ds c2 => comp2L vs tg vs1 (evI R T it1) tg1 (condOf c.isHole (evE R T c)) (evE R T e) env ds 0 c2) := by
  show box cel (evComp2 _ _ _ _ _ _ _ _) env cs = _
  rw [box_R]
  unfold evComp2
  rw [mb_bd]
@[simp] theorem eE_lrg1 (cel : Bool) (a : E) : evE R T (.lrg1 cel a) env cs = boxR cel ((evE R T a env cs).bd fun j c => rangeV (.int 0) j c) := by
  show box cel (evLrg1 _) env cs = _
  rw [box_R]
  unfold evLrg1
  rw [mb_bd]
@[simp] theorem eE_lrg2 (cel : Bool) (a b : E) : evE R T (.lrg2 cel a b) env cs = boxR cel ((evE R T a env cs).bd fun i c => (evE R T b env c).bd fun j c2 => rangeV i j c2) := by
  show box cel (evLrg2 _ _) env cs = _
  rw [box_R]
  unfold evLrg2
  rw [mb_bd]
  congr 2
def repR (d e : D) (cs : CS) : Res (List D) := match e, lstOf d cs with
  | .int k, some xs => if -1000000 ≤ k ∧ k ≤ 1000000 ∧ xs.length * k.toNat ≤ 16777216 then .ok (List.replicate k.toNat xs).flatten cs else .stuck
  | _, _ => .stuck
@[simp] theorem eE_rep (cel : Bool) (a b : E) : evE R T (.rep cel a b) env cs = boxR cel ((evE R T a env cs).bd fun d c => (evE R T b env c).bd fun e c2 => repR d e c2) := by
  show box cel (evRepF _ _) env cs = _
  rw [box_R]
  unfold evRepF
  rw [mb_bd]
  congr 2
def lscR (d : D) (cs : CS) : Res (List D) := match seqOf d cs with
  | some xs => .ok xs cs
  | none => .stuck
@[simp] theorem eE_lsc (cel : Bool) (a : E) : evE R T (.lsc cel a) env cs = boxR cel ((evE R T a env cs).bd fun d c => lscR d c) := by
  show box cel (evListF _) env cs = _
  rw [box_R]
  unfold evListF
  rw [mb_bd]
  rfl
def mtR (o : D) (c : CS) (r : Res D) : Res D := match lstOf o c with
  | some _ => r
  | none => .stuck
theorem mt_eq (k : D → List D → M D) (f : Env → M D) (fl : Env → M (List D)) : evMt k f fl env cs = (f env cs).bd fun o c => mtR o c ((fl env c).bd fun ys c2 => k o ys c2) := by
  unfold evMt
  rw [mb_bd]
  congr 1
  funext o c
  rw [mb_bd]
  unfold chkL mtR
  cases lstOf o c with
  | none => rfl
  | some x => show mb _ _ c = _; rw [mb_bd]
theorem eEs_1 (e : E) (c : CS) : evCons (evE R T e) evNil env c = (evE R T e env c).bd fun x c => .ok [x] c := by
  unfold evCons
  rw [mb_bd]
  congr 1
@[simp] theorem eE_app (a e : E) : evE R T (.app a e) env cs = (evE R T a env cs).bd fun o c => mtR o c ((evE R T e env c).bd fun y c2 => appD o y c2) := by
  show evMt appDs _ _ env cs = _
  rw [mt_eq]
  congr 1
  funext o c
  rw [eEs_1, bd_bd]
  rfl
@[simp] theorem eE_pop (a : E) : evE R T (.pop a) env cs = (evE R T a env cs).bd fun o c => popD o c := by
  show ev1 _ _ env cs = _
  unfold ev1
  rw [mb_bd]
@[simp] theorem eE_popAt (a e : E) : evE R T (.popAt a e) env cs = (evE R T a env cs).bd fun o c => mtR o c ((evE R T e env c).bd fun y c2 => popAtD o y c2) := by
  show evMt popAtDs _ _ env cs = _
  rw [mt_eq]
  congr 1
  funext o c
  rw [eEs_1, bd_bd]
  rfl
@[simp] theorem eE_idx (a e : E) : evE R T (.idx a e) env cs = (evE R T a env cs).bd fun o c => mtR o c ((evE R T e env c).bd fun y c2 => idxD o [y] c2) := by
  show evMt idxD _ _ env cs = _
  rw [mt_eq]
  congr 1
  funext o c
  rw [eEs_1, bd_bd]
  rfl
@[simp] theorem eE_sset (a : E) : evE R T (.sset a) env cs = (evE R T a env cs).bd fun x c => ssetD [x] c := by
  show evA _ _ env cs = _
  unfold evA
  rw [mb_bd, eEs_1, bd_bd]
  rfl
@[simp] theorem eE_lset (a : E) : evE R T (.lset a) env cs = (evE R T a env cs).bd fun x c => lsetD [x] c := by
  show evA _ _ env cs = _
  unfold evA
  rw [mb_bd, eEs_1, bd_bd]
  rfl
@[simp] theorem eE_rev (a : E) : evE R T (.rev a) env cs = (evE R T a env cs).bd fun x c => revD x c := by
  show ev1 _ _ env cs = _
  unfold ev1
  rw [mb_bd]
@[simp] theorem eEs_nil : evEs R T .nil env cs = .ok [] cs := rfl
@[simp] theorem eEs_cons (e : E) (es : Es) : evEs R T (.cons e es) env cs = (evE R T e env cs).bd fun x c => (evEs R T es env c).bd fun xs c2 => .ok (x :: xs) c2 := by
  show evCons _ _ env cs = _
  unfold evCons
  rw [mb_bd]
  congr 1
@[simp] theorem eI_seq (e : E) : evI R T (.seq e) env cs = (evE R T e env cs).bd fun d c => litOf d c := by
  show evSeq _ env cs = _
  unfold evSeq
  rw [mb_bd]
@[simp] theorem eI_rng1 (a : E) : evI R T (.rng1 a) env cs = (evE R T a env cs).bd fun x c => range1D [x] c := by
  show evRng _ _ env cs = _
  unfold evRng
  rw [mb_bd, eEs_1, bd_bd]
  rfl
theorem eEs_2 (a b : E) (c : CS) : evCons (evE R T a) (evCons (evE R T b) evNil) env c = (evE R T a env c).bd fun x c => (evE R T b env c).bd fun y c => .ok [x, y] c := by
  unfold evCons
  rw [mb_bd]
  congr 1
  funext x c
  rw [mb_bd, mb_bd, bd_bd]
  rfl
@[simp] theorem eI_rng2 (a b : E) : evI R T (.rng2 a b) env cs = (evE R T a env cs).bd fun x c => (evE R T b env c).bd fun y c => range2D [x, y] c := by
  show evRng _ _ env cs = _
  unfold evRng
  rw [mb_bd, eEs_2, bd_bd]
  congr 1
  funext x c
  rw [bd_bd]
  rfl
@[simp] theorem eI_rng3 (a b d : E) : evI R T (.rng3 a b d) env cs = (evE R T a env cs).bd fun x c => (evE R T b env c).bd fun y c => (evE R T d env c).bd fun z c => range3D [x, y, z] c := by
  show evRng _ _ env cs = _
  unfold evRng evCons
  rw [mb_bd, mb_bd, bd_bd]
  congr 1
  funext x c
  rw [mb_bd, mb_bd, bd_bd, bd_bd]
  congr 1
  funext y c
  rw [mb_bd, mb_bd, bd_bd, bd_bd]
  rfl
@[simp] theorem eI_zip (a b : E) : evI R T (.zip a b) env cs = (evE R T a env cs).bd fun x c => (evE R T b env c).bd fun y c => zipD [x, y] c := by
  show evRng _ _ env cs = _
  unfold evRng
  rw [mb_bd, eEs_2, bd_bd]
  congr 1
  funext x c
  rw [bd_bd]
  rfl
@[simp] theorem eI_enm (a : E) : evI R T (.enm a) env cs = (evE R T a env cs).bd fun x c => enumD [x] c := by
  show evRng _ _ env cs = _
  unfold evRng
  rw [mb_bd, eEs_1, bd_bd]
  rfl
/-! statements -/
def seqR (r : Res Fl) (k : Env → CS → Res Fl) : Res Fl := match r with
  | .ok (.nx env) c => k env c
  | .ok (.rt d) c => .ok (.rt d) c
  | .exc e c => .exc e c
  | .stuck => .stuck
@[simp] theorem seqR_nx (k : Env → CS → Res Fl) : seqR (.ok (.nx env) cs) k = k env cs := rfl
@[simp] theorem seqR_rt (d : D) (k : Env → CS → Res Fl) : seqR (.ok (.rt d) cs) k = .ok (.rt d) cs := rfl
@[simp] theorem seqR_exc (e : Exc) (k : Env → CS → Res Fl) : seqR (.exc e cs) k = .exc e cs := rfl
@[simp] theorem seqR_ite (p : Prop) [Decidable p] (a b : Res Fl) (k : Env → CS → Res Fl) : seqR (if p then a else b) k = if p then seqR a k else seqR b k := by split <;> rfl
@[simp] theorem eSs_nil : evSs R T .nil env cs = .ok (.nx env) cs := rfl
@[simp] theorem eSs_cons (s : S) (ss : Ss) : evSs R T (.cons s ss) env cs = seqR (evS R T s env cs) fun env c => evSs R T ss env c := by
  show evSeqS _ _ env cs = _
  unfold evSeqS
  rw [mb_bd]
  cases evS R T s env cs with
  | ok fl c => cases fl <;> rfl
  | _ => rfl
@[simp] theorem eSs_frz (i : Nat) (ss : Ss) : evSs R T (.frz i ss) env cs = (frzE i env cs).bd fun env c => evSs R T ss env c := by
  show evFrz _ _ env cs = _
  unfold evFrz
  rw [mb_bd]
@[simp] theorem eSs_clr (is : List Nat) (ss : Ss) : evSs R T (.clr is ss) env cs = evSs R T ss (wipeE env is) cs := rfl
@[simp] theorem eS_never : evS R T .never env cs = .stuck := rfl
@[simp] theorem eS_set (i : Nat) (e : E) : evS R T (.set i e) env cs = (evE R T e env cs).bd fun d c => .ok (.nx (env.set i (some d))) c := by
  show evSet _ _ env cs = _
  unfold evSet
  rw [mb_bd]
  rfl
def setTR (is : List Nat) (d : D) (env : Env) (c : CS) : Res Fl := match setTg (.tp is) d env with
  | some env' => .ok (.nx env') c
  | none => .stuck
@[simp] theorem setTR_t (is : List Nat) (ds : List D) : setTR is (.tuple ds) env cs = if ds.length = is.length then .ok (.nx (setAll is ds env)) cs else .stuck := by
  unfold setTR
  rw [setTg_tp]
  by_cases h : ds.length = is.length
  · rw [if_pos h, if_pos h]
  · rw [if_neg h, if_neg h]
@[simp] theorem eS_setT (is : List Nat) (e : E) : evS R T (.setT is e) env cs = (evE R T e env cs).bd fun d c => setTR is d env c := by
  show evSetT _ _ env cs = _
  unfold evSetT
  rw [mb_bd]
  congr 1
  funext d c
  unfold setTR
  cases setTg (.tp is) d env <;> rfl
@[simp] theorem eS_par (is : List Nat) (es : Es) : evS R T (.par is es) env cs = (evEs R T es env cs).bd fun ds c => if ds.length = is.length then .ok (.nx (setAll is ds env)) c else .stuck := by
  show evPar _ _ env cs = _
  unfold evPar
  rw [mb_bd]
  congr 1
  funext d c
  exact ite_ap _ _ _
@[simp] theorem eS_setI (o i v : E) : evS R T (.setI o i v) env cs = (evE R T v env cs).bd fun x c => (evE R T o env c).bd fun y c => (evE R T i env c).bd fun z c => (setD y z x c).bd fun _ c => .ok (.nx env) c := by
  show evSetI _ _ _ env cs = _
  unfold evSetI
  rw [mb_bd]
  congr 1
@[simp] theorem eS_aug (i : Nat) (e : E) : evS R T (.aug i e) env cs = (fetch env i cs).bd fun x _ => (evE R T e env cs).bd fun y c => (augD x y c).bd fun z c => .ok (.nx (env.set i (some z))) c := by
  show evAug _ _ env cs = _
  unfold evAug fetch
  cases env[i]? with
  | none => rfl
  | some o =>
    cases o with
    | none => rfl
    | some x =>
      show mb _ _ cs = _
      rw [mb_bd]
      show _ = (evE R T e env cs).bd _
      congr 1
@[simp] theorem eS_drop (e : E) : evS R T (.drop e) env cs = (evE R T e env cs).bd fun _ c => .ok (.nx env) c := by
  show evDrop _ env cs = _
  unfold evDrop
  rw [mb_bd]
  rfl
@[simp] theorem eS_doc : evS R T .doc env cs = .ok (.nx env) cs := rfl
@[simp] theorem eS_pass : evS R T .pass env cs = .ok (.nx env) cs := rfl
@[simp] theorem eS_retN : evS R T .retN env cs = .ok (.rt .none) cs := rfl
@[simp] theorem eS_raise (c : Nat) : evS R T (.raise c) env cs = .exc (.plain c) cs := rfl
@[simp] theorem eS_ret (e : E) : evS R T (.ret e) env cs = (evE R T e env cs).bd fun d c => .ok (.rt d) c := by
  show evRet _ env cs = _
  unfold evRet
  rw [mb_bd]
  rfl
@[simp] theorem eS_iff (c : E) (a b : Ss) : evS R T (.iff c a b) env cs = (evE R T c env cs).bd fun x c2 => tst x (evSs R T a env c2) (evSs R T b env c2) := by
  show evIfS _ _ _ env cs = _
  unfold evIfS
  rw [mb_bd]
  congr 1
  funext x c2
  exact tst_of
@[simp] theorem eS_forS (tg : Tg) (it : It) (b : Ss) : evS R T (.forS tg it b) env cs = (evI R T it env cs).bd fun ds c => forL tg (evSs R T b) ds env c := by
  show evFor _ _ _ env cs = _
  unfold evFor
  rw [mb_bd]
@[simp] theorem eS_wh (n : Nat) (c : E) (b : Ss) : evS R T (.wh n c b) env cs = whL (evE R T c) (evSs R T b) n env cs := rfl
end
/-! ### comprehensions and loops over lists -/
/-- the elements one by one -/
def mapR {α : Type} (f : α → CS → Res D) : List α → CS → Res (List D)
  | [], cs => .ok [] cs
  | x :: xs, cs => (f x cs).bd fun y c => (mapR f xs c).bd fun ys c2 => .ok (y :: ys) c2
/-- what is raised is not told -/
def quiet (r : Res D) : Res D := match r with
  | .ok d c => .ok d c
  | _ => .stuck
@[simp] theorem quiet_ok (d : D) (c : CS) : quiet (.ok d c) = .ok d c := rfl
@[simp] theorem quiet_ite (p : Prop) [Decidable p] (a b : Res D) : quiet (if p then a else b) = if p then quiet a else quiet b := by split <;> rfl
theorem nox_q (m : M D) (c : CS) : nox m c = quiet (m c) := by unfold nox quiet; cases m c <;> rfl
def setTgR (tg : Tg) (d : D) (env : Env) (k : Env → Res D) : Res D := match setTg tg d env with
  | some e => k e
  | none => .stuck
@[simp] theorem setTgR_nm (i : Nat) (d : D) (env : Env) (k : Env → Res D) : setTgR (.nm i) d env k = k (env.set i (some d)) := rfl
@[simp] theorem setTgR_tp (is : List Nat) (ds : List D) (env : Env) (k : Env → Res D) : setTgR (.tp is) (.tuple ds) env k = if ds.length = is.length then k (setAll is ds env) else .stuck := by
  unfold setTgR
  rw [setTg_tp]
  by_cases h : ds.length = is.length
  · rw [if_pos h, if_pos h]
  · rw [if_neg h, if_neg h]
theorem compL_map (vs : List Nat) (tg : Tg) (elt : Env → M D) (env : Env) (ds : List D) (cs : CS) : compL vs tg none elt env ds cs = mapR (fun d c => setTgR tg d (wipeE env vs) fun e => quiet (elt e c)) ds cs := by
  induction ds generalizing cs with
  | nil => rfl
  | cons d ds ih =>
    unfold compL mapR setTgR
    cases setTg tg d (wipeE env vs) with
    | none => rfl
    | some e1 =>
      show mb _ _ cs = _
      rw [mb_bd, nox_q]
      congr 1
      funext y c
      rw [mb_bd, ih]
      rfl
@[simp] theorem compL_none (vs : List Nat) (tg : Tg) (elt c : Env → M D) (env : Env) (ds : List D) (cs : CS) : compL vs tg (condOf true c) elt env ds cs = mapR (fun d c => setTgR tg d (wipeE env vs) fun e => quiet (elt e c)) ds cs := compL_map vs tg elt env ds cs
theorem bd_id {α : Type} (r : Res (List α)) : (r.bd fun ys c => .ok ((Option.none : Option α).toList ++ ys) c) = r := by cases r <;> rfl
/-- with a test: an element is there or not -/
def fltR {α : Type} (f : α → CS → Res (Option D)) : List α → CS → Res (List D)
  | [], cs => .ok [] cs
  | x :: xs, cs => (f x cs).bd fun o c => (fltR f xs c).bd fun ys c2 => .ok (o.toList ++ ys) c2
def setTgO (tg : Tg) (d : D) (env : Env) (k : Env → Res (Option D)) : Res (Option D) := match setTg tg d env with
  | some e => k e
  | none => .stuck
@[simp] theorem setTgO_nm (i : Nat) (d : D) (env : Env) (k : Env → Res (Option D)) : setTgO (.nm i) d env k = k (env.set i (some d)) := rfl
@[simp] theorem setTgO_tp (is : List Nat) (ds : List D) (env : Env) (k : Env → Res (Option D)) : setTgO (.tp is) (.tuple ds) env k = if ds.length = is.length then k (setAll is ds env) else .stuck := by
  unfold setTgO
  rw [setTg_tp]
  by_cases h : ds.length = is.length
  · rw [if_pos h, if_pos h]
  · rw [if_neg h, if_neg h]
theorem compL_flt (vs : List Nat) (tg : Tg) (q elt : Env → M D) (env : Env) (ds : List D) (cs : CS) : compL vs tg (some q) elt env ds cs = fltR (fun d c => setTgO tg d (wipeE env vs) fun e => (quiet (q e c)).bd fun b c => tst b ((quiet (elt e c)).bd fun y c => .ok (some y) c) (.ok none c)) ds cs := by
  induction ds generalizing cs with
  | nil => rfl
  | cons d ds ih =>
    unfold compL fltR setTgO
    cases setTg tg d (wipeE env vs) with
    | none => rfl
    | some e1 =>
      show mb _ _ cs = ((quiet (q e1 cs)).bd _).bd _
      rw [mb_bd, nox_q, bd_bd]
      congr 1
      funext b c
      cases b with
      | bool b =>
        cases b with
        | true =>
          show mb _ _ c = ((quiet (elt e1 c)).bd _).bd _
          rw [mb_bd, nox_q, bd_bd]
          congr 1
          funext y c
          rw [mb_bd, ih]
          rfl
        | false =>
          show compL vs tg (some q) elt env ds c = (fltR _ ds c).bd _
          rw [ih]
          exact (bd_id _).symm
      | _ => rfl
@[simp] theorem compL_some (vs : List Nat) (tg : Tg) (q elt : Env → M D) (env : Env) (ds : List D) (cs : CS) : compL vs tg (condOf false q) elt env ds cs = fltR (fun d c => setTgO tg d (wipeE env vs) fun e => (quiet (q e c)).bd fun b c => tst b ((quiet (elt e c)).bd fun y c => .ok (some y) c) (.ok none c)) ds cs := compL_flt vs tg q elt env ds cs
/-- what is raised is not told -/
def quietL (r : Res (List D)) : Res (List D) := match r with
  | .ok d c => .ok d c
  | _ => .stuck
@[simp] theorem quietL_ok (d : List D) (c : CS) : quietL (.ok d c) = .ok d c := rfl
theorem nox_ql (m : M (List D)) (c : CS) : nox m c = quietL (m c) := by unfold nox quietL; cases m c <;> rfl
/-- two clauses: each outer item gives a list; n: how many there are so far -/
def flR {α : Type} (f : α → Nat → CS → Res (List D)) : List α → Nat → CS → Res (List D)
  | [], _, cs => .ok [] cs
  | x :: xs, n, cs => (f x n cs).bd fun ys c => (flR f xs (n + ys.length) c).bd fun zs c2 => .ok (ys ++ zs) c2
def setTgL (tg : Tg) (d : D) (env : Env) (k : Env → Res (List D)) : Res (List D) := match setTg tg d env with
  | some e => k e
  | none => .stuck
theorem setTgL_nm (i : Nat) (d : D) (env : Env) (k : Env → Res (List D)) : setTgL (.nm i) d env k = k (env.set i (some d)) := id rfl
theorem comp2L_fl (vs : List Nat) (tg : Tg) (vs1 : List Nat) (it1 : Env → M (List D)) (tg1 : Tg) (cond : Option (Env → M D)) (elt : Env → M D) (env : Env) (ds : List D) (n : Nat) (cs : CS) :
    comp2L vs tg vs1 it1 tg1 cond elt env ds n cs = flR (fun d n c => setTgL tg d (wipeE env vs) fun e => (quietL (it1 e c)).bd fun ds1 c => if n + ds1.length ≤ 16777216 then compL vs1 tg1 cond elt e ds1 c else .stuck) ds n cs := by
  induction ds generalizing n cs with
  | nil => rfl
  | cons d ds ih =>
    unfold comp2L flR setTgL
    cases setTg tg d (wipeE env vs) with
    | none => rfl
    | some e1 =>
      show mb _ _ cs = _
      rw [mb_bd, nox_ql]
      show _ = (((quietL (it1 e1 cs)).bd _).bd _)
      rw [bd_bd]
      congr 1
      funext ds1 c
      by_cases h : n + ds1.length ≤ 16777216
      · rw [if_pos h, if_pos h, mb_bd]
        congr 1
        funext ys c
        rw [mb_bd, ih]
        rfl
      · rw [if_neg h, if_neg h]
        rfl
theorem flR_comp {α : Type} (f : D → Nat → CS → Res (List D)) (g : α → D) (xs : List α) (n : Nat) (cs : CS) : flR f (xs.map g) n cs = flR (fun x n c => f (g x) n c) xs n cs := by
  induction xs generalizing n cs with
  | nil => rfl
  | cons x xs ih =>
    show (f (g x) n cs).bd _ = (f (g x) n cs).bd _
    congr 1
    funext y c
    rw [ih]
theorem flR_in {α : Type} {f : α → Nat → CS → Res (List D)} (g : α → List D) (w : Nat) {cs : CS} : ∀ {xs : List α} {n : Nat}, n + xs.length * w ≤ 16777216 → (∀ x ∈ xs, ∀ n, n + w ≤ 16777216 → f x n cs = .ok (g x) cs ∧ (g x).length ≤ w) → flR f xs n cs = .ok (xs.flatMap g) cs
  | [], _, _, _ => rfl
  | x :: xs, n, hn, h => by
    rw [List.length_cons, Nat.succ_mul] at hn
    obtain ⟨h1, h2⟩ := h x List.mem_cons_self n (by omega)
    show (f x n cs).bd _ = _
    rw [h1, bd_ok, flR_in g w (by omega) fun y hy => h y (List.mem_cons_of_mem _ hy)]
    rfl
section
variable {α β : Type}
@[simp] theorem mapR_comp (f : D → CS → Res D) (g : α → D) (xs : List α) (cs : CS) : mapR f (xs.map g) cs = mapR (fun x c => f (g x) c) xs cs := by
  induction xs generalizing cs with
  | nil => rfl
  | cons x xs ih =>
    show (f (g x) cs).bd _ = (f (g x) cs).bd _
    congr 1
    funext y c
    rw [ih]
@[simp] theorem mapR_ok (g : α → D) (xs : List α) (cs : CS) : mapR (fun x c => .ok (g x) c) xs cs = .ok (xs.map g) cs := by
  induction xs with
  | nil => rfl
  | cons x xs ih =>
    show (mapR _ xs cs).bd _ = _
    rw [ih]
    rfl
theorem mapR_in {f : α → CS → Res D} (g : α → D) {xs : List α} {cs : CS} (h : ∀ x ∈ xs, f x cs = .ok (g x) cs) : mapR f xs cs = .ok (xs.map g) cs := by
  induction xs with
  | nil => rfl
  | cons x xs ih =>
    show (f x cs).bd _ = _
    rw [h x List.mem_cons_self]
    show (mapR f xs cs).bd _ = _
    rw [ih fun y hy => h y (List.mem_cons_of_mem _ hy)]
    rfl
@[simp] theorem mapR_nil (f : α → CS → Res D) (cs : CS) : mapR f [] cs = .ok [] cs := rfl
@[simp] theorem mapR_cons (f : α → CS → Res D) (x : α) (xs : List α) (cs : CS) : mapR f (x :: xs) cs = (f x cs).bd fun y c => (mapR f xs c).bd fun ys c2 => .ok (y :: ys) c2 := rfl
@[simp] theorem fltR_nil (f : α → CS → Res (Option D)) (cs : CS) : fltR f [] cs = .ok [] cs := rfl
@[simp] theorem fltR_cons (f : α → CS → Res (Option D)) (x : α) (xs : List α) (cs : CS) : fltR f (x :: xs) cs = (f x cs).bd fun o c => (fltR f xs c).bd fun ys c2 => .ok (o.toList ++ ys) c2 := rfl
@[simp] theorem fltR_comp (f : D → CS → Res (Option D)) (g : α → D) (xs : List α) (cs : CS) : fltR f (xs.map g) cs = fltR (fun x c => f (g x) c) xs cs := by
  induction xs generalizing cs with
  | nil => rfl
  | cons x xs ih =>
    show (f (g x) cs).bd _ = (f (g x) cs).bd _
    congr 1
    funext y c
    rw [ih]
theorem fltR_in {f : α → CS → Res (Option D)} (p : α → Bool) (g : α → D) {xs : List α} {cs : CS} (h : ∀ x ∈ xs, f x cs = .ok (if p x = true then some (g x) else none) cs) : fltR f xs cs = .ok ((xs.filter p).map g) cs := by
  induction xs with
  | nil => rfl
  | cons x xs ih =>
    show (f x cs).bd _ = _
    rw [h x List.mem_cons_self]
    show (fltR f xs cs).bd _ = _
    rw [ih fun y hy => h y (List.mem_cons_of_mem _ hy)]
    rw [List.filter_cons]
    by_cases hp : p x = true
    · rw [if_pos hp, if_pos hp]; rfl
    · rw [if_neg hp, if_neg hp]; rfl
@[simp] theorem fltR_ok (p : α → Prop) [DecidablePred p] (g : α → D) (xs : List α) (cs : CS) : fltR (fun x c => if p x then .ok (some (g x)) c else .ok none c) xs cs = .ok ((xs.filter fun x => decide (p x)).map g) cs :=
  fltR_in _ g fun x _ => by by_cases h : p x <;> simp [h]
end
end KH

/-! KH: data well made; what operators give, by rewriting; calls. -/
namespace KH
open PySem PySem.Spec PyProof.Rows L2
/-- no cell in it, not deep -/
def wdN : Nat → D → Bool
  | _, .none => true
  | _, .bool _ => true
  | _, .int _ => true
  | _, .str s => PyData.strOk s
  | n + 1, .list ds => ds.all (wdN n)
  | n + 1, .tuple ds => ds.all (wdN n)
  | _, _ => false
abbrev wd : D → Bool := wdN 9
@[simp] theorem wd_non (n : Nat) : wdN n .none = true := by cases n <;> rfl
@[simp] theorem wd_bl (n : Nat) (b : Bool) : wdN n (.bool b) = true := by cases n <;> rfl
@[simp] theorem wd_int (n : Nat) (i : Int) : wdN n (.int i) = true := by cases n <;> rfl
@[simp] theorem wd_str (n : Nat) (s : Str) : wdN n (.str s) = PyData.strOk s := by cases n <;> rfl
@[simp] theorem wd_lst (n : Nat) (ds : List D) : wdN (n + 1) (.list ds) = ds.all (wdN n) := rfl
@[simp] theorem wd_tup (n : Nat) (ds : List D) : wdN (n + 1) (.tuple ds) = ds.all (wdN n) := rfl
mutual
theorem frz_wd (b : Nat) (cs : CS) : ∀ (n : Nat) (d : D), wdN n d = true → frzD b cs d = some d
  | _, .none, _ => by unfold frzD; rfl
  | _, .bool _, _ => by unfold frzD; rfl
  | _, .int _, _ => by unfold frzD; rfl
  | _, .str _, _ => by unfold frzD; rfl
  | 0, .list _, h => by cases h
  | 0, .tuple _, h => by cases h
  | n + 1, .list ds, h => by
    unfold frzD
    rw [frzs_wd b cs n ds h]
    rfl
  | n + 1, .tuple ds, h => by
    unfold frzD
    rw [frzs_wd b cs n ds h]
    rfl
  | 0, .dict _, h => by cases h
  | n + 1, .dict _, h => by cases h
theorem frzs_wd (b : Nat) (cs : CS) : ∀ (n : Nat) (ds : List D), ds.all (wdN n) = true → frzDs b cs ds = some ds
  | _, [], _ => by unfold frzDs; rfl
  | n, d :: ds, h => by
    rw [List.all_cons, Bool.and_eq_true] at h
    unfold frzDs
    rw [frz_wd b cs n d h.1, frzs_wd b cs n ds h.2]
    rfl
end
mutual
theorem lay_wd : ∀ (n : Nat) (d : D), wdN n d = true → d.canLay0 = true ∧ d.depth ≤ n + 1
  | n, .none, _ => ⟨by simp only [PyData.canLay0], by simp only [PyData.depth]; omega⟩
  | n, .bool _, _ => ⟨by simp only [PyData.canLay0], by simp only [PyData.depth]; omega⟩
  | n, .int _, _ => ⟨by simp only [PyData.canLay0], by simp only [PyData.depth]; omega⟩
  | n, .str s, h => ⟨by rw [wd_str] at h; simp only [PyData.canLay0]; exact h, by simp only [PyData.depth]; omega⟩
  | 0, .list _, h => by cases h
  | 0, .tuple _, h => by cases h
  | n + 1, .list ds, h => by
    obtain ⟨q1, q2⟩ := lays_wd n ds h
    exact ⟨by simp only [PyData.canLay0]; exact q1, by simp only [PyData.depth]; omega⟩
  | n + 1, .tuple ds, h => by
    obtain ⟨q1, q2⟩ := lays_wd n ds h
    exact ⟨by simp only [PyData.canLay0]; exact q1, by simp only [PyData.depth]; omega⟩
  | 0, .dict _, h => by cases h
  | n + 1, .dict _, h => by cases h
theorem lays_wd : ∀ (n : Nat) (ds : List D), ds.all (wdN n) = true → PyData.canLayAll0 ds = true ∧ PyData.depthAll ds ≤ n + 1
  | n, [], _ => ⟨by simp only [PyData.canLayAll0], by simp only [PyData.depthAll]; omega⟩
  | n, d :: ds, h => by
    rw [List.all_cons, Bool.and_eq_true] at h
    obtain ⟨q1, q2⟩ := lay_wd n d h.1
    obtain ⟨q3, q4⟩ := lays_wd n ds h.2
    exact ⟨by simp only [PyData.canLayAll0, q1, q3, Bool.and_self], by simp only [PyData.depthAll]; omega⟩
end
theorem shaped_wd {d : D} (h : wd d = true) : SeqAt.shaped d = true := by
  obtain ⟨q1, q2⟩ := lay_wd 9 d h
  unfold SeqAt.shaped
  rw [q1, Bool.true_and]
  exact decide_eq_true (by omega)
theorem canLay_wd {d : D} (h : wd d = true) : d.canLay0 = true := (lay_wd 9 d h).1
theorem canLays_wd {ds : List D} (h : ds.all (wdN 8) = true) : PyData.canLayAll0 ds = true := (lays_wd 8 ds h).1
@[simp] theorem lay_int (i : Int) : (PyData.int i).canLay0 = true := by simp only [PyData.canLay0]
@[simp] theorem lays_ints (xs : List Int) : PyData.canLayAll0 (xs.map .int) = true := (lays_wd 8 _ (by simp)).1
@[simp] theorem lays_nil : PyData.canLayAll0 [] = true := by simp only [PyData.canLayAll0]
@[simp] theorem lays_cons (d : D) (ds : List D) : PyData.canLayAll0 (d :: ds) = (d.canLay0 && PyData.canLayAll0 ds) := by simp only [PyData.canLayAll0]
theorem wd_dr {n : Nat} {d : D} (h : wdN n d = true) (cs : CS) : drf d cs = d := by
  unfold drf
  cases d with
  | list ds => rfl
  | dict kvs => cases n <;> cases h
  | _ => rfl
/-! ### calls -/
/-- the end of a call -/
def endR (keep : Bool) (cs : CS) (r : Res Fl) : Res D := match r with
  | .ok fl cs2 => (match fl with
    | .nx _ => .ok .none (cs2.take cs.length)
    | .rt d => if keep then .ok d cs2 else match frzD cs.length cs2 d with
      | some d' => .ok d' (cs2.take cs.length)
      | none => .stuck)
  | .exc e cs2 => .exc e (cs2.take cs.length)
  | .stuck => .stuck
@[simp] theorem endR_nx (k : Bool) (cs c2 : CS) (e : Env) : endR k cs (.ok (.nx e) c2) = .ok .none (c2.take cs.length) := rfl
@[simp] theorem endR_exc (k : Bool) (cs c2 : CS) (e : Exc) : endR k cs (.exc e c2) = .exc e (c2.take cs.length) := rfl
@[simp] theorem endR_keep (cs c2 : CS) (d : D) : endR true cs (.ok (.rt d) c2) = .ok d c2 := rfl
theorem endR_rt {cs c2 : CS} {d : D} (h : wd d = true) : endR false cs (.ok (.rt d) c2) = .ok d (c2.take cs.length) := by
  show (match frzD cs.length c2 d with | some d' => Res.ok d' (c2.take cs.length) | none => .stuck) = _
  rw [frz_wd _ _ 9 d h]
@[simp] theorem endR_int (cs c2 : CS) (i : Int) : endR false cs (.ok (.rt (.int i)) c2) = .ok (.int i) (c2.take cs.length) := endR_rt (wd_int _ _)
@[simp] theorem endR_bl (cs c2 : CS) (i : Bool) : endR false cs (.ok (.rt (.bool i)) c2) = .ok (.bool i) (c2.take cs.length) := endR_rt (wd_bl _ _)
@[simp] theorem endR_non (cs c2 : CS) : endR false cs (.ok (.rt .none) c2) = .ok .none (c2.take cs.length) := endR_rt (wd_non _)
@[simp] theorem endR_ite (k : Bool) (cs : CS) (p : Prop) [Decidable p] (a b : Res Fl) : endR k cs (if p then a else b) = if p then endR k cs a else endR k cs b := by split <;> rfl
theorem run_at {p : Prg} {f : Nat} {d : FDef} (hd : p.defs[f]? = some d) (k : Nat) {ds : List D} (hl : ds.length = d.np) (cs : CS) :
    run p (k + 1) f ds cs = endR d.keep cs (evSs (run p k) p.tab d.body (ds.map some ++ List.replicate (d.N.length - d.np) none) cs) := by
  show (match p.defs[f]? with | some d => runDef d.N.length d.np d.keep (evSs (run p k) p.tab d.body) ds | none => stk) cs = _
  rw [hd]
  show runDef _ _ _ _ _ cs = _
  unfold runDef
  rw [if_pos hl]
  rfl
@[simp] theorem take_app {α : Type} (a b : List α) : (a ++ b).take a.length = a := by simp
/-! ### operators -/
section
variable (cs : CS) (i j : Int) (s t : Str) (xs ys : List D)
@[simp] theorem f_lt : Cmp1.lt.fn (.int i) (.int j) cs = .ok (.bool (decide (i < j))) cs := rfl
@[simp] theorem f_gt : Cmp1.gt.fn (.int i) (.int j) cs = .ok (.bool (decide (j < i))) cs := rfl
@[simp] theorem f_le : Cmp1.le.fn (.int i) (.int j) cs = .ok (.bool (decide (i ≤ j))) cs := rfl
@[simp] theorem f_ge : Cmp1.ge.fn (.int i) (.int j) cs = .ok (.bool (decide (j ≤ i))) cs := rfl
theorem f_eq {d e : D} (hd : wd d = true) (he : wd e = true) : Cmp1.eq.fn d e cs = .ok (.bool (PyData.eqv d e)) cs := by
  show eqD d e cs = _
  unfold eqD
  rw [wd_dr hd, wd_dr he, shaped_wd hd, shaped_wd he]
  rfl
theorem f_ne {d e : D} (hd : wd d = true) (he : wd e = true) : Cmp1.ne.fn d e cs = .ok (.bool (!PyData.eqv d e)) cs := by
  show neD d e cs = _
  unfold neD
  rw [wd_dr hd, wd_dr he, shaped_wd hd, shaped_wd he]
  rfl
@[simp] theorem eqv_int : PyData.eqv (.int i) (.int j) = decide (i = j) := by simp only [PyData.eqv]; rw [Bool.eq_iff_iff]; simp
@[simp] theorem eqv_strs : PyData.eqv (.str s) (.str t) = decide (s = t) := by simp only [PyData.eqv]; rw [Bool.eq_iff_iff]; simp
@[simp] theorem f_eqi : Cmp1.eq.fn (.int i) (.int j) cs = .ok (.bool (decide (i = j))) cs := by rw [f_eq cs (wd_int _ _) (wd_int _ _), eqv_int]
@[simp] theorem f_nei : Cmp1.ne.fn (.int i) (.int j) cs = .ok (.bool (!decide (i = j))) cs := by rw [f_ne cs (wd_int _ _) (wd_int _ _), eqv_int]
@[simp] theorem f_is (d : D) : Cmp1.is.fn d .none cs = .ok (.bool (isNon d)) cs := by
  show isD d .none cs = _
  cases d <;> rfl
@[simp] theorem f_isn (d : D) : Cmp1.isn.fn d .none cs = .ok (.bool (!isNon d)) cs := by
  show isnD d .none cs = _
  cases d <;> rfl
@[simp] theorem f_isb (a b : Bool) : Cmp1.is.fn (.bool a) (.bool b) cs = .ok (.bool (decide (b = a))) cs := by cases a <;> cases b <;> rfl
@[simp] theorem isNon_n : isNon .none = true := rfl
@[simp] theorem isNon_b (b : Bool) : isNon (.bool b) = false := rfl
@[simp] theorem isNon_i : isNon (.int i) = false := rfl
@[simp] theorem isNon_s : isNon (.str s) = false := rfl
@[simp] theorem isNon_l : isNon (.list xs) = false := rfl
@[simp] theorem isNon_t : isNon (.tuple xs) = false := rfl
@[simp] theorem not_b (b : Bool) : notD (.bool b) cs = .ok (.bool (!b)) cs := rfl
@[simp] theorem neg_i : negD (.int i) cs = .ok (.int (-i)) cs := rfl
@[simp] theorem add_i : Bop.add.fn (.int i) (.int j) cs = .ok (.int (i + j)) cs := rfl
@[simp] theorem sub_i : Bop.sub.fn (.int i) (.int j) cs = .ok (.int (i - j)) cs := rfl
theorem mul_i (h : (small64I i || small64I j) = true) : Bop.mul.fn (.int i) (.int j) cs = .ok (.int (i * j)) cs := by
  show (if (small64I i || small64I j) = true then ret (.int (i * j)) else stk : M D) cs = _
  rw [if_pos h]
  rfl
theorem small_of (h1 : -18446744073709551616 < i) (h2 : i < 18446744073709551616) : small64I i = true := by
  unfold small64I
  rw [decide_eq_true h1, decide_eq_true h2]
  rfl
theorem mul_l (h1 : -18446744073709551616 < i) (h2 : i < 18446744073709551616) : Bop.mul.fn (.int i) (.int j) cs = .ok (.int (i * j)) cs := mul_i cs i j (by rw [small_of i h1 h2]; rfl)
theorem mul_r (h1 : -18446744073709551616 < j) (h2 : j < 18446744073709551616) : Bop.mul.fn (.int i) (.int j) cs = .ok (.int (i * j)) cs := mul_i cs i j (by rw [small_of j h1 h2, Bool.or_true])
theorem fdiv_i (h1 : 0 < j) (h2 : j < 1073741824) : Bop.fdiv.fn (.int i) (.int j) cs = .ok (.int (i / j)) cs := by
  show (if 0 < j ∧ j < 1073741824 then ret (.int (i / j)) else stk : M D) cs = _
  rw [if_pos ⟨h1, h2⟩]
  rfl
theorem mod_i (h1 : 0 < j) : Bop.mod.fn (.int i) (.int j) cs = .ok (.int (i % j)) cs := by
  show (if 0 < j then ret (.int (i % j)) else stk : M D) cs = _
  rw [if_pos h1]
  rfl
theorem pow_i (h : 0 ≤ j ∧ j ≤ 1000 ∧ i.natAbs < 1000) : Bop.pow.fn (.int i) (.int j) cs = .ok (.int (i ^ j.toNat)) cs := by
  show (if 0 ≤ j ∧ j ≤ 1000 ∧ i.natAbs < 1000 then ret (.int (i ^ j.toNat)) else stk : M D) cs = _
  rw [if_pos h]
  rfl
theorem add_t (h : xs.length + ys.length ≤ 16777216) : Bop.add.fn (.tuple xs) (.tuple ys) cs = .ok (.tuple (xs ++ ys)) cs := by
  show (if xs.length + ys.length ≤ 16777216 then ret (.tuple (xs ++ ys)) else stk : M D) cs = _
  rw [if_pos h]
  rfl
theorem add_l (h : xs.length + ys.length ≤ 16777216) : Bop.add.fn (.list xs) (.list ys) cs = .ok (.list (xs ++ ys)) cs := by
  show (if xs.length + ys.length ≤ 16777216 then Res.ok (PyData.list (xs ++ ys)) cs else .stuck) = _
  rw [if_pos h]
theorem add_s (h : s.length + t.length ≤ 16777216) : Bop.add.fn (.str s) (.str t) cs = .ok (.str (s ++ t)) cs := by
  show (if s.length + t.length ≤ 16777216 then ret (.str (s ++ t)) else stk : M D) cs = _
  rw [if_pos h]
  rfl
@[simp] theorem len_t : Blt.len.fn [.tuple xs] cs = .ok (.int xs.length) cs := rfl
@[simp] theorem len_l : Blt.len.fn [.list xs] cs = .ok (.int xs.length) cs := rfl
theorem len_s (h : s.length ≤ 16777216) : Blt.len.fn [.str s] cs = .ok (.int s.length) cs := by
  show (if s.length ≤ 16777216 then Res.ok (PyData.int s.length) cs else .stuck) = _
  rw [if_pos h]
@[simp] theorem abs_i : Blt.abs.fn [.int i] cs = .ok (.int (if i < 0 then -i else i)) cs := rfl
@[simp] theorem int_i : Blt.int.fn [.int i] cs = .ok (.int i) cs := rfl
@[simp] theorem int_b (b : Bool) : Blt.int.fn [.bool b] cs = .ok (.int (if b = true then 1 else 0)) cs := rfl
@[simp] theorem tup_t : Blt.tuple.fn [.tuple xs] cs = .ok (.tuple xs) cs := rfl
@[simp] theorem tup_l : Blt.tuple.fn [.list xs] cs = .ok (.tuple xs) cs := rfl
@[simp] theorem lst_t : Blt.list.fn [.tuple xs] cs = .ok (.list xs) cs := rfl
@[simp] theorem lst_l : Blt.list.fn [.list xs] cs = .ok (.list xs) cs := rfl
theorem lst_scr (ns : List Int) (h : ns.length ≤ 16777216) : Blt.list.fn [scrD ns] cs = .ok (.list (ns.map .int)) cs := by
  show (if (ns.map PyData.int).length ≤ 16777216 then Res.ok (PyData.list (ns.map .int)) cs else .stuck) = _
  rw [if_pos (by rw [List.length_map]; exact h)]
@[simp] theorem str_s : Blt.str.fn [.str s] cs = .ok (.str s) cs := rfl
theorem str_i (h : i.natAbs.log2 < 1920) : Blt.str.fn [.int i] cs = .ok (.str (toString i)) cs := by
  show (if i.natAbs.log2 < 1920 then ret (.str (toString i)) else stk : M D) cs = _
  rw [if_pos h]
  rfl
@[simp] theorem sum_l (ns : List Int) : Blt.sum.fn [.list (ns.map .int)] cs = .ok (.int ns.sum) cs := by
  show (match (some (ns.map PyData.int)).bind intsOf with | some ns => Res.ok (PyData.int ns.sum) cs | none => .stuck) = _
  rw [Option.bind_some, intsOf_map]
theorem all_b (bs : List Bool) : Blt.all.fn [.list (bs.map .bool)] cs = .ok (.bool (bs.all id)) cs := by
  show (match (some (bs.map PyData.bool)).bind blsOf with | some ns => Res.ok (PyData.bool (ns.all id)) cs | none => .stuck) = _
  rw [Option.bind_some, blsOf_map]
theorem any_b (bs : List Bool) : Blt.any.fn [.list (bs.map .bool)] cs = .ok (.bool (bs.any id)) cs := by
  show (match (some (bs.map PyData.bool)).bind blsOf with | some ns => Res.ok (PyData.bool (ns.any id)) cs | none => .stuck) = _
  rw [Option.bind_some, blsOf_map]
@[simp] theorem all_l {α : Type} (f : α → Bool) (l : List α) : Blt.all.fn [.list (l.map fun x => .bool (f x))] cs = .ok (.bool (l.all f)) cs := by
  have := all_b cs (l.map f)
  rw [List.map_map] at this
  rw [show (fun x => PyData.bool (f x)) = PyData.bool ∘ f from rfl, this, List.all_map]
  rfl
@[simp] theorem any_l {α : Type} (f : α → Bool) (l : List α) : Blt.any.fn [.list (l.map fun x => .bool (f x))] cs = .ok (.bool (l.any f)) cs := by
  have := any_b cs (l.map f)
  rw [List.map_map] at this
  rw [show (fun x => PyData.bool (f x)) = PyData.bool ∘ f from rfl, this, List.any_map]
  rfl
@[simp] theorem all_nil : Blt.all.fn [.list []] cs = .ok (.bool true) cs := rfl
@[simp] theorem lit_l : litOf (.list xs) cs = .ok xs cs := rfl
@[simp] theorem lit_t : litOf (.tuple xs) cs = .ok xs cs := rfl
theorem rng1 (h1 : -1000000 ≤ j) (h2 : j ≤ 1000000) : range1D [.int j] cs = .ok (rangeL 0 j.toNat) cs := by
  show (if -1000000 ≤ j ∧ j ≤ 1000000 then ret (rangeL 0 j.toNat) else stk : M (List D)) cs = _
  rw [if_pos ⟨h1, h2⟩]
  rfl
theorem rng2 (h1 : -1000000 ≤ i) (h2 : i ≤ 1000000) (h3 : -1000000 ≤ j) (h4 : j ≤ 1000000) : range2D [.int i, .int j] cs = .ok (rangeL i (j - i).toNat) cs := by
  show (if (-1000000 ≤ i ∧ i ≤ 1000000) ∧ -1000000 ≤ j ∧ j ≤ 1000000 then ret (rangeL i (j - i).toNat) else stk : M (List D)) cs = _
  rw [if_pos ⟨⟨h1, h2⟩, h3, h4⟩]
  rfl
theorem rngV (h1 : -1000000 ≤ i) (h2 : i ≤ 1000000) (h3 : -1000000 ≤ j) (h4 : j ≤ 1000000) : rangeV (.int i) (.int j) cs = .ok (rangeL i (j - i).toNat) cs := by
  show (if (-1000000 ≤ i ∧ i ≤ 1000000) ∧ -1000000 ≤ j ∧ j ≤ 1000000 then ret (rangeL i (j - i).toNat) else stk : M (List D)) cs = _
  rw [if_pos ⟨⟨h1, h2⟩, h3, h4⟩]
  rfl
@[simp] theorem zip_l : zipD [.list xs, .list ys] cs = .ok (pairsL xs ys) cs := rfl
@[simp] theorem zip_t : zipD [.tuple xs, .tuple ys] cs = .ok (pairsL xs ys) cs := rfl
@[simp] theorem enm_l : enumD [.list xs] cs = .ok (enumL xs) cs := rfl
@[simp] theorem cut_t (lo hi : Option Int) : cutD (.tuple xs) lo hi cs = .ok (.tuple (cutL xs lo hi)) cs := rfl
@[simp] theorem cut_l (lo hi : Option Int) : cutD (.list xs) lo hi cs = .ok (.list (cutL xs lo hi)) cs := rfl
theorem ix_t {d : D} (h : atI xs i = some d) : ixD (.tuple xs) (.int i) cs = .ok d cs := by
  show atD xs i id cs = _
  unfold atD
  rw [h]
  rfl
theorem ix_l {d : D} (h : atI xs i = some d) : ixD (.list xs) (.int i) cs = .ok d cs := by
  show atD xs i id cs = _
  unfold atD
  rw [h]
  rfl
theorem atI_nat {α : Type} {l : List α} {n : Nat} {x : α} (h : l[n]? = some x) : atI l (n : Int) = some x := by
  have hn : n < l.length := (List.getElem?_eq_some_iff.mp h).1
  unfold atI ixN
  rw [if_pos (by omega), if_pos (by omega), Int.toNat_natCast]
  exact h
@[simp] theorem lstOf_l : lstOf (.list xs) cs = some xs := rfl
@[simp] theorem mtR_l (c : CS) (r : Res D) : mtR (.list xs) c r = r := rfl
@[simp] theorem isi_n (T : Ty) : isiD T .none cs = .ok (.bool false) cs := by cases T <;> rfl
@[simp] theorem isi_b (T : Ty) (b : Bool) : isiD T (.bool b) cs = .ok (.bool (decide (T = .bool ∨ T = .int))) cs := by cases T <;> rfl
@[simp] theorem isi_i (T : Ty) : isiD T (.int i) cs = .ok (.bool (decide (T = .int))) cs := by cases T <;> rfl
@[simp] theorem isi_s (T : Ty) : isiD T (.str s) cs = .ok (.bool (decide (T = .str))) cs := by cases T <;> rfl
@[simp] theorem isi_l (T : Ty) : isiD T (.list xs) cs = .ok (.bool (decide (T = .list))) cs := by cases T <;> rfl
@[simp] theorem isi_t (T : Ty) : isiD T (.tuple xs) cs = .ok (.bool (decide (T = .tuple))) cs := by cases T <;> rfl
theorem sset_l (ns : List Int) (h : ns.length < 64) : ssetD [.list (ns.map .int)] cs = .ok (.list ((ssetL ns).map .int)) cs := by
  have e : (seqOf (.list (ns.map PyData.int)) cs).bind intsOf = some ns := by show (some (ns.map PyData.int)).bind intsOf = _; rw [Option.bind_some, intsOf_map]
  unfold ssetD
  simp only [e, if_pos h]
theorem sset_t (ns : List Int) (h : ns.length < 64) : ssetD [.tuple (ns.map .int)] cs = .ok (.list ((ssetL ns).map .int)) cs := by
  have e : (seqOf (.tuple (ns.map PyData.int)) cs).bind intsOf = some ns := by show (some (ns.map PyData.int)).bind intsOf = _; rw [Option.bind_some, intsOf_map]
  unfold ssetD
  simp only [e, if_pos h]
theorem lset_l (ns : List Int) (h : ns.length < 4000) : lsetD [.list (ns.map .int)] cs = .ok (.int (ssetL ns).length) cs := by
  show (match (some (ns.map PyData.int)).bind intsOf with | some ns => if ns.length < 4000 then Res.ok (PyData.int (ssetL ns).length) cs else .stuck | none => .stuck) = _
  rw [Option.bind_some, intsOf_map]
  exact if_pos h
theorem lset_t (ns : List Int) (h : ns.length < 4000) : lsetD [.tuple (ns.map .int)] cs = .ok (.int (ssetL ns).length) cs := lset_l cs ns h
end
/-! ### data of a class: equal is ==, where no truth value lies -/
def nbN : Nat → D → Bool
  | _, .none => true
  | _, .int _ => true
  | _, .str _ => true
  | n + 1, .list ds => ds.all (nbN n)
  | n + 1, .tuple ds => ds.all (nbN n)
  | _, _ => false
@[simp] theorem nb_non (n : Nat) : nbN n .none = true := by cases n <;> rfl
@[simp] theorem nb_int (n : Nat) (i : Int) : nbN n (.int i) = true := by cases n <;> rfl
@[simp] theorem nb_str (n : Nat) (s : Str) : nbN n (.str s) = true := by cases n <;> rfl
@[simp] theorem nb_lst (n : Nat) (ds : List D) : nbN (n + 1) (.list ds) = ds.all (nbN n) := rfl
@[simp] theorem nb_tup (n : Nat) (ds : List D) : nbN (n + 1) (.tuple ds) = ds.all (nbN n) := rfl
mutual
theorem eqv_nb : ∀ (n : Nat) (d e : D), nbN n d = true → nbN n e = true → (PyData.eqv d e = true ↔ d = e)
  | n, .none, e, h1, h2 => by cases e <;> simp [PyData.eqv]
  | n, .int i, e, h1, h2 => by
    cases e with
    | bool b => cases n <;> cases h2
    | _ => simp [PyData.eqv]
  | n, .str i, e, h1, h2 => by cases e <;> simp [PyData.eqv]
  | 0, .list _, _, h1, _ => by cases h1
  | 0, .tuple _, _, h1, _ => by cases h1
  | n + 1, .list ds, e, h1, h2 => by
    cases e with
    | list es =>
      simp only [PyData.eqv, PyData.list.injEq]
      exact eqvs_nb n ds es h1 h2
    | _ => simp [PyData.eqv]
  | n + 1, .tuple ds, e, h1, h2 => by
    cases e with
    | tuple es =>
      simp only [PyData.eqv, PyData.tuple.injEq]
      exact eqvs_nb n ds es h1 h2
    | _ => simp [PyData.eqv]
  | 0, .bool _, _, h1, _ => by cases h1
  | n + 1, .bool _, _, h1, _ => by cases h1
  | 0, .dict _, _, h1, _ => by cases h1
  | n + 1, .dict _, _, h1, _ => by cases h1
theorem eqvs_nb : ∀ (n : Nat) (ds es : List D), ds.all (nbN n) = true → es.all (nbN n) = true → (PyData.eqvAll ds es = true ↔ ds = es)
  | n, [], [], _, _ => by simp [PyData.eqvAll]
  | n, [], e :: es, _, _ => by simp [PyData.eqvAll]
  | n, d :: ds, [], _, _ => by simp [PyData.eqvAll]
  | n, d :: ds, e :: es, h1, h2 => by
    rw [List.all_cons, Bool.and_eq_true] at h1 h2
    simp only [PyData.eqvAll, Bool.and_eq_true, List.cons.injEq]
    rw [eqv_nb n d e h1.1 h2.1, eqvs_nb n ds es h1.2 h2.2]
end
theorem int_inj {xs ys : List Int} : xs.map PyData.int = ys.map PyData.int ↔ xs = ys := by
  constructor
  · intro h
    induction xs generalizing ys with
    | nil => cases ys with
      | nil => rfl
      | cons y ys => cases h
    | cons x xs ih => cases ys with
      | nil => cases h
      | cons y ys =>
        rw [List.map_cons, List.map_cons, List.cons.injEq, PyData.int.injEq] at h
        rw [h.1, ih h.2]
  · intro h; rw [h]
@[simp] theorem eqv_lints (xs ys : List Int) : PyData.eqv (.list (xs.map .int)) (.list (ys.map .int)) = decide (xs = ys) := by
  rw [Bool.eq_iff_iff, eqv_nb 1 _ _ (by simp) (by simp), PyData.list.injEq, int_inj, decide_eq_true_iff]
@[simp] theorem eqv_tints (xs ys : List Int) : PyData.eqv (.tuple (xs.map .int)) (.tuple (ys.map .int)) = decide (xs = ys) := by
  rw [Bool.eq_iff_iff, eqv_nb 1 _ _ (by simp) (by simp), PyData.tuple.injEq, int_inj, decide_eq_true_iff]
theorem fst_idx (x : Int) : ∀ {xs : List Int}, x ∈ xs → fstEq (.int x) (xs.map .int) = some (xs.idxOf x)
  | y :: ys, h => by
    rw [List.map_cons]
    unfold fstEq
    rw [eqv_int, List.idxOf_cons]
    by_cases e : y = x
    · subst e; simp
    · have hm : x ∈ ys := by
        rcases List.mem_cons.mp h with h | h
        · exact absurd h.symm e
        · exact h
      have e1 : (y == x) = false := by simpa using e
      rw [if_neg (by simpa using e), fst_idx x hm, e1]
      simp
theorem idx_l (cs : CS) {x : Int} {xs : List Int} (h : x ∈ xs) : idxD (.list (xs.map .int)) [.int x] cs = .ok (.int (xs.idxOf x : Nat)) cs := by
  show (if (SeqAt.shaped (.list (xs.map .int)) && SeqAt.shaped (.int x)) = true then (match fstEq (.int x) (xs.map .int) with | some j => Res.ok (PyData.int (j : Nat)) cs | none => .stuck) else .stuck) = _
  rw [shaped_wd (d := .list (xs.map .int)) (by simp), shaped_wd (wd_int _ _), fst_idx x h]
  rfl
theorem max_ints (cs : CS) (x : Int) (xs : List Int) : bestD PySem.W.maxD maxI [.tuple ((x :: xs).map .int)] cs = .ok (.int (xs.foldl max x)) cs ∧ bestD PySem.W.maxD maxI [.list ((x :: xs).map .int)] cs = .ok (.int (xs.foldl max x)) cs := by
  have h : (allAlikeB ((x :: xs).map .int) && noneFree ((x :: xs).map .int) && SeqAt.shaped (.list ((x :: xs).map .int))) = true := by
    rw [shaped_wd (d := .list ((x :: xs).map .int)) (by simp)]
    simp [allAlikeB, noneFree, PySem.W.alike]
  constructor
  · show (if (allAlikeB ((x :: xs).map .int) && noneFree ((x :: xs).map .int) && SeqAt.shaped (.list ((x :: xs).map .int))) = true then Res.ok (PySem.W.maxD (.int x) (xs.map .int)) cs else .stuck) = _
    rw [if_pos h, PySem.W.maxD_ints]
  · show (if (allAlikeB ((x :: xs).map .int) && noneFree ((x :: xs).map .int) && SeqAt.shaped (.list ((x :: xs).map .int))) = true then Res.ok (PySem.W.maxD (.int x) (xs.map .int)) cs else .stuck) = _
    rw [if_pos h, PySem.W.maxD_ints]
end KH

/-! KH: loops; the defs that all laws have. -/
namespace KH
open PySem PySem.Spec PyProof.Rows L2
theorem forL_inv {tg : Tg} {body : Env → M Fl} (I : Nat → Env → CS → Prop) : ∀ (ds : List D) (n : Nat) (env : Env) (cs : CS), I n env cs →
    (∀ (i : Nat) (d : D) (env : Env) (cs : CS), n ≤ i → ds[i - n]? = some d → I i env cs → ∃ e1, setTg tg d env = some e1 ∧ ∃ env' cs', body e1 cs = .ok (.nx env') cs' ∧ I (i + 1) env' cs') →
    ∃ env' cs', forL tg body ds env cs = .ok (.nx env') cs' ∧ I (n + ds.length) env' cs'
  | [], n, env, cs, h, _ => ⟨env, cs, rfl, h⟩
  | d :: ds, n, env, cs, h, hb => by
    obtain ⟨e1, h1, env', cs', h2, h3⟩ := hb n d env cs (Nat.le_refl _) (by simp) h
    obtain ⟨env2, cs2, h4, h5⟩ := forL_inv I ds (n + 1) env' cs' h3 fun i d env cs hi hd hI => hb i d env cs (by omega) (by
      have : i - n = (i - (n + 1)) + 1 := by omega
      rw [this]
      simpa using hd) hI
    refine ⟨env2, cs2, ?_, by rw [List.length_cons]; have : n + (ds.length + 1) = n + 1 + ds.length := by omega
                              rw [this]; exact h5⟩
    unfold forL
    rw [h1]
    show mb _ _ cs = _
    rw [mb_bd, h2]
    exact h4
@[simp] theorem forL_nil (tg : Tg) (body : Env → M Fl) (env : Env) (cs : CS) : forL tg body [] env cs = .ok (.nx env) cs := rfl
def setTgF (tg : Tg) (d : D) (env : Env) (k : Env → Res Fl) : Res Fl := match setTg tg d env with
  | some e => k e
  | none => .stuck
@[simp] theorem setTgF_nm (i : Nat) (d : D) (env : Env) (k : Env → Res Fl) : setTgF (.nm i) d env k = k (env.set i (some d)) := rfl
@[simp] theorem setTgF_tp (is : List Nat) (ds : List D) (env : Env) (k : Env → Res Fl) : setTgF (.tp is) (.tuple ds) env k = if ds.length = is.length then k (setAll is ds env) else .stuck := by
  unfold setTgF
  rw [setTg_tp]
  by_cases h : ds.length = is.length
  · rw [if_pos h, if_pos h]
  · rw [if_neg h, if_neg h]
@[simp] theorem forL_cons (tg : Tg) (body : Env → M Fl) (d : D) (ds : List D) (env : Env) (cs : CS) : forL tg body (d :: ds) env cs = setTgF tg d env fun e1 => seqR (body e1 cs) fun e2 c => forL tg body ds e2 c := by
  rw [show forL tg body (d :: ds) env = (match setTg tg d env with | none => stk | some e1 => mb (body e1) fun fl => match fl with | .nx e2 => forL tg body ds e2 | .rt d => ret (.rt d)) from rfl]
  unfold setTgF
  cases setTg tg d env with
  | none => rfl
  | some e1 =>
    show mb _ _ cs = _
    rw [mb_bd]
    show _ = seqR (body e1 cs) _
    cases body e1 cs with
    | ok fl c => cases fl <;> rfl
    | _ => rfl
@[simp] theorem h_hole : E.isHole .hole = true := rfl
@[simp] theorem h_var (i : Nat) : E.isHole (.var i) = false := rfl
@[simp] theorem h_int (i : Int) : E.isHole (.int i) = false := rfl
@[simp] theorem h_bl (b : Bool) : E.isHole (.bl b) = false := rfl
@[simp] theorem h_non  : E.isHole (.non ) = false := rfl
@[simp] theorem h_str (s : Str) : E.isHole (.str s) = false := rfl
@[simp] theorem h_con (c : Nat) : E.isHole (.con c) = false := rfl
@[simp] theorem h_tup (es : Es) : E.isHole (.tup es) = false := rfl
@[simp] theorem h_disp (c : Bool) (es : Es) : E.isHole (.disp c es) = false := rfl
@[simp] theorem h_bin (o : Bop) (a b : E) : E.isHole (.bin o a b) = false := rfl
@[simp] theorem h_neg (a : E) : E.isHole (.neg a) = false := rfl
@[simp] theorem h_not (a : E) : E.isHole (.not a) = false := rfl
@[simp] theorem h_and (a b : E) : E.isHole (.and a b) = false := rfl
@[simp] theorem h_or (a b : E) : E.isHole (.or a b) = false := rfl
@[simp] theorem h_one (a : E) : E.isHole (.one a) = false := rfl
@[simp] theorem h_cmp (c : Cmp1) (a b : E) : E.isHole (.cmp c a b) = false := rfl
@[simp] theorem h_chn (c d : Cmp1) (a b e : E) : E.isHole (.chn c d a b e) = false := rfl
@[simp] theorem h_ife (c a b : E) : E.isHole (.ife c a b) = false := rfl
@[simp] theorem h_call (f : Nat) (es : Es) : E.isHole (.call f es) = false := rfl
@[simp] theorem h_blt (b : Blt) (es : Es) : E.isHole (.blt b es) = false := rfl
@[simp] theorem h_isi (t : Ty) (e : E) : E.isHole (.isi t e) = false := rfl
@[simp] theorem h_ix (a i : E) : E.isHole (.ix a i) = false := rfl
@[simp] theorem h_sl (a l h : E) : E.isHole (.sl a l h) = false := rfl
@[simp] theorem wipe_nil (env : Env) : wipeE env [] = env := rfl
@[simp] theorem wipe_cons (v : Nat) (vs : List Nat) (env : Env) : wipeE env (v :: vs) = (wipeE env vs).set v none := rfl
@[simp] theorem setAll_nil (env : Env) : setAll [] [] env = env := rfl
@[simp] theorem setAll_cons (i : Nat) (is : List Nat) (d : D) (ds : List D) (env : Env) : setAll (i :: is) (d :: ds) env = setAll is ds (env.set i (some d)) := rfl
theorem rangeL_0 (n : Nat) : rangeL 0 n = (List.range n).map fun i => .int (i : Nat) := by
  unfold rangeL
  congr 1
  funext i
  rw [Int.zero_add]
@[simp] theorem bool_and (p : Prop) [Decidable p] (b : Bool) (c : CS) : (if p then Res.ok (PyData.bool b) c else Res.ok (PyData.bool false) c) = Res.ok (PyData.bool (decide p && b)) c := by by_cases h : p <;> simp [h]
@[simp] theorem bool_or (p : Prop) [Decidable p] (b : Bool) (c : CS) : (if p then Res.ok (PyData.bool true) c else Res.ok (PyData.bool b) c) = Res.ok (PyData.bool (decide p || b)) c := by by_cases h : p <;> simp [h]
/-! ### kinds -/
def isI : D → Bool
  | .int _ => true
  | _ => false
def fitI (a b : Int) : D → Bool
  | .int i => decide (a ≤ i) && decide (i ≤ b)
  | _ => false
def isT (a b : Int) : D → Bool
  | .tuple ds => decide (a ≤ ds.length) && decide ((ds.length : Int) ≤ b)
  | _ => false
@[simp] theorem fitI_i (a b i : Int) : fitI a b (.int i) = (decide (a ≤ i) && decide (i ≤ b)) := rfl
@[simp] theorem fitI_n (a b : Int) : fitI a b .none = false := rfl
@[simp] theorem fitI_b (a b : Int) (x : Bool) : fitI a b (.bool x) = false := rfl
@[simp] theorem fitI_s (a b : Int) (x : Str) : fitI a b (.str x) = false := rfl
@[simp] theorem fitI_l (a b : Int) (x : List D) : fitI a b (.list x) = false := rfl
@[simp] theorem fitI_t (a b : Int) (x : List D) : fitI a b (.tuple x) = false := rfl
@[simp] theorem isT_t (a b : Int) (x : List D) : isT a b (.tuple x) = (decide (a ≤ x.length) && decide ((x.length : Int) ≤ b)) := rfl
@[simp] theorem isT_n (a b : Int) : isT a b .none = false := rfl
@[simp] theorem isT_b (a b : Int) (x : Bool) : isT a b (.bool x) = false := rfl
@[simp] theorem isT_i (a b : Int) (x : Int) : isT a b (.int x) = false := rfl
@[simp] theorem isT_s (a b : Int) (x : Str) : isT a b (.str x) = false := rfl
@[simp] theorem isT_l (a b : Int) (x : List D) : isT a b (.list x) = false := rfl
def wholeD : FDef := ⟨"is_whole", ["value"], 1, false, (.cons (.ret (.and (.isi .int (.var 0)) (.one (.not (.isi .bool (.var 0)))))) .nil)⟩
def fitsD (w : Nat) : FDef := ⟨"fits_whole", ["value", "low", "high"], 3, false, (.cons (.ret (.and (.call w (.cons (.var 0) .nil)) (.one (.chn .le .le (.var 1) (.var 0) (.var 2))))) .nil)⟩
def tupOfD : FDef := ⟨"is_tuple_of", ["value", "least", "most"], 3, false, (.cons (.ret (.and (.isi .tuple (.var 0)) (.one (.chn .le .le (.var 1) (.blt .len (.cons (.var 0) .nil)) (.var 2))))) .nil)⟩
def needD (f e : Nat) : FDef := ⟨"need_number", ["value", "low", "high"], 3, false, (.cons (.iff (.not (.call f (.cons (.var 0) (.cons (.var 1) (.cons (.var 2) .nil))))) ((.cons (.raise e) .nil)) (.nil)) .nil)⟩
section
variable {p : Prg} {f w e : Nat} (k : Nat) (cs : CS)
theorem whole_at (hd : p.defs[f]? = some wholeD) (d : D) (h : wd d = true) : run p (k + 1) f [d] cs = .ok (.bool (isI d)) cs := by
  rw [run_at hd k rfl cs]
  cases d with
  | dict _ => cases h
  | _ => simp [wholeD, isI]
theorem fits_at (hw : p.defs[w]? = some wholeD) (hd : p.defs[f]? = some (fitsD w)) (a b : Int) (d : D) (h : wd d = true) : run p (k + 2) f [d, .int a, .int b] cs = .ok (.bool (fitI a b d)) cs := by
  rw [run_at hd (k + 1) rfl cs]
  cases d with
  | dict _ => cases h
  | _ => simp [fitsD, whole_at k cs hw _ h, isI, fitI]
theorem tupOf_at (hd : p.defs[f]? = some tupOfD) (a b : Int) (d : D) (h : wd d = true) : run p (k + 1) f [d, .int a, .int b] cs = .ok (.bool (isT a b d)) cs := by
  rw [run_at hd k rfl cs]
  cases d with
  | dict _ => cases h
  | _ => simp [tupOfD, isT]
theorem need_at {g : Nat} (hw : p.defs[w]? = some wholeD) (hf : p.defs[g]? = some (fitsD w)) (hd : p.defs[f]? = some (needD g e)) (a b : Int) (d : D) (h : wd d = true) : run p (k + 3) f [d, .int a, .int b] cs = if fitI a b d = true then .ok .none cs else .exc (.plain e) cs := by
  rw [run_at hd (k + 2) rfl cs]
  simp [needD, fits_at k cs hw hf a b d h]
  by_cases q : fitI a b d = true <;> simp [q]
end
/-! ### _law_same -/
def sameD (f : Nat) : FDef := ⟨"_law_same", ["told", "due", "at"], 2, false, (.cons (.iff (.isi .tuple (.var 1)) ((.cons (.iff (.or (.not (.isi .tuple (.var 0))) (.one (.cmp .ne (.blt .len (.cons (.var 0) .nil)) (.blt .len (.cons (.var 1) .nil))))) ((.cons (.ret (.bl false)) .nil)) (.nil)) (.cons (.ret (.blt .all (.cons (.comp false [2] (.nm 2) (.rng1 (.blt .len (.cons (.var 1) .nil))) (.hole) (.call f (.cons (.ix (.var 0) (.var 2)) (.cons (.ix (.var 1) (.var 2)) .nil)))) .nil))) .nil))) (.nil))
  (.cons (.iff (.isi .list (.var 1)) ((.cons (.ret (.and (.isi .list (.var 0)) (.one (.call f (.cons (.blt .tuple (.cons (.var 0) .nil)) (.cons (.blt .tuple (.cons (.var 1) .nil)) .nil)))))) .nil)) (.nil)) (.cons (.iff (.cmp .is (.var 1) (.non)) ((.cons (.ret (.cmp .is (.var 0) (.non))) .nil)) (.nil))
  (.cons (.iff (.isi .bool (.var 1)) ((.cons (.ret (.ife (.var 1) (.cmp .is (.var 0) (.bl true)) (.cmp .is (.var 0) (.bl false)))) .nil)) (.nil)) (.cons (.iff (.isi .int (.var 1)) ((.cons (.ret (.and (.isi .int (.var 0)) (.and (.not (.isi .bool (.var 0))) (.one (.cmp .eq (.blt .int (.cons (.var 0) .nil)) (.var 1)))))) .nil)) (.nil)) (.cons (.ret (.and (.isi .str (.var 0)) (.one (.cmp .eq (.blt .str (.cons (.var 0) .nil)) (.var 1))))) .nil))))))⟩
/-- of no great size -/
def szN : Nat → D → Bool
  | _, .none => true
  | _, .bool _ => true
  | _, .int _ => true
  | _, .str s => PyData.strOk s
  | n + 1, .list ds => decide (ds.length ≤ 1000000) && ds.all (szN n)
  | n + 1, .tuple ds => decide (ds.length ≤ 1000000) && ds.all (szN n)
  | _, _ => false
@[simp] theorem sz_non (n : Nat) : szN n .none = true := by cases n <;> rfl
@[simp] theorem sz_bl (n : Nat) (b : Bool) : szN n (.bool b) = true := by cases n <;> rfl
@[simp] theorem sz_int (n : Nat) (i : Int) : szN n (.int i) = true := by cases n <;> rfl
@[simp] theorem sz_str (n : Nat) (s : Str) : szN n (.str s) = PyData.strOk s := by cases n <;> rfl
@[simp] theorem sz_lst (n : Nat) (ds : List D) : szN (n + 1) (.list ds) = (decide (ds.length ≤ 1000000) && ds.all (szN n)) := rfl
@[simp] theorem sz_tup (n : Nat) (ds : List D) : szN (n + 1) (.tuple ds) = (decide (ds.length ≤ 1000000) && ds.all (szN n)) := rfl
theorem same_tup {p : Prg} {f : Nat} (hd : p.defs[f]? = some (sameD f)) (k : Nat) (cs : CS) (ds : List D) (h : ds.length ≤ 1000000) (ih : ∀ d ∈ ds, ∀ cs, run p k f [d, d] cs = .ok (.bool true) cs) : run p (k + 1) f [.tuple ds, .tuple ds] cs = .ok (.bool true) cs := by
  rw [run_at hd k rfl cs]
  have e1 : range1D [.int ds.length] cs = .ok (rangeL 0 ds.length) cs := by
    have := rng1 cs ds.length (by omega) (by omega)
    rw [Int.toNat_natCast] at this
    exact this
  have e2 : mapR (fun (x : Nat) c => quiet ((ixD (.tuple ds) (.int (x : Nat)) c).bd fun a c => (ixD (.tuple ds) (.int (x : Nat)) c).bd fun b c => run p k f [a, b] c)) (List.range ds.length) cs = .ok ((List.range ds.length).map fun _ => .bool true) cs := by
    refine mapR_in (fun _ => PyData.bool true) fun x hx => ?_
    have hx : x < ds.length := List.mem_range.mp hx
    have e3 : ∀ c, ixD (.tuple ds) (.int (x : Nat)) c = .ok ds[x] c := fun c => ix_t c _ ds (atI_nat (List.getElem?_eq_getElem hx))
    rw [e3]
    show quiet ((ixD _ _ cs).bd _) = _
    rw [e3]
    show quiet (run p k f [ds[x], ds[x]] cs) = _
    rw [ih _ (List.getElem_mem hx)]
    rfl
  simp [sameD, e1, rangeL_0, bd_bd]
  rw [e2]
  simp
theorem same_at {p : Prg} {f : Nat} (hd : p.defs[f]? = some (sameD f)) : ∀ (n k : Nat) (d : D), szN n d = true → ∀ cs, run p (k + 2 * n + 1) f [d, d] cs = .ok (.bool true) cs := by
  intro n
  induction n with
  | zero =>
    intro k d h cs
    rw [run_at hd (k + 2 * 0) rfl cs]
    cases d with
    | tuple _ => cases h
    | list _ => cases h
    | dict _ => cases h
    | str s =>
      have : Cmp1.eq.fn (.str s) (.str s) cs = .ok (.bool true) cs := by rw [f_eq cs (d := .str s) (e := .str s) h h]; simp
      simp [sameD, this]
    | bool b => cases b <;> simp [sameD]
    | _ => simp [sameD]
  | succ n ih =>
    intro k d h cs
    have ht : ∀ (k : Nat) (ds : List D), ds.length ≤ 1000000 → (∀ d ∈ ds, szN n d = true) → ∀ cs, run p (k + 2 * n + 2) f [.tuple ds, .tuple ds] cs = .ok (.bool true) cs := fun k ds h1 h2 cs => same_tup hd _ cs ds h1 fun d hd cs => ih k d (h2 d hd) cs
    cases d with
    | tuple ds =>
      rw [sz_tup, Bool.and_eq_true, List.all_eq_true] at h
      have := ht (k + 1) ds (of_decide_eq_true h.1) h.2 cs
      rw [show k + 2 * (n + 1) + 1 = k + 1 + 2 * n + 2 by omega]
      exact this
    | list ds =>
      rw [sz_lst, Bool.and_eq_true, List.all_eq_true] at h
      have := ht k ds (of_decide_eq_true h.1) h.2 cs
      rw [show k + 2 * (n + 1) + 1 = (k + 2 * n + 2) + 1 by omega, run_at hd _ rfl cs]
      simp [sameD, this]
    | dict _ => cases h
    | str s =>
      rw [run_at hd (k + 2 * (n + 1)) rfl cs]
      rw [sz_str] at h
      have : Cmp1.eq.fn (.str s) (.str s) cs = .ok (.bool true) cs := by rw [f_eq cs (d := .str s) (e := .str s) h h]; simp
      simp [sameD, this]
    | bool b =>
      rw [run_at hd (k + 2 * (n + 1)) rfl cs]
      cases b <;> simp [sameD]
    | _ =>
      rw [run_at hd (k + 2 * (n + 1)) rfl cs]
      simp [sameD]
end KH

/-! KH: the cup, its rolls, lines. -/
namespace KH
open PySem PySem.Spec PyProof.Rows L2
abbrev cup (s : Int × Int) : Option (List D) := some [.int s.1, .int s.2]
/-- six numbers of a law's roll -/
structure RC where
  a : Nat
  b : Nat
  m : Nat
  c : Nat
  m2 : Nat
  q : Nat
def RC.ok (r : RC) : Bool := decide (r.a < 1000000) && decide (r.c < 1000000) && decide (0 < r.m) && decide (r.m < 4294967296) && decide (0 < r.m2) && decide (0 < r.q) && decide (r.q < 1073741824)
def rollD (r : RC) : FDef := ⟨"_law_roll", ["cup", "many", "deep", "found"], 2, false, (.cons (.iff (.cmp .gt (.ix (.var 0) (.int 0)) (.int 0)) ((.cons (.set 3 (.bin .mod (.blt .int (.cons (.ix (.var 0) (.int 0)) .nil)) (.var 1))) (.cons (.setI (.var 0) (.int 0) (.bin .fdiv (.ix (.var 0) (.int 0)) (.var 1))) (.cons (.ret (.var 3)) .nil)))) (.nil))
  (.cons (.setI (.var 0) (.int 1) (.bin .mod (.blt .int (.cons (.bin .add (.bin .mul (.ix (.var 0) (.int 1)) (.int r.a)) (.int r.b)) .nil)) (.int r.m))) (.cons (.set 2 (.bin .mod (.blt .int (.cons (.bin .mul (.ix (.var 0) (.int 1)) (.bin .add (.ix (.var 0) (.int 1)) (.int r.c))) .nil)) (.int r.m2)))
  (.cons (.ret (.bin .mod (.blt .int (.cons (.bin .fdiv (.var 2) (.int r.q)) .nil)) (.var 1))) .nil))))⟩
section
variable (x y : Int) (l : CS)
@[simp] theorem cell0_0 : ixD (cellD 0) (.int 0) (some [.int x, .int y] :: l) = .ok (.int x) (some [.int x, .int y] :: l) := rfl
@[simp] theorem cell0_1 : ixD (cellD 0) (.int 1) (some [.int x, .int y] :: l) = .ok (.int y) (some [.int x, .int y] :: l) := rfl
@[simp] theorem cell0_s0 (z : Int) : setD (cellD 0) (.int 0) (.int z) (some [.int x, .int y] :: l) = .ok () (some [.int z, .int y] :: l) := by
  show (if (PyData.int z).canLay0 = true then Res.ok () (some [PyData.int z, PyData.int y] :: l) else .stuck) = _
  rw [if_pos (lay_int z)]
@[simp] theorem cell0_s1 (z : Int) : setD (cellD 0) (.int 1) (.int z) (some [.int x, .int y] :: l) = .ok () (some [.int x, .int z] :: l) := by
  show (if (PyData.int z).canLay0 = true then Res.ok () (some [PyData.int x, PyData.int z] :: l) else .stuck) = _
  rw [if_pos (lay_int z)]
end
theorem roll_at {p : Prg} {f : Nat} {r : RC} (hr : r.ok = true) (hd : p.defs[f]? = some (rollD r)) (k : Nat) {many : Int} (h1 : 0 < many) (h2 : many < 1073741824) (st : Int × Int) (l : CS) :
    ∃ (v : Int) (st' : Int × Int), 0 ≤ v ∧ v < many ∧ run p (k + 1) f [cellD 0, .int many] (cup st :: l) = .ok (.int v) (cup st' :: l) := by
  obtain ⟨x, y⟩ := st
  unfold RC.ok at hr
  simp only [Bool.and_eq_true, decide_eq_true_eq] at hr
  obtain ⟨⟨⟨⟨⟨⟨ha, hc⟩, hm⟩, hm'⟩, hm2⟩, hq⟩, hq'⟩ := hr
  by_cases hx : 0 < x
  · refine ⟨x % many, (x / many, y), Int.emod_nonneg _ (by omega), Int.emod_lt_of_pos _ h1, ?_⟩
    rw [run_at hd k rfl]
    simp [rollD, hx, mod_i _ _ _ h1, fdiv_i _ _ _ h1 h2]
  · have hy0 := Int.emod_nonneg (y * r.a + r.b) (b := (r.m : Int)) (by omega)
    have hy1 := Int.emod_lt_of_pos (y * r.a + r.b) (b := (r.m : Int)) (by omega)
    refine ⟨((y * r.a + r.b) % r.m * ((y * r.a + r.b) % r.m + r.c) % r.m2 / r.q) % many, (x, (y * r.a + r.b) % r.m), Int.emod_nonneg _ (by omega), Int.emod_lt_of_pos _ h1, ?_⟩
    rw [run_at hd k rfl]
    have e1 : ∀ c, Bop.mul.fn (.int y) (.int r.a) c = .ok (.int (y * r.a)) c := fun c => mul_r c _ _ (by omega) (by omega)
    have e2 : ∀ c, Bop.mod.fn (.int (y * r.a + r.b)) (.int r.m) c = .ok (.int ((y * r.a + r.b) % r.m)) c := fun c => mod_i c _ _ (by omega)
    generalize (y * r.a + r.b) % r.m = z at hy0 hy1 e2 ⊢
    have e3 : ∀ c, Bop.mul.fn (.int z) (.int (z + r.c)) c = .ok (.int (z * (z + r.c))) c := fun c => mul_l c _ _ (by omega) (by omega)
    have e4 : ∀ c, Bop.mod.fn (.int (z * (z + r.c))) (.int r.m2) c = .ok (.int (z * (z + r.c) % r.m2)) c := fun c => mod_i c _ _ (by omega)
    have e5 : ∀ c, Bop.fdiv.fn (.int (z * (z + r.c) % r.m2)) (.int r.q) c = .ok (.int (z * (z + r.c) % r.m2 / r.q)) c := fun c => fdiv_i c _ _ (by omega) (by omega)
    simp [rollD, hx, e1, e2, e3, e4, e5, mod_i _ _ _ h1]
def cupD (q a b m c : Nat) : FDef := ⟨"_law_cup", ["script", "cell"], 1, true, (.cons (.set 1 (.blt .abs (.cons (.ix (.bin .add (.blt .list (.cons (.var 0) .nil)) (.disp false (.cons (.int 0) .nil))) (.int 0)) .nil))) (.cons (.ret (.disp true (.cons (.ife (.cmp .ge (.var 1) (.bin .pow (.int 10) (.int 18))) (.bin .fdiv (.var 1) (.int q)) (.int 0)) (.cons (.bin .add (.bin .mod (.blt .int (.cons (.bin .add (.bin .mul (.var 1) (.int a)) (.int b)) .nil)) (.int m)) (.int c)) .nil)))) .nil))⟩
theorem cup_at {p : Prg} {f q a b m c : Nat} (hd : p.defs[f]? = some (cupD q a b m c)) (hq : 0 < q) (hq' : q < 1073741824) (ha : a < 1000000) (hm : 0 < m) (k : Nat) (ns : List Int) (hn : ns.length ≤ 63) :
    ∃ st, run p (k + 1) f [scrD ns] [] = .ok (cellD 0) [cup st] := by
  have e0 : ∀ c, Blt.list.fn [scrD ns] c = .ok (.list (ns.map .int)) c := fun c => lst_scr c ns (by omega)
  obtain ⟨x, hx⟩ : ∃ x, atI (ns.map PyData.int ++ [.int 0]) 0 = some (.int x) := by
    cases ns with
    | nil => exact ⟨0, rfl⟩
    | cons n ns => exact ⟨n, atI_nat (n := 0) rfl⟩
  have e1 : ∀ c, Bop.add.fn (.list (ns.map .int)) (.list [.int 0]) c = .ok (.list (ns.map .int ++ [.int 0])) c := fun c => add_l c _ _ (by simp; omega)
  have e2 : ∀ c, ixD (.list (ns.map .int ++ [.int 0])) (.int 0) c = .ok (.int x) c := fun c => ix_l c _ _ hx
  have e3 : ∀ c, Bop.pow.fn (.int 10) (.int 18) c = .ok (.int 1000000000000000000) c := fun c => pow_i c 10 18 (by decide)
  generalize hz : (if x < 0 then -x else x) = z
  have e4 : ∀ c, Blt.abs.fn [.int x] c = .ok (.int z) c := fun c => by rw [abs_i, hz]
  have e5 : ∀ c, Bop.fdiv.fn (.int z) (.int q) c = .ok (.int (z / q)) c := fun c => fdiv_i c _ _ (by omega) (by omega)
  have e6 : ∀ c, Bop.mul.fn (.int z) (.int a) c = .ok (.int (z * a)) c := fun c => mul_r c _ _ (by omega) (by omega)
  have e7 : ∀ c, Bop.mod.fn (.int (z * a + b)) (.int m) c = .ok (.int ((z * a + b) % m)) c := fun c => mod_i c _ _ (by omega)
  refine ⟨(if 1000000000000000000 ≤ z then z / q else 0, (z * a + b) % m + c), ?_⟩
  rw [run_at hd k rfl]
  by_cases h : 1000000000000000000 ≤ z <;> simp [cupD, e0, e1, e2, e3, e4, e5, e6, e7, h]
def lineD (f : Nat) : FDef := ⟨"_law_line", ["cup", "many", "low", "wide", "found", "turn"], 4, false, (.cons (.set 4 (.disp true (.cons (.bin .add (.var 2) (.call f (.cons (.var 0) (.cons (.var 3) .nil)))) .nil))) (.cons (.forS (.nm 5) (.rng1 (.bin .sub (.var 1) (.int 1))) ((.cons (.drop (.app (.var 4) (.ife (.cmp .eq (.call f (.cons (.var 0) (.cons (.int 5) .nil))) (.int 0)) (.ix (.var 4) (.neg (.int 1))) (.bin .add (.var 2) (.call f (.cons (.var 0) (.cons (.var 3) .nil))))))) (.clr [5] .nil)))) (.frz 4 (.cons (.ret (.blt .tuple (.cons (.var 4) .nil))) .nil))))⟩
/-! a cell behind the others -/
theorem cell_at (l r : CS) (ds : List D) : lstOf (cellD l.length) (l ++ some ds :: r) = some ds := by
  show (match (l ++ some ds :: r)[((l.length : Nat) : Int).toNat]? with | some (some ds) => some ds | _ => none) = _
  rw [Int.toNat_natCast]
  simp
@[simp] theorem cell_end (l : CS) (ds : List D) : lstOf (cellD l.length) (l ++ [some ds]) = some ds := cell_at l [] ds
@[simp] theorem mt_end (l : CS) (ds : List D) (r : Res D) : mtR (cellD l.length) (l ++ [some ds]) r = r := by unfold mtR; rw [cell_end]
@[simp] theorem cellOf_D (n : Nat) : cellOf (cellD n) = some n := rfl
theorem app_end (l : CS) (ds : List D) (y : D) (h : ds.length < 16777216) (hy : y.canLay0 = true) : appD (cellD l.length) y (l ++ [some ds]) = .ok .none (l ++ [some (ds ++ [y])]) := by
  unfold appD
  rw [cellOf_D]
  simp [h, hy]
theorem ix_end (l : CS) (ds : List D) (i : Int) (d : D) (h : atI ds i = some d) : ixD (cellD l.length) (.int i) (l ++ [some ds]) = .ok d (l ++ [some ds]) := by
  show (match lstOf (cellD l.length) (l ++ [some ds]) with | some xs => atD xs i id (l ++ [some ds]) | none => .stuck) = _
  rw [cell_end]
  show atD ds i id _ = _
  unfold atD
  rw [h]
  rfl
theorem frz_end (l : CS) (ds : List D) (env : Env) (i : Nat) (h : env[i]? = some (some (cellD l.length))) : frzE i env (l ++ [some ds]) = .ok (env.set i (some (.list ds))) (l ++ [none]) := by
  unfold frzE
  rw [h]
  simp
/-! the same behind a first cell -/
section
variable (s : Option (List D)) (l : CS) (ds : List D)
theorem mt_end1 (r : Res D) : mtR (cellD (l.length + 1)) (s :: (l ++ [some ds])) r = r := mt_end (s :: l) ds r
theorem app_end1 (y : D) (h : ds.length < 16777216) (hy : y.canLay0 = true) : appD (cellD (l.length + 1)) y (s :: (l ++ [some ds])) = .ok .none (s :: (l ++ [some (ds ++ [y])])) := app_end (s :: l) ds y h hy
theorem ix_end1 (i : Int) (d : D) (h : atI ds i = some d) : ixD (cellD (l.length + 1)) (.int i) (s :: (l ++ [some ds])) = .ok d (s :: (l ++ [some ds])) := ix_end (s :: l) ds i d h
theorem frz_end1 (env : Env) (i : Nat) (h : env[i]? = some (some (cellD (l.length + 1)))) : frzE i env (s :: (l ++ [some ds])) = .ok (env.set i (some (.list ds))) (s :: (l ++ [none])) := frz_end (s :: l) ds env i h
end
theorem atI_last {α : Type} (l : List α) (x : α) : atI (l ++ [x]) (-1) = some x := by
  unfold atI ixN
  have e : (-1 + ((l ++ [x]).length : Int)).toNat = l.length := by simp; omega
  rw [if_neg (by decide), if_pos (by simp; omega), e]
  simp
theorem line_at {p : Prg} {f g : Nat} {r : RC} (hr : r.ok = true) (hd : p.defs[f]? = some (rollD r)) (hg : p.defs[g]? = some (lineD f)) (k : Nat) {many low wide : Int} (h1 : 1 ≤ many) (h2 : many ≤ 1000) (h3 : 0 < wide) (h4 : wide < 1000000) (st : Int × Int) (l : CS) :
    ∃ (xs : List Int) (st' : Int × Int), (xs.length : Int) = many ∧ (∀ x ∈ xs, low ≤ x ∧ x < low + wide) ∧ run p (k + 2) g [cellD 0, .int many, .int low, .int wide] (cup st :: l) = .ok (.tuple (xs.map .int)) (cup st' :: l) := by
  obtain ⟨v, s1, v0, v1, e1⟩ := roll_at hr hd k h3 (by omega) st l
  obtain ⟨n, hn⟩ : ∃ n, (many - 1).toNat = n := ⟨_, rfl⟩
  have er : range1D [.int (many - 1)] (cup s1 :: (l ++ [some [.int (low + v)]])) = .ok (rangeL 0 n) (cup s1 :: (l ++ [some [.int (low + v)]])) := by rw [← hn]; exact rng1 _ _ (by omega) (by omega)
  obtain ⟨env', cs', e2, s2, ys, y, t, rfl, rfl, hl, hy⟩ := forL_inv (tg := .nm 5) (body := evSs (run p (k + 1)) p.tab (.cons (.drop (.app (.var 4) (.ife (.cmp .eq (.call f (.cons (.var 0) (.cons (.int 5) .nil))) (.int 0)) (.ix (.var 4) (.neg (.int 1))) (.bin .add (.var 2) (.call f (.cons (.var 0) (.cons (.var 3) .nil))))))) (.clr [5] .nil)))
    (fun i env cs => ∃ (s2 : Int × Int) (ys : List Int) (y : Int) (t : Option D), env = [some (cellD 0), some (.int many), some (.int low), some (.int wide), some (cellD (l.length + 1)), t] ∧ cs = cup s2 :: (l ++ [some ((ys ++ [y]).map .int)]) ∧ ys.length = i ∧ ∀ x ∈ ys ++ [y], low ≤ x ∧ x < low + wide)
    (rangeL 0 n) 0 [some (cellD 0), some (.int many), some (.int low), some (.int wide), some (cellD (l.length + 1)), none] (cup s1 :: (l ++ [some [.int (low + v)]]))
    ⟨s1, [], low + v, none, rfl, rfl, rfl, by simp; omega⟩ (by
      rintro i d env cs _ hi ⟨s2, ys, y, t, rfl, rfl, hl, hy⟩
      refine ⟨_, rfl, ?_⟩
      obtain ⟨w, s3, w0, w1, e3⟩ := roll_at hr hd k (many := 5) (by omega) (by omega) s2 (l ++ [some ((ys ++ [y]).map .int)])
      have hlen : ys.length < 16777210 := by
        have := (List.getElem?_eq_some_iff.mp hi).1
        rw [rangeL_len] at this
        omega
      by_cases hw : w = 0
      · subst hw
        have e4 : ixD (cellD (l.length + 1)) (.int (-1)) (cup s3 :: (l ++ [some ((ys ++ [y]).map .int)])) = .ok (.int y) (cup s3 :: (l ++ [some ((ys ++ [y]).map .int)])) := ix_end1 _ _ _ _ _ (by rw [List.map_append]; exact atI_last _ _)
        have e5 : appD (cellD (l.length + 1)) (.int y) (cup s3 :: (l ++ [some ((ys ++ [y]).map .int)])) = .ok .none (cup s3 :: (l ++ [some ((ys ++ [y]).map .int ++ [.int y])])) := app_end1 _ _ _ _ (by simp; omega) (lay_int _)
        refine ⟨[some (cellD 0), some (.int many), some (.int low), some (.int wide), some (cellD (l.length + 1)), none], cup s3 :: (l ++ [some ((ys ++ [y]).map .int ++ [.int y])]), ?_, s3, ys ++ [y], y, none, rfl, by simp, by simp [hl], fun x hx => ?_⟩
        · simp only [List.map_append, List.map_cons, List.map_nil] at e3 e4 e5
          simp [mt_end1, e3, e4, e5]
        · rcases List.mem_append.mp hx with hx | hx
          · exact hy x hx
          · rw [List.mem_singleton.mp hx]; exact hy y (by simp)
      · obtain ⟨z, s4, z0, z1, e4⟩ := roll_at hr hd k h3 (by omega) s3 (l ++ [some ((ys ++ [y]).map .int)])
        have e5 : appD (cellD (l.length + 1)) (.int (low + z)) (cup s4 :: (l ++ [some ((ys ++ [y]).map .int)])) = .ok .none (cup s4 :: (l ++ [some ((ys ++ [y]).map .int ++ [.int (low + z)])])) := app_end1 _ _ _ _ (by simp; omega) (lay_int _)
        refine ⟨[some (cellD 0), some (.int many), some (.int low), some (.int wide), some (cellD (l.length + 1)), none], cup s4 :: (l ++ [some ((ys ++ [y]).map .int ++ [.int (low + z)])]), ?_, s4, ys ++ [y], low + z, none, rfl, by simp, by simp [hl], fun x hx => ?_⟩
        · simp only [List.map_append, List.map_cons, List.map_nil] at e3 e4 e5
          simp [mt_end1, e3, hw, e4, e5]
        · rcases List.mem_append.mp hx with hx | hx
          · exact hy x hx
          · rw [List.mem_singleton.mp hx]; omega)
  refine ⟨ys ++ [y], s2, ?_, hy, ?_⟩
  · rw [rangeL_len] at hl
    simp
    omega
  · rw [run_at hg (k + 1) rfl]
    have e6 := frz_end1 (cup s2) l ((ys ++ [y]).map .int) [some (cellD 0), some (.int many), some (.int low), some (.int wide), some (cellD (l.length + 1)), t] 4 rfl
    have e7 : ∀ c, endR false (cup st :: l) (.ok (.rt (.tuple ((ys ++ [y]).map .int))) c) = .ok (.tuple ((ys ++ [y]).map .int)) (c.take (l.length + 1)) := fun c => endR_rt (by simp)
    simp only [List.map_append, List.map_cons, List.map_nil] at e2 e6 e7
    simp [lineD, e1, er, e2, e6, e7]
end KH

/-! KH: turns of a law. -/
namespace KH
open PySem PySem.Spec PyProof.Rows L2
/-- it goes on, and I holds -/
def Done (r : Res Fl) (I : Env → CS → Prop) : Prop := match r with
  | .ok (.nx e) c => I e c
  | _ => False
@[simp] theorem done_nx (e : Env) (c : CS) (I : Env → CS → Prop) : Done (.ok (.nx e) c) I = I e c := rfl
theorem Done.ex {r : Res Fl} {I : Env → CS → Prop} (h : Done r I) : ∃ e c, r = .ok (.nx e) c ∧ I e c := by
  cases r with
  | ok fl c =>
    cases fl with
    | nx e => exact ⟨e, c, rfl, h⟩
    | rt d => exact h.elim
  | _ => exact h.elim
theorem forL_done {tg : Tg} {body : Env → M Fl} (I : Nat → Env → CS → Prop) {ds : List D} {env : Env} {cs : CS} (h : I 0 env cs)
    (hb : ∀ (i : Nat) (d : D) (env : Env) (cs : CS), ds[i]? = some d → I i env cs → ∃ e1, setTg tg d env = some e1 ∧ Done (body e1 cs) (I (i + 1))) : ∃ e c, forL tg body ds env cs = .ok (.nx e) c ∧ I ds.length e c := by
  obtain ⟨e, c, h1, h2⟩ := forL_inv I ds 0 env cs h fun i d env cs _ hd hI => by
    obtain ⟨e1, q1, q2⟩ := hb i d env cs hd hI
    obtain ⟨e2, c2, q3, q4⟩ := q2.ex
    exact ⟨e1, q1, e2, c2, q3, q4⟩
  exact ⟨e, c, h1, by rw [Nat.zero_add] at h2; exact h2⟩
/-- the turns of a law: slot 0 the script, slot 1 the cup -/
def Turn (n : Nat) (x : D) (env : Env) (cs : CS) : Prop := env.length = n ∧ env[0]? = some (some x) ∧ env[1]? = some (some (cellD 0)) ∧ ∃ s, cs = [cup s]
theorem same_ok {p : Prg} {f : Nat} (hd : p.defs[f]? = some (sameD f)) (k : Nat) (d : D) (h : szN 4 d = true) (cs : CS) : run p (k + 9) f [d, d] cs = .ok (.bool true) cs := same_at hd 4 k d h cs
end KH

/-! KH: loops that put things behind a list; order of data. -/
namespace KH
open PySem PySem.Spec PyProof.Rows L2
/-- each turn puts g d behind the list that C says -/
theorem forL_acc {tg : Tg} {body : Env → M Fl} (E : Env → Prop) (C : List D → CS) (g : D → List D) (w : Nat) : ∀ (ds : List D) (env : Env) (acc : List D), E env → (∀ d ∈ ds, (g d).length ≤ w) → acc.length + ds.length * w ≤ 16000000 →
    (∀ d ∈ ds, ∀ (env : Env) (acc : List D), E env → acc.length ≤ 16000000 → ∃ e1, setTg tg d env = some e1 ∧ ∃ env', body e1 (C acc) = .ok (.nx env') (C (acc ++ g d)) ∧ E env') →
    ∃ env', forL tg body ds env (C acc) = .ok (.nx env') (C (acc ++ ds.flatMap g)) ∧ E env'
  | [], env, acc, h, _, _, _ => ⟨env, by rw [List.flatMap_nil, List.append_nil]; rfl, h⟩
  | d :: ds, env, acc, h, hw, hl, hb => by
    have hl' : acc.length + (ds.length * w + w) ≤ 16000000 := by
      rw [List.length_cons, Nat.succ_mul] at hl
      exact hl
    obtain ⟨e1, h1, env', h2, h3⟩ := hb d List.mem_cons_self env acc h (by omega)
    have hg := hw d List.mem_cons_self
    obtain ⟨env2, h4, h5⟩ := forL_acc E C g w ds env' (acc ++ g d) h3 (fun x hx => hw x (List.mem_cons_of_mem _ hx)) (by rw [List.length_append]; omega) fun x hx => hb x (List.mem_cons_of_mem _ hx)
    refine ⟨env2, ?_, h5⟩
    rw [forL_cons]
    unfold setTgF
    rw [h1]
    show seqR (body e1 (C acc)) _ = _
    rw [h2, seqR_nx, h4, List.flatMap_cons, List.append_assoc]
/-- a loop that changes nothing but its own names, and never leaves -/
theorem forL_same {tg : Tg} {body : Env → M Fl} (E : Env → Prop) (cs : CS) {ds : List D} {env : Env} (h : E env)
    (hb : ∀ d ∈ ds, ∀ (env : Env), E env → ∃ e1, setTg tg d env = some e1 ∧ ∃ env', body e1 cs = .ok (.nx env') cs ∧ E env') : ∃ env', forL tg body ds env cs = .ok (.nx env') cs ∧ E env' := by
  obtain ⟨env', h1, h2⟩ := forL_acc (tg := tg) (body := body) E (fun _ => cs) (fun _ => []) 0 ds env [] h (fun _ _ => Nat.le_refl _) (by simp) fun d hd env acc hE _ => hb d hd env hE
  exact ⟨env', h1, h2⟩
/-- where a loop looks for the first d with f d, and gives it back -/
theorem forL_find {tg : Tg} {body : Env → M Fl} (E : Env → Prop) (cs : CS) (f : D → Option D) : ∀ (ds : List D) (env : Env), E env →
    (∀ d ∈ ds, ∀ (env : Env), E env → ∃ e1, setTg tg d env = some e1 ∧ match f d with
      | some r => body e1 cs = .ok (.rt r) cs
      | none => ∃ env', body e1 cs = .ok (.nx env') cs ∧ E env') →
    match ds.findSome? f with
      | some r => forL tg body ds env cs = .ok (.rt r) cs
      | none => ∃ env', forL tg body ds env cs = .ok (.nx env') cs ∧ E env'
  | [], env, h, _ => ⟨env, rfl, h⟩
  | d :: ds, env, h, hb => by
    obtain ⟨e1, h1, h2⟩ := hb d List.mem_cons_self env h
    have ih := fun env' h' => forL_find E cs f ds env' h' fun x hx => hb x (List.mem_cons_of_mem _ hx)
    have e0 : forL tg body (d :: ds) env cs = seqR (body e1 cs) fun e2 c => forL tg body ds e2 c := by
      rw [forL_cons]
      unfold setTgF
      rw [h1]
    rw [List.findSome?_cons]
    cases hf : f d with
    | some r =>
      rw [hf] at h2
      show forL tg body (d :: ds) env cs = _
      rw [e0, h2]
      rfl
    | none =>
      rw [hf] at h2
      obtain ⟨env', h3, h4⟩ := h2
      have := ih env' h4
      rw [e0, h3]
      exact this
end KH

/-! KH: what sorting gives. -/
namespace KH
open PySem PySem.Spec PyProof.Rows L2
theorem dle_trans (a b c : D) (h1 : dleD a b = true) (h2 : dleD b c = true) : dleD a c = true := by
  unfold dleD at *
  rw [Bool.not_eq_true'] at *
  cases e : PySem.W.dataLt c a with
  | false => rfl
  | true =>
    rcases lex_negTrans (O := PyProof.Rows.itemOrd) _ (PySem.W.keyToks b) _ e with q | q
    · rw [show PySem.W.dataLt c b = true from q] at h2; cases h2
    · rw [show PySem.W.dataLt b a = true from q] at h1; cases h1
theorem dlt_asymm {a b : D} (h : PySem.W.dataLt a b = true) : PySem.W.dataLt b a = false := by
  cases e : PySem.W.dataLt b a with
  | false => rfl
  | true =>
    have := lex_trans (O := PyProof.Rows.itemOrd) _ _ _ h e
    rw [lex_irrefl] at this
    cases this
theorem dle_total (a b : D) : (dleD a b || dleD b a) = true := by
  unfold dleD
  cases e : PySem.W.dataLt b a with
  | false => rfl
  | true => rw [dlt_asymm e]; rfl
/-- sorted is the strictly rising one of the same members -/
theorem sort_to {l m : List D} (p : l.Perm m) (s : m.Pairwise fun a b => PySem.W.dataLt a b = true) : l.mergeSort dleD = m := by
  refine List.Perm.eq_of_pairwise (le := fun a b => dleD a b = true) ?_ (List.pairwise_mergeSort dle_trans dle_total l) (s.imp fun h => ?_) ((List.mergeSort_perm l dleD).trans p)
  · intro a b ha hb h1 h2
    have ha : a ∈ m := p.mem_iff.mp (List.mem_mergeSort.mp ha)
    obtain ⟨i, hi, rfl⟩ := List.getElem_of_mem ha
    obtain ⟨j, hj, rfl⟩ := List.getElem_of_mem hb
    have hp := List.pairwise_iff_getElem.mp s
    unfold dleD at h1 h2
    rw [Bool.not_eq_true'] at h1 h2
    rcases Nat.lt_trichotomy i j with c | c | c
    · rw [hp i j hi hj c] at h2; cases h2
    · subst c; rfl
    · rw [hp j i hj hi c] at h1; cases h1
  · unfold dleD
    rw [dlt_asymm h]
    rfl
theorem dlt_ints (xs ys : List Int) : PySem.W.dataLt (.tuple (xs.map .int)) (.tuple (ys.map .int)) = decide (xs < ys) := by
  rw [PySem.W.dataLt_tuple]
  exact PySem.W.dataLt_ints xs ys
@[simp] theorem alike_ints : ∀ (xs ys : List Int), PySem.W.alikeAll (xs.map .int) (ys.map .int) = true
  | [], _ => by simp [PySem.W.alikeAll]
  | x :: xs, [] => by simp [PySem.W.alikeAll]
  | x :: xs, y :: ys => by simp [PySem.W.alikeAll, PySem.W.alike, alike_ints xs ys]
/-- sorted(list of non-empty tuples of ints) -/
theorem sorted_tups (cs : CS) {T U : List (List Int)} (h : ∀ t ∈ T, t ≠ []) (p : T.Perm U) (s : U.Pairwise (· < ·)) :
    Blt.sorted.fn [.list (T.map fun t => .tuple (t.map .int))] cs = .ok (.list (U.map fun t => .tuple (t.map .int))) cs := by
  have h1 : allAlikeB (T.map fun t => PyData.tuple (t.map .int)) = true := by
    unfold allAlikeB
    simp [PySem.W.alike]
  have h2 : sortableB (T.map fun t => PyData.tuple (t.map .int)) = true := by
    unfold sortableB
    rw [Bool.or_eq_true, Bool.or_eq_true]
    refine .inl (.inl ?_)
    rw [List.all_map, List.all_eq_true]
    intro t ht
    have := h t ht
    cases t with
    | nil => exact absurd rfl this
    | cons x t => rfl
  have h3 : SeqAt.shaped (.list (T.map fun t => PyData.tuple (t.map .int))) = true := shaped_wd (by simp)
  show (if (allAlikeB (T.map fun t => PyData.tuple (t.map .int)) && sortableB (T.map fun t => PyData.tuple (t.map .int)) && SeqAt.shaped (.list (T.map fun t => PyData.tuple (t.map .int)))) = true then Res.ok (PyData.list ((T.map fun t => PyData.tuple (t.map .int)).mergeSort dleD)) cs else .stuck) = _
  rw [h1, h2, h3, sort_to (p.map _)]
  · rfl
  · rw [List.pairwise_map]
    exact s.imp fun h => by rw [dlt_ints]; exact decide_eq_true h
end KH

/-! KH: more reckoning: zip kept in a name, in, not in. -/
namespace KH
open PySem PySem.Spec PyProof.Rows L2
def zallR (k : List D → CS → Res (List D)) (x y : D) (c : CS) : Res Fl := match x, y with
  | .tuple xs, .tuple ys => (k (pairsL xs ys) c).bd fun zs c => (Blt.all.fn [.list zs] c).bd fun b c => (notD b c).bd fun d c => .ok (.rt d) c
  | _, _ => .stuck
@[simp] theorem zallR_t (k : List D → CS → Res (List D)) (xs ys : List D) (c : CS) : zallR k (.tuple xs) (.tuple ys) c = (k (pairsL xs ys) c).bd fun zs c => (Blt.all.fn [.list zs] c).bd fun b c => (notD b c).bd fun d c => .ok (.rt d) c := rfl
theorem zipAll_eq (k : List D → M (List D)) (x y : D) (c : CS) : zipAll k [x, y] c = zallR (fun ds c => k ds c) x y c := by
  unfold zipAll zallR
  cases x <;> cases y <;> first | rfl | (rw [mb_bd]; congr 1)
@[simp] theorem eSs_zall (R : Nat → List D → M D) (T : Tab) (env : Env) (cs : CS) (i : Nat) (a b : E) (vs : List Nat) (tg : Tg) (e : E) : evSs R T (.zall i a b vs tg e) env cs =
    if freeAt env i = true then (evE R T a env cs).bd fun x c => (evE R T b env c).bd fun y c => zallR (fun ds c => mapR (fun d c => setTgR tg d (wipeE env vs) fun e' => quiet (evE R T e e' c)) ds c) x y c else .stuck := by
  show evZall i (evCons (evE R T a) (evCons (evE R T b) evNil)) vs tg (evE R T e) env cs = _
  unfold evZall
  by_cases h : freeAt env i = true
  · rw [if_pos h, if_pos h, mb_bd, eEs_2, bd_bd]
    congr 1
    funext x c
    rw [bd_bd]
    congr 1
    funext y c
    rw [bd_ok, zipAll_eq]
    congr 1
    funext ds c
    rw [compL_map]
  · rw [if_neg h, if_neg h]
    rfl
@[simp] theorem free_0 (env : Env) : freeAt (none :: env) 0 = true := rfl
@[simp] theorem free_s (o : Option D) (env : Env) (i : Nat) : freeAt (o :: env) (i + 1) = freeAt env i := rfl
theorem in_ti (cs : CS) (d : Int) (S : List Int) : Cmp1.in_.fn (.int d) (.tuple (S.map .int)) cs = .ok (.bool (S.any fun z => decide (z = d))) cs := by
  show inLT false (drf (.int d) cs) (S.map .int) (SeqAt.shaped (drf (.int d) cs) && SeqAt.shaped (.tuple (S.map .int))) cs = _
  rw [wd_dr (wd_int 0 d), shaped_wd (wd_int _ _), shaped_wd (d := .tuple (S.map .int)) (by simp)]
  show Res.ok (PyData.bool ((S.map PyData.int).any fun z => PyData.eqv z (.int d))) cs = _
  rw [List.any_map]
  have e : ((fun z => PyData.eqv z (.int d)) ∘ PyData.int) = fun z => decide (z = d) := by
    funext z
    exact eqv_int z d
  rw [e]
theorem in_li (cs : CS) (d : Int) (S : List Int) : Cmp1.in_.fn (.int d) (.list (S.map .int)) cs = .ok (.bool (S.any fun z => decide (z = d))) cs := by
  show inLT false (drf (.int d) cs) (S.map .int) (SeqAt.shaped (drf (.int d) cs) && SeqAt.shaped (.list (S.map .int))) cs = _
  rw [wd_dr (wd_int 0 d), shaped_wd (wd_int _ _), shaped_wd (d := .list (S.map .int)) (by simp)]
  show Res.ok (PyData.bool ((S.map PyData.int).any fun z => PyData.eqv z (.int d))) cs = _
  rw [List.any_map]
  have e : ((fun z => PyData.eqv z (.int d)) ∘ PyData.int) = fun z => decide (z = d) := by
    funext z
    exact eqv_int z d
  rw [e]
theorem nin_ti (cs : CS) (d : Int) (S : List Int) : Cmp1.nin.fn (.int d) (.tuple (S.map .int)) cs = .ok (.bool (!S.any fun z => decide (z = d))) cs := by
  show inLT true (drf (.int d) cs) (S.map .int) (SeqAt.shaped (drf (.int d) cs) && SeqAt.shaped (.tuple (S.map .int))) cs = _
  rw [wd_dr (wd_int 0 d), shaped_wd (wd_int _ _), shaped_wd (d := .tuple (S.map .int)) (by simp)]
  show Res.ok (PyData.bool (!(S.map PyData.int).any fun z => PyData.eqv z (.int d))) cs = _
  rw [List.any_map]
  have e : ((fun z => PyData.eqv z (.int d)) ∘ PyData.int) = fun z => decide (z = d) := by
    funext z
    exact eqv_int z d
  rw [e]
theorem nin_li (cs : CS) (d : Int) (S : List Int) : Cmp1.nin.fn (.int d) (.list (S.map .int)) cs = .ok (.bool (!S.any fun z => decide (z = d))) cs := by
  show inLT true (drf (.int d) cs) (S.map .int) (SeqAt.shaped (drf (.int d) cs) && SeqAt.shaped (.list (S.map .int))) cs = _
  rw [wd_dr (wd_int 0 d), shaped_wd (wd_int _ _), shaped_wd (d := .list (S.map .int)) (by simp)]
  show Res.ok (PyData.bool (!(S.map PyData.int).any fun z => PyData.eqv z (.int d))) cs = _
  rw [List.any_map]
  have e : ((fun z => PyData.eqv z (.int d)) ∘ PyData.int) = fun z => decide (z = d) := by
    funext z
    exact eqv_int z d
  rw [e]
end KH

/-! KH: reckoning with typed data: cells, items, slices, loops. -/
namespace KH
open PySem PySem.Spec PyProof.Rows L2
/-! ### cells -/
def getC (n : Nat) (cs : CS) : Option (List D) := match cs[n]? with
  | some o => o
  | none => none
theorem getC_0 (o : Option (List D)) (L : CS) : getC 0 (o :: L) = o := id rfl
theorem getC_s (o : Option (List D)) (L : CS) (j : Nat) : getC (j + 1) (o :: L) = getC j L := id rfl
theorem getC_aj (l L : CS) (j : Nat) : getC (l.length + j) (l ++ L) = getC j L := by
  unfold getC
  rw [List.getElem?_append_right (by omega), show l.length + j - l.length = j by omega]
theorem getC_a (l L : CS) : getC l.length (l ++ L) = getC 0 L := getC_aj l L 0
theorem setC_aj (l L : CS) (j : Nat) (v : Option (List D)) : (l ++ L).set (l.length + j) v = l ++ L.set j v := by
  rw [List.set_append_right _ _ (by omega), show l.length + j - l.length = j by omega]
theorem setC_a (l L : CS) (v : Option (List D)) : (l ++ L).set l.length v = l ++ L.set 0 v := setC_aj l L 0 v
def appR (n : Nat) (y : D) (o : Option (List D)) (cs : CS) : Res D := match o with
  | some ds => if (decide (ds.length < 16777216) && y.canLay0) = true then .ok .none (cs.set n (some (ds ++ [y]))) else .stuck
  | none => .stuck
theorem app_c (n : Nat) (y : D) (cs : CS) : appD (cellD n) y cs = appR n y (getC n cs) cs := by
  unfold appD appR getC
  rw [cellOf_D]
  show (match cs[n]? with | some (some ds) => _ | _ => _) = _
  rcases cs[n]? with _ | _ | ds <;> rfl
theorem appR_s (n : Nat) (y : D) (ds : List D) (cs : CS) (h : ds.length < 16777216) (hy : wd y = true) : appR n y (some ds) cs = .ok .none (cs.set n (some (ds ++ [y]))) := by
  simp [appR, h, canLay_wd hy]
def popR (n : Nat) (o : Option (List D)) (cs : CS) : Res D := match o with
  | some ds => (match ds[ds.length - 1]? with
    | some y => .ok y (cs.set n (some ds.dropLast))
    | none => .stuck)
  | none => .stuck
theorem pop_c (n : Nat) (cs : CS) : popD (cellD n) cs = popR n (getC n cs) cs := by
  unfold popD popR getC
  rw [cellOf_D]
  show (match cs[n]? with | some (some ds) => _ | _ => _) = _
  rcases cs[n]? with _ | _ | ds <;> rfl
theorem popR_s (n : Nat) (y : D) (ds : List D) (cs : CS) : popR n (some (ds ++ [y])) cs = .ok y (cs.set n (some ds)) := by
  unfold popR
  simp
def setR (n : Nat) (i : Int) (y : D) (o : Option (List D)) (cs : CS) : Res Unit := match o with
  | some ds => (match ixN ds.length i with
    | some j => if y.canLay0 = true then .ok () (cs.set n (some (ds.set j y))) else .stuck
    | none => .stuck)
  | none => .stuck
theorem set_c (n : Nat) (i : Int) (y : D) (cs : CS) : setD (cellD n) (.int i) y cs = setR n i y (getC n cs) cs := by
  unfold setD setR getC
  rw [cellOf_D]
  show (match cs[n]? with | some (some ds) => _ | _ => _) = _
  rcases cs[n]? with _ | _ | ds <;> rfl
theorem setR_s (n : Nat) (i : Int) (y : D) (ds : List D) (cs : CS) (h0 : 0 ≤ i) (h1 : i < ds.length) (hy : wd y = true) : setR n i y (some ds) cs = .ok () (cs.set n (some (ds.set i.toNat y))) := by
  have : ixN ds.length i = some i.toNat := by unfold ixN; rw [if_pos h0, if_pos (by omega)]
  simp [setR, this, canLay_wd hy]
def augR (n : Nat) (es : Option (List D)) (o : Option (List D)) (cs : CS) : Res D := match o, es with
  | some ds, some es => if (decide (ds.length + es.length ≤ 16777216) && PyData.canLayAll0 es) = true then .ok (cellD n) (cs.set n (some (ds ++ es))) else .stuck
  | _, _ => .stuck
theorem aug_c (n : Nat) (y : D) (cs : CS) : augD (cellD n) y cs = augR n (lstOf y cs) (getC n cs) cs := by
  have h : cellOf (cellD n) = some n := cellOf_D n
  have hi : ∀ i, cellD n ≠ .int i := fun i z => by cases z
  generalize hc : cellD n = c at *
  unfold augD augR getC
  split
  · exact absurd rfl (hi _)
  · rw [h, hc]
    rcases e : cs[n]? with _ | _ | ds <;> rcases e2 : lstOf y cs with _ | es <;> simp [e]
theorem augR_s (n : Nat) (ds es : List D) (cs : CS) (h : ds.length + es.length ≤ 16777216) (hy : es.all (wdN 8) = true) : augR n (some es) (some ds) cs = .ok (cellD n) (cs.set n (some (ds ++ es))) := by
  simp [augR, h, canLays_wd hy]
theorem aug_i (i j : Int) (cs : CS) : augD (.int i) (.int j) cs = .ok (.int (i + j)) cs := id rfl
theorem lst_c (n : Nat) (cs : CS) : lstOf (cellD n) cs = getC n cs := by
  show (match cs[((n : Nat) : Int).toNat]? with | some (some ds) => some ds | _ => none) = _
  rw [Int.toNat_natCast]
  unfold getC
  rcases cs[n]? with _ | _ | ds <;> rfl
theorem mt_c (n : Nat) (cs : CS) (r : Res D) (ds : List D) (h : getC n cs = some ds) : mtR (cellD n) cs r = r := by
  unfold mtR
  rw [lst_c, h]
def mtO (o : Option (List D)) (r : Res D) : Res D := match o with
  | some _ => r
  | none => .stuck
theorem mt_o (n : Nat) (cs : CS) (r : Res D) : mtR (cellD n) cs r = mtO (getC n cs) r := by
  unfold mtR mtO
  first | (rw [lst_c]; done) | (rw [lst_c]; cases getC n cs <;> rfl)
theorem mtO_s (ds : List D) (r : Res D) : mtO (some ds) r = r := id rfl
def frzR (i n : Nat) (env : Env) (o : Option (List D)) (cs : CS) : Res Env := match o with
  | some ds => .ok (env.set i (some (.list ds))) (cs.set n none)
  | none => .stuck
def slotD (env : Env) (i : Nat) : Option D := match env[i]? with
  | some o => o
  | none => none
theorem slot_0 (o : Option D) (env : Env) : slotD (o :: env) 0 = o := id rfl
theorem slot_s (o : Option D) (env : Env) (i : Nat) : slotD (o :: env) (i + 1) = slotD env i := id rfl
def frzO (i : Nat) (env : Env) (cs : CS) : Option D → Res Env
  | some d => (match cellOf d with
    | some n => frzR i n env (getC n cs) cs
    | none => .stuck)
  | none => .stuck
theorem frz_o (i : Nat) (env : Env) (cs : CS) : frzE i env cs = frzO i env cs (slotD env i) := by
  unfold frzE frzO slotD
  rcases env[i]? with _ | _ | d
  · rfl
  · rfl
  · show (match cellOf d with | some n => _ | none => _) = (match cellOf d with | some n => _ | none => _)
    rcases cellOf d with _ | n
    · rfl
    · show (match cs[n]? with | some (some ds) => _ | _ => _) = frzR i n env (getC n cs) cs
      unfold frzR getC
      rcases cs[n]? with _ | _ | ds <;> rfl
theorem frzO_c (i n : Nat) (env : Env) (cs : CS) : frzO i env cs (some (cellD n)) = frzR i n env (getC n cs) cs := by
  show (match cellOf (cellD n) with | some n => frzR i n env (getC n cs) cs | none => .stuck) = _
  simp only [cellOf_D]
theorem frzR_s (i n : Nat) (env : Env) (ds : List D) (cs : CS) : frzR i n env (some ds) cs = .ok (env.set i (some (.list ds))) (cs.set n none) := id rfl
/-! ### items -/
theorem ix_ti {α : Type} [Inhabited α] (f : α → D) (xs : List α) (i : Int) (cs : CS) (h0 : 0 ≤ i) (h1 : i < xs.length) : ixD (.tuple (xs.map f)) (.int i) cs = .ok (f (xs.getD i.toNat default)) cs := by
  refine ix_t cs _ _ ?_
  obtain ⟨n, rfl⟩ := Int.eq_ofNat_of_zero_le h0
  refine KH.atI_nat ?_
  have hn : n < xs.length := by omega
  rw [List.getElem?_map, Int.toNat_natCast, List.getD_eq_getElem?_getD, List.getElem?_eq_getElem hn]
  rfl
theorem ix_li {α : Type} [Inhabited α] (f : α → D) (xs : List α) (i : Int) (cs : CS) (h0 : 0 ≤ i) (h1 : i < xs.length) : ixD (.list (xs.map f)) (.int i) cs = .ok (f (xs.getD i.toNat default)) cs := by
  refine ix_l cs _ _ ?_
  obtain ⟨n, rfl⟩ := Int.eq_ofNat_of_zero_le h0
  refine KH.atI_nat ?_
  have hn : n < xs.length := by omega
  rw [List.getElem?_map, Int.toNat_natCast, List.getD_eq_getElem?_getD, List.getElem?_eq_getElem hn]
  rfl
theorem atI_neg1 {α : Type} [Inhabited α] (xs : List α) (h : 0 < xs.length) : atI xs (-1) = some (xs.getLastD default) := by
  unfold atI ixN
  rw [if_neg (by decide), if_pos (by omega)]
  show xs[(-1 + (xs.length : Int)).toNat]? = _
  rw [show (-1 + (xs.length : Int)).toNat = xs.length - 1 by omega, ← List.getLast?_eq_getElem?]
  cases xs with
  | nil => simp at h
  | cons x l => rw [List.getLast?_eq_some_getLast (by simp)]; rfl
theorem ix_tl {α : Type} [Inhabited α] (f : α → D) (xs : List α) (cs : CS) (h : 0 < xs.length) : ixD (.tuple (xs.map f)) (.int (-1)) cs = .ok (f (xs.getLastD default)) cs := by
  refine ix_t cs _ _ ?_
  have := atI_neg1 xs h
  unfold atI at this ⊢
  rw [List.length_map]
  revert this
  cases ixN xs.length (-1) with
  | none => intro h; cases h
  | some n => intro h; show (xs.map f)[n]? = _; rw [List.getElem?_map, show xs[n]? = _ from h]; rfl
theorem ix_ll {α : Type} [Inhabited α] (f : α → D) (xs : List α) (cs : CS) (h : 0 < xs.length) : ixD (.list (xs.map f)) (.int (-1)) cs = .ok (f (xs.getLastD default)) cs := by
  refine ix_l cs _ _ ?_
  have := atI_neg1 xs h
  unfold atI at this ⊢
  rw [List.length_map]
  revert this
  cases ixN xs.length (-1) with
  | none => intro h; cases h
  | some n => intro h; show (xs.map f)[n]? = _; rw [List.getElem?_map, show xs[n]? = _ from h]; rfl
theorem ix_t0 (a : D) (l : List D) (cs : CS) : ixD (.tuple (a :: l)) (.int 0) cs = .ok a cs := ix_t cs _ _ (KH.atI_nat (n := 0) rfl)
theorem ix_t1 (a b : D) (l : List D) (cs : CS) : ixD (.tuple (a :: b :: l)) (.int 1) cs = .ok b cs := ix_t cs _ _ (KH.atI_nat (n := 1) rfl)
theorem ix_t2 (a b c : D) (l : List D) (cs : CS) : ixD (.tuple (a :: b :: c :: l)) (.int 2) cs = .ok c cs := ix_t cs _ _ (KH.atI_nat (n := 2) rfl)
theorem ix_l0 (a : D) (l : List D) (cs : CS) : ixD (.list (a :: l)) (.int 0) cs = .ok a cs := ix_l cs _ _ (KH.atI_nat (n := 0) rfl)
theorem ix_l1 (a b : D) (l : List D) (cs : CS) : ixD (.list (a :: b :: l)) (.int 1) cs = .ok b cs := ix_l cs _ _ (KH.atI_nat (n := 1) rfl)
theorem ix_l2 (a b c : D) (l : List D) (cs : CS) : ixD (.list (a :: b :: c :: l)) (.int 2) cs = .ok c cs := ix_l cs _ _ (KH.atI_nat (n := 2) rfl)
def ixO (i : Int) (o : Option (List D)) (cs : CS) : Res D := match o with
  | some ds => ixD (.list ds) (.int i) cs
  | none => .stuck
theorem ix_c (n : Nat) (i : Int) (cs : CS) : ixD (cellD n) (.int i) cs = ixO i (getC n cs) cs := by
  have : ixD (cellD n) (.int i) cs = (match lstOf (cellD n) cs with | some xs => atD xs i id cs | none => .stuck) := rfl
  rw [this, lst_c]
  unfold ixO
  cases getC n cs <;> rfl
theorem ixO_s (i : Int) (ds : List D) (cs : CS) : ixO i (some ds) cs = ixD (.list ds) (.int i) cs := id rfl
/-! ### slices -/
theorem cutL_map {α β : Type} (f : α → β) (xs : List α) (lo hi : Option Int) : cutL (xs.map f) lo hi = (cutL xs lo hi).map f := by
  unfold cutL
  rw [List.length_map, List.map_take, List.map_drop]
theorem cutL_f {α : Type} (l : List α) (i : Int) (h : 0 ≤ i) : cutL l (some i) none = l.drop i.toNat := by
  obtain ⟨n, rfl⟩ := Int.eq_ofNat_of_zero_le h
  unfold cutL
  rw [HT.sIx_none, HT.sIx_nat, Int.toNat_natCast]
  rcases Nat.le_total n l.length with h | h
  · rw [Nat.min_eq_left h]
    exact List.take_of_length_le (by simp)
  · rw [Nat.min_eq_right h, List.drop_of_length_le h, List.drop_of_length_le (Nat.le_refl _), List.take_nil]
theorem cutL_t {α : Type} (l : List α) (i : Int) (h : 0 ≤ i) : cutL l none (some i) = l.take i.toNat := by
  obtain ⟨n, rfl⟩ := Int.eq_ofNat_of_zero_le h
  unfold cutL
  rw [HT.sIx_none, HT.sIx_nat, Int.toNat_natCast, List.drop_zero, Nat.sub_zero]
  rcases Nat.le_total n l.length with h | h
  · rw [Nat.min_eq_left h]
  · rw [Nat.min_eq_right h, List.take_of_length_le h, List.take_of_length_le (Nat.le_refl _)]
theorem cutL_ft {α : Type} (l : List α) (i j : Int) (h : 0 ≤ i) (h2 : 0 ≤ j) : cutL l (some i) (some j) = (l.take j.toNat).drop i.toNat := by
  obtain ⟨n, rfl⟩ := Int.eq_ofNat_of_zero_le h
  obtain ⟨m, rfl⟩ := Int.eq_ofNat_of_zero_le h2
  unfold cutL
  rw [HT.sIx_nat, HT.sIx_nat, Int.toNat_natCast, Int.toNat_natCast, List.drop_take]
  rcases Nat.le_total n l.length with h | h
  · rw [Nat.min_eq_left h]
    rcases Nat.le_total m l.length with h2 | h2
    · rw [Nat.min_eq_left h2]
    · rw [Nat.min_eq_right h2, List.take_of_length_le (by simp), List.take_of_length_le (by simp; omega)]
  · rw [Nat.min_eq_right h, List.drop_of_length_le h, List.drop_of_length_le (Nat.le_refl _), List.take_nil, List.take_nil]
theorem pairsL_map {α β : Type} (f : α → D) (g : β → D) (xs : List α) (ys : List β) : pairsL (xs.map f) (ys.map g) = (xs.zip ys).map fun p => .tuple [f p.1, g p.2] := by
  unfold pairsL
  rw [List.zip_map, List.map_map]
  rfl
theorem enumL_map {α : Type} (f : α → D) (xs : List α) : enumL (xs.map f) = xs.zipIdx.map fun p => .tuple [.int (p.2 : Nat), f p.1] := by
  unfold enumL
  rw [List.zipIdx_map, List.map_map]
  rfl
/-! ### ranges -/
theorem rng1N (cs : CS) (j : Int) (h : j ≤ 1000000) (h0 : -1000000 ≤ j) : range1D [.int j] cs = .ok ((List.range j.toNat).map fun (i : Nat) => .int (i : Int)) cs := by rw [rng1 cs j h0 h, rangeL_0]
theorem rng2N (cs : CS) (i j : Int) (h : 0 ≤ i) (h2 : i ≤ 1000000) (h3 : j ≤ 1000000) (h4 : -1000000 ≤ j) : range2D [.int i, .int j] cs = .ok ((List.range' i.toNat (j - i).toNat).map fun (q : Nat) => .int (q : Int)) cs := by
  rw [rng2 cs i j (by omega) h2 h4 h3]
  congr 1
  unfold rangeL
  rw [List.range_eq_range', ← Nat.add_zero i.toNat, ← List.map_add_range', List.map_map]
  refine List.map_congr_left fun q _ => ?_
  simp
  omega
/-! ### targets -/
theorem tg1 (i : Nat) (d : D) (env : Env) (k : Env → Res D) : setTgR (.nm i) d env k = k (env.set i (some d)) := id rfl
theorem tg2 (i j : Nat) (a b : D) (env : Env) (k : Env → Res D) : setTgR (.tp [i, j]) (.tuple [a, b]) env k = k ((env.set i (some a)).set j (some b)) := id rfl
theorem tg3 (i j l : Nat) (a b c : D) (env : Env) (k : Env → Res D) : setTgR (.tp [i, j, l]) (.tuple [a, b, c]) env k = k (((env.set i (some a)).set j (some b)).set l (some c)) := id rfl
theorem tgO1 (i : Nat) (d : D) (env : Env) (k : Env → Res (Option D)) : setTgO (.nm i) d env k = k (env.set i (some d)) := id rfl
theorem tgO2 (i j : Nat) (a b : D) (env : Env) (k : Env → Res (Option D)) : setTgO (.tp [i, j]) (.tuple [a, b]) env k = k ((env.set i (some a)).set j (some b)) := id rfl
theorem tgO3 (i j l : Nat) (a b c : D) (env : Env) (k : Env → Res (Option D)) : setTgO (.tp [i, j, l]) (.tuple [a, b, c]) env k = k (((env.set i (some a)).set j (some b)).set l (some c)) := id rfl
theorem tgF1 (i : Nat) (d : D) (env : Env) (k : Env → Res Fl) : setTgF (.nm i) d env k = k (env.set i (some d)) := id rfl
theorem tgF2 (i j : Nat) (a b : D) (env : Env) (k : Env → Res Fl) : setTgF (.tp [i, j]) (.tuple [a, b]) env k = k ((env.set i (some a)).set j (some b)) := id rfl
theorem tgF3 (i j l : Nat) (a b c : D) (env : Env) (k : Env → Res Fl) : setTgF (.tp [i, j, l]) (.tuple [a, b, c]) env k = k (((env.set i (some a)).set j (some b)).set l (some c)) := id rfl
theorem tgT2 (i j : Nat) (a b : D) (env : Env) (cs : CS) : setTR [i, j] (.tuple [a, b]) env cs = .ok (.nx ((env.set i (some a)).set j (some b))) cs := id rfl
theorem tgT3 (i j l : Nat) (a b c : D) (env : Env) (cs : CS) : setTR [i, j, l] (.tuple [a, b, c]) env cs = .ok (.nx (((env.set i (some a)).set j (some b)).set l (some c))) cs := id rfl
/-! ### loops -/
section
variable {α σ : Type} {tg : Tg} {body : Env → M Fl}
theorem forL_go (g : α → D) (I : List α → Env → CS → Prop) : ∀ (xs p0 : List α) (env : Env) (cs : CS), I p0 env cs →
    (∀ p x q e c, p0 ++ xs = p ++ x :: q → I p e c → ∃ e2 c2, setTgF tg (g x) e (fun e1 => body e1 c) = .ok (.nx e2) c2 ∧ I (p ++ [x]) e2 c2) → ∃ e c, forL tg body (xs.map g) env cs = .ok (.nx e) c ∧ I (p0 ++ xs) e c
  | [], p0, env, cs, h, _ => ⟨env, cs, rfl, by rw [List.append_nil]; exact h⟩
  | x :: xs, p0, env, cs, h, hb => by
    obtain ⟨e2, c2, h1, h2⟩ := hb p0 x xs env cs rfl h
    obtain ⟨e, c, h3, h4⟩ := forL_go g I xs (p0 ++ [x]) e2 c2 h2 fun p y q e c he hI => hb p y q e c (by rw [← he, List.append_assoc]; rfl) hI
    refine ⟨e, c, ?_, by rw [List.append_assoc] at h4; exact h4⟩
    rw [List.map_cons, forL_cons]
    unfold setTgF at h1 ⊢
    cases hs : setTg tg (g x) env with
    | none => rw [hs] at h1; cases h1
    | some e1 =>
      rw [hs] at h1
      show seqR (body e1 cs) _ = _
      rw [show body e1 cs = _ from h1]
      exact h3
/-- a loop by its invariant: what was taken, what is left -/
theorem for_inv (g : α → D) (I : List α → Env → CS → Prop) (xs : List α) (env : Env) (cs : CS) (h : I [] env cs)
    (hb : ∀ p x q e c, xs = p ++ x :: q → I p e c → ∃ e2 c2, setTgF tg (g x) e (fun e1 => body e1 c) = .ok (.nx e2) c2 ∧ I (p ++ [x]) e2 c2) : ∃ e c, forL tg body (xs.map g) env cs = .ok (.nx e) c ∧ I xs e c :=
  forL_go g I xs [] env cs h hb
/-- a loop that is a fold -/
theorem for_fold (g : α → D) (E : σ → Env) (C : σ → CS) (f : σ → α → σ) (xs : List α) (s : σ)
    (hb : ∀ p x q, xs = p ++ x :: q → setTgF tg (g x) (E (p.foldl f s)) (fun e1 => body e1 (C (p.foldl f s))) = .ok (.nx (E (f (p.foldl f s) x))) (C (f (p.foldl f s) x))) :
    forL tg body (xs.map g) (E s) (C s) = .ok (.nx (E (xs.foldl f s))) (C (xs.foldl f s)) := by
  obtain ⟨e, c, h1, h2, h3⟩ := for_inv (tg := tg) (body := body) g (fun p e c => e = E (p.foldl f s) ∧ c = C (p.foldl f s)) xs (E s) (C s) ⟨rfl, rfl⟩ fun p x q e c he hI => by
    obtain ⟨rfl, rfl⟩ := hI
    exact ⟨_, _, hb p x q he, by rw [List.foldl_append]; rfl, by rw [List.foldl_append]; rfl⟩
  rw [h1, h2, h3]
/-- a loop that puts g x behind a list -/
theorem for_app (g : α → D) (E : Env) (C : List D → CS) (w : Nat) (f : α → List D) (xs : List α) (acc : List D) (hl : acc.length + xs.length * w ≤ 16000000)
    (hb : ∀ x ∈ xs, ∀ acc : List D, acc.length + w ≤ 16000000 → (f x).length ≤ w ∧ setTgF tg (g x) E (fun e1 => body e1 (C acc)) = .ok (.nx E) (C (acc ++ f x))) :
    forL tg body (xs.map g) E (C acc) = .ok (.nx E) (C (acc ++ xs.flatMap f)) := by
  obtain ⟨e, c, h1, h2, h3, h4⟩ := for_inv (tg := tg) (body := body) g (fun p e c => e = E ∧ c = C (acc ++ p.flatMap f) ∧ (acc ++ p.flatMap f).length + (xs.length - p.length) * w ≤ 16000000) xs E (C acc) ⟨rfl, by simp, by simpa using hl⟩ fun p x q e c he hI => by
    obtain ⟨rfl, rfl, hI⟩ := hI
    have h5 : xs.length - p.length = q.length + 1 := by rw [he, List.length_append, List.length_cons]; omega
    have h6 : xs.length - (p ++ [x]).length = q.length := by rw [he, List.length_append, List.length_append, List.length_cons, List.length_cons, List.length_nil]; omega
    rw [h5, Nat.succ_mul] at hI
    obtain ⟨k1, k2⟩ := hb x (by rw [he]; simp) (acc ++ p.flatMap f) (by omega)
    refine ⟨_, _, k2, rfl, by rw [List.flatMap_append, List.append_assoc]; simp, ?_⟩
    rw [h6, List.flatMap_append]
    simp only [List.length_append, List.flatMap_cons, List.flatMap_nil, List.append_nil] at hI ⊢
    omega
  rw [h1, h2, h3]
theorem map_range_eq (n : Nat) (g : Nat → D) : (List.range n).map g = (List.range n).map g := rfl
end
/-- comprehensions: what each item gives, it being one of the list -/
theorem mapR_cg {α : Type} {f g : α → CS → Res D} {xs ys : List α} {cs : CS} (hx : xs = ys) (h : ∀ x ∈ ys, ∀ c, f x c = g x c) : mapR f xs cs = mapR g ys cs := by
  subst hx
  induction xs generalizing cs with
  | nil => rfl
  | cons x xs ih =>
    show (f x cs).bd _ = (g x cs).bd _
    rw [h x List.mem_cons_self]
    congr 1
    funext y c
    rw [ih fun z hz => h z (List.mem_cons_of_mem _ hz)]
theorem fltR_cg {α : Type} {f g : α → CS → Res (Option D)} {xs ys : List α} {cs : CS} (hx : xs = ys) (h : ∀ x ∈ ys, ∀ c, f x c = g x c) : fltR f xs cs = fltR g ys cs := by
  subst hx
  induction xs generalizing cs with
  | nil => rfl
  | cons x xs ih =>
    show (f x cs).bd _ = (g x cs).bd _
    rw [h x List.mem_cons_self]
    congr 1
    funext y c
    rw [ih fun z hz => h z (List.mem_cons_of_mem _ hz)]
theorem defI : (default : Int) = 0 := id rfl
abbrev TI (xs : List Int) : D := .tuple (xs.map .int)
abbrev LI (xs : List Int) : D := .list (xs.map .int)
theorem drop_m {α β : Type} (f : α → β) (n : Nat) (l : List α) : (l.map f).drop n = (l.drop n).map f := List.map_drop.symm
theorem take_m {α β : Type} (f : α → β) (n : Nat) (l : List α) : (l.map f).take n = (l.take n).map f := List.map_take.symm
theorem rev_m {α β : Type} (f : α → β) (l : List α) : (l.map f).reverse = (l.reverse).map f := List.map_reverse.symm
theorem app_m {α β : Type} (f : α → β) (l m : List α) : l.map f ++ m.map f = (l ++ m).map f := List.map_append.symm
theorem app_i1 (l : List Int) (x : Int) : l.map PyData.int ++ [.int x] = (l ++ [x]).map .int := by simp
theorem rev_t (xs : List D) (cs : CS) : revD (.tuple xs) cs = .ok (.tuple xs.reverse) cs := id rfl
theorem rev_l (xs : List D) (cs : CS) : revD (.list xs) cs = .ok (.list xs.reverse) cs := id rfl
theorem boxR_tw (xs : List D) (c : CS) (h : xs.all (wdN 8) = true) : boxR true (.ok xs c) = .ok (cellD c.length) (c ++ [some xs]) := by
  rw [boxR_t, if_pos (canLays_wd h)]
theorem wd_app (n : Nat) (xs ys : List D) : (xs ++ ys).all (wdN n) = (xs.all (wdN n) && ys.all (wdN n)) := List.all_append
theorem lay_of {d : D} (h : wd d = true) : d.canLay0 = true := canLay_wd h
theorem bd_ite' {α β : Type} (p : Prop) [Decidable p] (a b : Res α) (k : α → CS → Res β) : (if p then a else b).bd k = if p then a.bd k else b.bd k := bd_ite p a b k
end KH

/-! KH: more reckoning: what a call hands back, while, sums and greatest ones of typed lists. -/
namespace KH
open PySem PySem.Spec PyProof.Rows L2
/-! ### a cell handed back -/
def endO (o : Option (List D)) (c : CS) : Res D := match o with
  | some ds => .ok (.list ds) c
  | none => .stuck
theorem endO_s (ds : List D) (c : CS) : endO (some ds) c = .ok (.list ds) c := id rfl
theorem frzD_cell (b n : Nat) (cs : CS) (h : b ≤ n) : frzD b cs (cellD n) = (getC n cs).map .list := by
  have e : frzD b cs (cellD n) = (if n < b then some (cellD n) else match cs[n]? with | some (some ds) => some (PyData.list ds) | _ => none) := by
    show frzD b cs (.dict [(.int (Int.ofNat n), .none)]) = _
    unfold frzD
    rfl
  rw [e, if_neg (by omega)]
  unfold getC
  rcases cs[n]? with _ | _ | ds <;> rfl
theorem endR_cell (cs c2 : CS) (n : Nat) (h : cs.length ≤ n) : endR false cs (.ok (.rt (cellD n)) c2) = endO (getC n c2) (c2.take cs.length) := by
  show (match frzD cs.length c2 (cellD n) with | some d' => Res.ok d' (c2.take cs.length) | none => .stuck) = _
  rw [frzD_cell _ _ _ h]
  cases getC n c2 <;> rfl
theorem endR_c0 (cs : CS) (o : Option (List D)) (L : CS) : endR false cs (.ok (.rt (cellD cs.length)) (cs ++ o :: L)) = endO o cs := by
  rw [endR_cell _ _ _ (Nat.le_refl _), getC_a, getC_0, take_app]
theorem endR_cj (cs : CS) (j : Nat) (L : CS) : endR false cs (.ok (.rt (cellD (cs.length + j))) (cs ++ L)) = endO (getC j L) cs := by
  rw [endR_cell _ _ _ (by omega), getC_aj, take_app]
theorem endR_u0 (s s' : Option (List D)) (l : CS) (o : Option (List D)) (L : CS) : endR false (s :: l) (.ok (.rt (cellD (l.length + 1))) (s' :: (l ++ o :: L))) = endO o (s' :: l) := by
  rw [endR_cell _ _ _ (by simp), getC_s, getC_a, getC_0]
  simp
theorem endR_uj (s s' : Option (List D)) (l : CS) (j : Nat) (L : CS) : endR false (s :: l) (.ok (.rt (cellD (l.length + (j + 1)))) (s' :: (l ++ L))) = endO (getC j L) (s' :: l) := by
  rw [endR_cell _ _ _ (by rw [List.length_cons]; omega), show l.length + (j + 1) = (l.length + j) + 1 by omega, getC_s, getC_aj]
  simp
/-! ### while -/
theorem wh_step (c : Env → M D) (body : Env → M Fl) (n : Nat) (env : Env) (cs : CS) : whL c body (n + 1) env cs = (c env cs).bd fun x c2 => tst x (seqR (body env c2) fun e2 c3 => whL c body n e2 c3) (.ok (.nx env) c2) := by
  show mb _ _ cs = _
  rw [mb_bd]
  congr 1
  funext x c2
  cases x with
  | bool b =>
    cases b with
    | true =>
      show mb _ _ c2 = seqR _ _
      rw [mb_bd]
      cases body env c2 with
      | ok fl c => cases fl <;> rfl
      | _ => rfl
    | false => rfl
  | _ => rfl
theorem wh_go (c : Env → M D) (body : Env → M Fl) (E : Nat → Env) (C : Nat → CS) (m : Nat) (h1 : ∀ i < m, c (E i) (C i) = .ok (.bool true) (C i) ∧ body (E i) (C i) = .ok (.nx (E (i + 1))) (C (i + 1))) (h2 : c (E m) (C m) = .ok (.bool false) (C m)) :
    ∀ (n i : Nat), i ≤ m → m - i < n → whL c body n (E i) (C i) = .ok (.nx (E m)) (C m)
  | 0, i, _, h => by omega
  | n + 1, i, hi, h => by
    rw [wh_step]
    by_cases he : i = m
    · subst he
      rw [h2, bd_ok]
      rfl
    · obtain ⟨q1, q2⟩ := h1 i (by omega)
      rw [q1, bd_ok]
      show seqR (body (E i) (C i)) _ = _
      rw [q2, seqR_nx, wh_go c body E C m h1 h2 n (i + 1) (by omega) (by omega)]
/-! ### a loop that looks for something, and hands it back -/
def fndR (o : Option D) (e : Env) (c : CS) : Res Fl := match o with
  | some r => .ok (.rt r) c
  | none => .ok (.nx e) c
theorem fndR_s (r : D) (e : Env) (c : CS) : fndR (some r) e c = .ok (.rt r) c := id rfl
theorem fndR_n (e : Env) (c : CS) : fndR none e c = .ok (.nx e) c := id rfl
theorem for_find {α : Type} {tg : Tg} {body : Env → M Fl} (g : α → D) (E : Env) (cs : CS) (f : α → Option D) : ∀ (xs : List α), (∀ x ∈ xs, setTgF tg (g x) E (fun e1 => body e1 cs) = fndR (f x) E cs) → forL tg body (xs.map g) E cs = fndR (xs.findSome? f) E cs
  | [], _ => rfl
  | x :: xs, h => by
    rw [List.map_cons, forL_cons, List.findSome?_cons]
    have h1 := h x List.mem_cons_self
    have h2 := for_find (tg := tg) (body := body) g E cs f xs fun y hy => h y (List.mem_cons_of_mem _ hy)
    unfold setTgF at h1 ⊢
    cases hs : setTg tg (g x) E with
    | none => rw [hs] at h1; cases hf : f x <;> rw [hf] at h1 <;> cases h1
    | some e1 =>
      rw [hs] at h1
      have h1 : body e1 cs = fndR (f x) E cs := h1
      show seqR (body e1 cs) _ = _
      rw [h1]
      cases f x with
      | some r => rfl
      | none => exact h2
theorem find_at (P t : Nat) (g : Nat → D) : ∀ n : Nat, (List.range n).findSome? (fun i => if P + i = t then some (g i) else none) = if P ≤ t ∧ t - P < n then some (g (t - P)) else none
  | 0 => by simp
  | n + 1 => by
    rw [List.range_succ, List.findSome?_append, find_at P t g n]
    by_cases h : P ≤ t ∧ t - P < n
    · rw [if_pos h, if_pos ⟨h.1, by omega⟩]
      rfl
    · rw [if_neg h]
      by_cases h2 : P + n = t
      · rw [if_pos (by omega)]
        simp [h2, show t - P = n by omega]
      · rw [if_neg (by omega)]
        simp [h2]
/-! ### of typed lists -/
section
variable {α : Type} (cs : CS) (xs : List α) (g : α → Int)
theorem map_g : (xs.map fun x => PyData.int (g x)) = (xs.map g).map .int := by rw [List.map_map]; rfl
theorem sum_g : Blt.sum.fn [.list (xs.map fun x => .int (g x))] cs = .ok (.int (xs.map g).sum) cs := by rw [map_g, sum_l]
theorem sset_gl (h : xs.length < 64) : ssetD [.list (xs.map fun x => .int (g x))] cs = .ok (.list ((ssetL (xs.map g)).map .int)) cs := by rw [map_g, sset_l _ _ (by simpa using h)]
theorem sset_gt (h : xs.length < 64) : ssetD [.tuple (xs.map fun x => .int (g x))] cs = .ok (.list ((ssetL (xs.map g)).map .int)) cs := by rw [map_g, sset_t _ _ (by simpa using h)]
theorem lset_gl (h : xs.length < 4000) : lsetD [.list (xs.map fun x => .int (g x))] cs = .ok (.int (ssetL (xs.map g)).length) cs := by rw [map_g, lset_l _ _ (by simpa using h)]
theorem lset_gt (h : xs.length < 4000) : lsetD [.tuple (xs.map fun x => .int (g x))] cs = .ok (.int (ssetL (xs.map g)).length) cs := by rw [map_g, lset_t _ _ (by simpa using h)]
end
/-- the greatest, the least -/
def maxL : List Int → Int
  | [] => 0
  | x :: xs => xs.foldl max x
def minL : List Int → Int
  | [] => 0
  | x :: xs => xs.foldl min x
theorem fold_max : ∀ (l : List Int) (a : Int), a ≤ l.foldl max a ∧ (∀ x ∈ l, x ≤ l.foldl max a) ∧ (l.foldl max a = a ∨ l.foldl max a ∈ l)
  | [], a => ⟨Int.le_refl _, (fun x h => by cases h), Or.inl rfl⟩
  | x :: l, a => by
    obtain ⟨h1, h2, h3⟩ := fold_max l (max a x)
    refine ⟨by simp only [List.foldl_cons]; omega, fun y hy => ?_, ?_⟩
    · rcases List.mem_cons.mp hy with rfl | hy
      · simp only [List.foldl_cons]; omega
      · exact h2 y hy
    · simp only [List.foldl_cons]
      rcases h3 with h3 | h3
      · rcases Int.le_total a x with q | q
        · refine .inr ?_
          rw [h3, Int.max_eq_right q]; exact List.mem_cons_self
        · refine .inl ?_
          rw [h3, Int.max_eq_left q]
      · exact .inr (List.mem_cons_of_mem _ h3)
theorem fold_min : ∀ (l : List Int) (a : Int), l.foldl min a ≤ a ∧ (∀ x ∈ l, l.foldl min a ≤ x) ∧ (l.foldl min a = a ∨ l.foldl min a ∈ l)
  | [], a => ⟨Int.le_refl _, (fun x h => by cases h), Or.inl rfl⟩
  | x :: l, a => by
    obtain ⟨h1, h2, h3⟩ := fold_min l (min a x)
    refine ⟨by simp only [List.foldl_cons]; omega, fun y hy => ?_, ?_⟩
    · rcases List.mem_cons.mp hy with rfl | hy
      · simp only [List.foldl_cons]; omega
      · exact h2 y hy
    · simp only [List.foldl_cons]
      rcases h3 with h3 | h3
      · rcases Int.le_total a x with q | q
        · refine .inl ?_
          rw [h3, Int.min_eq_left q]
        · refine .inr ?_
          rw [h3, Int.min_eq_right q]; exact List.mem_cons_self
      · exact .inr (List.mem_cons_of_mem _ h3)
theorem le_maxL {l : List Int} {x : Int} (h : x ∈ l) : x ≤ maxL l := by
  cases l with
  | nil => cases h
  | cons y l =>
    obtain ⟨h1, h2, h3⟩ := fold_max l y
    rcases List.mem_cons.mp h with rfl | h
    · exact h1
    · exact h2 x h
theorem maxL_mem {l : List Int} (h : l ≠ []) : maxL l ∈ l := by
  cases l with
  | nil => exact absurd rfl h
  | cons y l =>
    obtain ⟨h1, h2, h3⟩ := fold_max l y
    rcases h3 with h3 | h3
    · show l.foldl max y ∈ _
      rw [h3]; exact List.mem_cons_self
    · exact List.mem_cons_of_mem _ h3
theorem minL_le {l : List Int} {x : Int} (h : x ∈ l) : minL l ≤ x := by
  cases l with
  | nil => cases h
  | cons y l =>
    obtain ⟨h1, h2, h3⟩ := fold_min l y
    rcases List.mem_cons.mp h with rfl | h
    · exact h1
    · exact h2 x h
theorem minL_mem {l : List Int} (h : l ≠ []) : minL l ∈ l := by
  cases l with
  | nil => exact absurd rfl h
  | cons y l =>
    obtain ⟨h1, h2, h3⟩ := fold_min l y
    rcases h3 with h3 | h3
    · show l.foldl min y ∈ _
      rw [h3]; exact List.mem_cons_self
    · exact List.mem_cons_of_mem _ h3
theorem maxL_eq {l : List Int} {m : Int} (h : m ∈ l) (h2 : ∀ x ∈ l, x ≤ m) : maxL l = m := Int.le_antisymm (h2 _ (maxL_mem fun z => by rw [z] at h; cases h)) (le_maxL h)
theorem minL_eq {l : List Int} {m : Int} (h : m ∈ l) (h2 : ∀ x ∈ l, m ≤ x) : minL l = m := Int.le_antisymm (minL_le h) (h2 _ (minL_mem fun z => by rw [z] at h; cases h))
theorem min_ints (cs : CS) (x : Int) (xs : List Int) : bestD PySem.W.minD minI [.tuple ((x :: xs).map .int)] cs = .ok (.int (xs.foldl min x)) cs ∧ bestD PySem.W.minD minI [.list ((x :: xs).map .int)] cs = .ok (.int (xs.foldl min x)) cs := by
  have h : (allAlikeB ((x :: xs).map .int) && noneFree ((x :: xs).map .int) && SeqAt.shaped (.list ((x :: xs).map .int))) = true := by
    rw [shaped_wd (d := .list ((x :: xs).map .int)) (by simp)]
    simp [allAlikeB, noneFree, PySem.W.alike]
  constructor
  · show (if (allAlikeB ((x :: xs).map .int) && noneFree ((x :: xs).map .int) && SeqAt.shaped (.list ((x :: xs).map .int))) = true then Res.ok (PySem.W.minD (.int x) (xs.map .int)) cs else .stuck) = _
    rw [if_pos h, PySem.W.minD_ints]
  · show (if (allAlikeB ((x :: xs).map .int) && noneFree ((x :: xs).map .int) && SeqAt.shaped (.list ((x :: xs).map .int))) = true then Res.ok (PySem.W.minD (.int x) (xs.map .int)) cs else .stuck) = _
    rw [if_pos h, PySem.W.minD_ints]
section
variable {α : Type} (cs : CS) (xs : List α) (g : α → Int)
theorem max_gl (h : 0 < xs.length) : Blt.max.fn [.list (xs.map fun x => .int (g x))] cs = .ok (.int (maxL (xs.map g))) cs := by
  rw [map_g]
  cases xs with
  | nil => cases h
  | cons x xs => exact (max_ints cs (g x) (xs.map g)).2
theorem max_gt (h : 0 < xs.length) : Blt.max.fn [.tuple (xs.map fun x => .int (g x))] cs = .ok (.int (maxL (xs.map g))) cs := by
  rw [map_g]
  cases xs with
  | nil => cases h
  | cons x xs => exact (max_ints cs (g x) (xs.map g)).1
theorem min_gl (h : 0 < xs.length) : Blt.min.fn [.list (xs.map fun x => .int (g x))] cs = .ok (.int (minL (xs.map g))) cs := by
  rw [map_g]
  cases xs with
  | nil => cases h
  | cons x xs => exact (min_ints cs (g x) (xs.map g)).2
theorem min_gt (h : 0 < xs.length) : Blt.min.fn [.tuple (xs.map fun x => .int (g x))] cs = .ok (.int (minL (xs.map g))) cs := by
  rw [map_g]
  cases xs with
  | nil => cases h
  | cons x xs => exact (min_ints cs (g x) (xs.map g)).1
end
theorem max_2 (i j : Int) (cs : CS) : Blt.max.fn [.int i, .int j] cs = .ok (.int (max i j)) cs := by
  show Res.ok (PyData.int (maxI i j)) cs = _
  unfold maxI
  rw [show (if j > i then j else i) = max i j by omega]
theorem min_2 (i j : Int) (cs : CS) : Blt.min.fn [.int i, .int j] cs = .ok (.int (min i j)) cs := by
  show Res.ok (PyData.int (minI i j)) cs = _
  unfold minI
  rw [show (if j < i then j else i) = min i j by omega]
/-! ### equal lists -/
theorem eqv_nilL (ds : List D) : PyData.eqv (.list ds) (.list []) = ds.isEmpty := by cases ds <;> simp [PyData.eqv, PyData.eqvAll]
theorem eqv_nilT (ds : List D) : PyData.eqv (.tuple ds) (.tuple []) = ds.isEmpty := by cases ds <;> simp [PyData.eqv, PyData.eqvAll]
theorem eq_nilL (ds : List D) (cs : CS) (h : ds.all (wdN 8) = true) : Cmp1.eq.fn (.list ds) (.list []) cs = .ok (.bool ds.isEmpty) cs := by rw [f_eq _ (by exact h) (by rfl), eqv_nilL]
theorem ne_nilL (ds : List D) (cs : CS) (h : ds.all (wdN 8) = true) : Cmp1.ne.fn (.list ds) (.list []) cs = .ok (.bool (!ds.isEmpty)) cs := by rw [f_ne _ (by exact h) (by rfl), eqv_nilL]
theorem eq_nilT (ds : List D) (cs : CS) (h : ds.all (wdN 8) = true) : Cmp1.eq.fn (.tuple ds) (.tuple []) cs = .ok (.bool ds.isEmpty) cs := by rw [f_eq _ (by exact h) (by rfl), eqv_nilT]
theorem ne_nilT (ds : List D) (cs : CS) (h : ds.all (wdN 8) = true) : Cmp1.ne.fn (.tuple ds) (.tuple []) cs = .ok (.bool (!ds.isEmpty)) cs := by rw [f_ne _ (by exact h) (by rfl), eqv_nilT]
section
variable {α β : Type} (cs : CS) (xs : List α) (ys : List β) (f : α → Int) (g : β → Int)
theorem eq_gl : Cmp1.eq.fn (.list (xs.map fun x => .int (f x))) (.list (ys.map fun y => .int (g y))) cs = .ok (.bool (decide (xs.map f = ys.map g))) cs := by rw [map_g xs f, map_g ys g, f_eq _ (by simp) (by simp), eqv_lints]
theorem ne_gl : Cmp1.ne.fn (.list (xs.map fun x => .int (f x))) (.list (ys.map fun y => .int (g y))) cs = .ok (.bool (!decide (xs.map f = ys.map g))) cs := by rw [map_g xs f, map_g ys g, f_ne _ (by simp) (by simp), eqv_lints]
theorem eq_gt : Cmp1.eq.fn (.tuple (xs.map fun x => .int (f x))) (.tuple (ys.map fun y => .int (g y))) cs = .ok (.bool (decide (xs.map f = ys.map g))) cs := by rw [map_g xs f, map_g ys g, f_eq _ (by simp) (by simp), eqv_tints]
theorem ne_gt : Cmp1.ne.fn (.tuple (xs.map fun x => .int (f x))) (.tuple (ys.map fun y => .int (g y))) cs = .ok (.bool (!decide (xs.map f = ys.map g))) cs := by rw [map_g xs f, map_g ys g, f_ne _ (by simp) (by simp), eqv_tints]
end
/-! ### ranges as lists -/
theorem rngVN (i j : Int) (c : CS) (h : 0 ≤ i) (h2 : i ≤ 1000000) (h3 : j ≤ 1000000) (h4 : -1000000 ≤ j) : rangeV (.int i) (.int j) c = .ok ((List.range' i.toNat (j - i).toNat).map fun (q : Nat) => .int (q : Int)) c := by
  rw [rngV c i j (by omega) h2 h4 h3]
  congr 1
  unfold rangeL
  rw [List.range_eq_range', ← Nat.add_zero i.toNat, ← List.map_add_range', List.map_map]
  refine List.map_congr_left fun q _ => ?_
  simp
  omega
/-- downwards -/
theorem rng3D (i : Int) (c : CS) (h : 0 ≤ i + 1) (h2 : i ≤ 1000000) : range3D [.int i, .int (-1), .int (-1)] c = .ok (((List.range (i + 1).toNat).reverse).map fun (q : Nat) => .int (q : Int)) c := by
  show (if _ then ret (rangeC i (-1) (i - (-1)).toNat) else stk : M (List D)) c = _
  rw [if_pos (by refine ⟨⟨⟨?_, ?_⟩, ?_, ?_⟩, rfl⟩ <;> omega)]
  show Res.ok _ c = _
  congr 1
  unfold rangeC
  rw [show (i - (-1)).toNat = (i + 1).toNat by omega]
  refine List.ext_getElem? fun k => ?_
  rw [List.getElem?_map, List.getElem?_map]
  by_cases hk : k < (i + 1).toNat
  · rw [List.getElem?_range hk, List.getElem?_reverse (by simpa using hk), List.length_range, List.getElem?_range (by omega)]
    simp
    omega
  · rw [List.getElem?_eq_none (by simp; omega), List.getElem?_eq_none (by simp; omega)]
    rfl
end KH

/-! KH: comprehensions that draw; turns of a law. -/
namespace KH
open PySem PySem.Spec PyProof.Rows L2
theorem fltR_draw {α : Type} {f : α → CS → Res (Option D)} (g : α → D) (I : CS → Prop) : ∀ (xs : List α) (cs : CS), I cs → (∀ x ∈ xs, ∀ c, I c → ∃ (b : Bool) (c' : CS), f x c = .ok (if b = true then some (g x) else none) c' ∧ I c') →
    ∃ (ys : List α) (c' : CS), ys.Sublist xs ∧ fltR f xs cs = .ok (ys.map g) c' ∧ I c'
  | [], cs, h, _ => ⟨[], cs, List.Sublist.refl _, rfl, h⟩
  | x :: xs, cs, h, hb => by
    obtain ⟨b, c1, e1, h1⟩ := hb x List.mem_cons_self cs h
    obtain ⟨ys, c2, s2, e2, h2⟩ := fltR_draw g I xs c1 h1 fun y hy => hb y (List.mem_cons_of_mem _ hy)
    cases b with
    | true =>
      refine ⟨x :: ys, c2, s2.cons_cons x, ?_, h2⟩
      rw [fltR_cons, e1, bd_ok, e2]
      rfl
    | false =>
      refine ⟨ys, c2, s2.cons x, ?_, h2⟩
      rw [fltR_cons, e1, bd_ok, e2]
      rfl
theorem mapR_draw {α β : Type} {f : α → CS → Res D} (g : β → D) (P : α → β → Prop) (I : CS → Prop) : ∀ (xs : List α) (cs : CS), I cs → (∀ x ∈ xs, ∀ c, I c → ∃ (y : β) (c' : CS), f x c = .ok (g y) c' ∧ P x y ∧ I c') →
    ∃ (ys : List β) (c' : CS), mapR f xs cs = .ok (ys.map g) c' ∧ ys.length = xs.length ∧ (∀ p ∈ xs.zip ys, P p.1 p.2) ∧ I c'
  | [], cs, h, _ => ⟨[], cs, rfl, rfl, (fun p hp => by cases hp), h⟩
  | x :: xs, cs, h, hb => by
    obtain ⟨y, c1, e1, p1, h1⟩ := hb x List.mem_cons_self cs h
    obtain ⟨ys, c2, e2, l2, p2, h2⟩ := mapR_draw g P I xs c1 h1 fun y hy => hb y (List.mem_cons_of_mem _ hy)
    refine ⟨y :: ys, c2, ?_, by simp [l2], fun p hp => ?_, h2⟩
    · rw [mapR_cons, e1, bd_ok, e2]
      rfl
    · rcases List.mem_cons.mp hp with rfl | hp
      · exact p1
      · exact p2 p hp
/-- a loop that puts things behind a list: in a slot, or in a cell -/
theorem for_cat {α : Type} {tg : Tg} {body : Env → M Fl} (g : α → D) (E : List D → Env) (C : List D → CS) (w : Nat) (f : α → List D) (xs : List α) (acc : List D) (hl : acc.length + xs.length * w ≤ 16000000)
    (hb : ∀ x ∈ xs, ∀ acc : List D, acc.length + w ≤ 16000000 → (f x).length ≤ w ∧ setTgF tg (g x) (E acc) (fun e1 => body e1 (C acc)) = .ok (.nx (E (acc ++ f x))) (C (acc ++ f x))) :
    forL tg body (xs.map g) (E acc) (C acc) = .ok (.nx (E (acc ++ xs.flatMap f))) (C (acc ++ xs.flatMap f)) := by
  obtain ⟨e, c, h1, h2, h3, h4⟩ := for_inv (tg := tg) (body := body) g (fun p e c => e = E (acc ++ p.flatMap f) ∧ c = C (acc ++ p.flatMap f) ∧ (acc ++ p.flatMap f).length + (xs.length - p.length) * w ≤ 16000000) xs (E acc) (C acc) ⟨by simp, by simp, by simpa using hl⟩ fun p x q e c he hI => by
    obtain ⟨rfl, rfl, hI⟩ := hI
    have h5 : xs.length - p.length = q.length + 1 := by rw [he, List.length_append, List.length_cons]; omega
    have h6 : xs.length - (p ++ [x]).length = q.length := by rw [he, List.length_append, List.length_append, List.length_cons, List.length_cons, List.length_nil]; omega
    rw [h5, Nat.succ_mul] at hI
    obtain ⟨k1, k2⟩ := hb x (by rw [he]; simp) (acc ++ p.flatMap f) (by omega)
    refine ⟨_, _, k2, by rw [List.flatMap_append, List.append_assoc]; simp, by rw [List.flatMap_append, List.append_assoc]; simp, ?_⟩
    rw [h6, List.flatMap_append]
    simp only [List.length_append, List.flatMap_cons, List.flatMap_nil, List.append_nil] at hI ⊢
    omega
  rw [h1, h2, h3]
theorem flt_fm {α : Type} (p : α → Bool) (l : List α) (f : α → D) : (l.flatMap fun x => if p x = true then [f x] else []) = (l.filter p).map f := by
  induction l with
  | nil => rfl
  | cons x l ih =>
    rw [List.flatMap_cons, ih, List.filter_cons]
    split <;> rfl
theorem fm_len {α β : Type} (f : α → List β) (w : Nat) : ∀ l : List α, (∀ x ∈ l, (f x).length ≤ w) → (l.flatMap f).length ≤ l.length * w
  | [], _ => by simp
  | x :: l, h => by
    have h1 := h x List.mem_cons_self
    have h2 := fm_len f w l fun y hy => h y (List.mem_cons_of_mem _ hy)
    rw [List.flatMap_cons, List.length_append, List.length_cons, Nat.succ_mul]
    omega
/-! in, not in, of lists of whole numbers -/
section
variable {α : Type} (cs : CS) (d : Int) (xs : List α) (g : α → Int)
theorem any_mem (l : List Int) : (l.any fun z => decide (z = d)) = decide (d ∈ l) := by
  rw [Bool.eq_iff_iff]
  simp
theorem in_gl : Cmp1.in_.fn (.int d) (.list (xs.map fun x => .int (g x))) cs = .ok (.bool (decide (d ∈ xs.map g))) cs := by rw [map_g, in_li, any_mem]
theorem in_gt : Cmp1.in_.fn (.int d) (.tuple (xs.map fun x => .int (g x))) cs = .ok (.bool (decide (d ∈ xs.map g))) cs := by rw [map_g, in_ti, any_mem]
theorem nin_gl : Cmp1.nin.fn (.int d) (.list (xs.map fun x => .int (g x))) cs = .ok (.bool (!decide (d ∈ xs.map g))) cs := by rw [map_g, nin_li, any_mem]
theorem nin_gt : Cmp1.nin.fn (.int d) (.tuple (xs.map fun x => .int (g x))) cs = .ok (.bool (!decide (d ∈ xs.map g))) cs := by rw [map_g, nin_ti, any_mem]
end
/-! the same, of the numbers themselves -/
section
variable (cs : CS) (d : Int) (xs ys : List Int)
theorem in_pl : Cmp1.in_.fn (.int d) (.list (xs.map .int)) cs = .ok (.bool (decide (d ∈ xs))) cs := by rw [in_li, any_mem]
theorem in_pt : Cmp1.in_.fn (.int d) (.tuple (xs.map .int)) cs = .ok (.bool (decide (d ∈ xs))) cs := by rw [in_ti, any_mem]
theorem nin_pl : Cmp1.nin.fn (.int d) (.list (xs.map .int)) cs = .ok (.bool (!decide (d ∈ xs))) cs := by rw [nin_li, any_mem]
theorem nin_pt : Cmp1.nin.fn (.int d) (.tuple (xs.map .int)) cs = .ok (.bool (!decide (d ∈ xs))) cs := by rw [nin_ti, any_mem]
theorem max_pl (h : 0 < xs.length) : Blt.max.fn [.list (xs.map .int)] cs = .ok (.int (maxL xs)) cs := by
  have := max_gl cs xs (fun x => x) h
  rwa [List.map_id'] at this
theorem max_pt (h : 0 < xs.length) : Blt.max.fn [.tuple (xs.map .int)] cs = .ok (.int (maxL xs)) cs := by
  have := max_gt cs xs (fun x => x) h
  rwa [List.map_id'] at this
theorem min_pl (h : 0 < xs.length) : Blt.min.fn [.list (xs.map .int)] cs = .ok (.int (minL xs)) cs := by
  have := min_gl cs xs (fun x => x) h
  rwa [List.map_id'] at this
theorem min_pt (h : 0 < xs.length) : Blt.min.fn [.tuple (xs.map .int)] cs = .ok (.int (minL xs)) cs := by
  have := min_gt cs xs (fun x => x) h
  rwa [List.map_id'] at this
theorem eq_pl : Cmp1.eq.fn (.list (xs.map .int)) (.list (ys.map .int)) cs = .ok (.bool (decide (xs = ys))) cs := by rw [f_eq _ (by simp) (by simp), eqv_lints]
theorem ne_pl : Cmp1.ne.fn (.list (xs.map .int)) (.list (ys.map .int)) cs = .ok (.bool (!decide (xs = ys))) cs := by rw [f_ne _ (by simp) (by simp), eqv_lints]
theorem eq_pt : Cmp1.eq.fn (.tuple (xs.map .int)) (.tuple (ys.map .int)) cs = .ok (.bool (decide (xs = ys))) cs := by rw [f_eq _ (by simp) (by simp), eqv_tints]
theorem ne_pt : Cmp1.ne.fn (.tuple (xs.map .int)) (.tuple (ys.map .int)) cs = .ok (.bool (!decide (xs = ys))) cs := by rw [f_ne _ (by simp) (by simp), eqv_tints]
variable {α : Type} (zs : List α) (g : α → Int)
theorem eq_pgl : Cmp1.eq.fn (.list (xs.map .int)) (.list (zs.map fun z => .int (g z))) cs = .ok (.bool (decide (xs = zs.map g))) cs := by rw [map_g zs g, eq_pl]
theorem ne_pgl : Cmp1.ne.fn (.list (xs.map .int)) (.list (zs.map fun z => .int (g z))) cs = .ok (.bool (!decide (xs = zs.map g))) cs := by rw [map_g zs g, ne_pl]
theorem eq_gpl : Cmp1.eq.fn (.list (zs.map fun z => .int (g z))) (.list (xs.map .int)) cs = .ok (.bool (decide (zs.map g = xs))) cs := by rw [map_g zs g, eq_pl]
theorem ne_gpl : Cmp1.ne.fn (.list (zs.map fun z => .int (g z))) (.list (xs.map .int)) cs = .ok (.bool (!decide (zs.map g = xs))) cs := by rw [map_g zs g, ne_pl]
theorem eq_pgt : Cmp1.eq.fn (.tuple (xs.map .int)) (.tuple (zs.map fun z => .int (g z))) cs = .ok (.bool (decide (xs = zs.map g))) cs := by rw [map_g zs g, eq_pt]
theorem ne_pgt : Cmp1.ne.fn (.tuple (xs.map .int)) (.tuple (zs.map fun z => .int (g z))) cs = .ok (.bool (!decide (xs = zs.map g))) cs := by rw [map_g zs g, ne_pt]
theorem eq_gpt : Cmp1.eq.fn (.tuple (zs.map fun z => .int (g z))) (.tuple (xs.map .int)) cs = .ok (.bool (decide (zs.map g = xs))) cs := by rw [map_g zs g, eq_pt]
theorem ne_gpt : Cmp1.ne.fn (.tuple (zs.map fun z => .int (g z))) (.tuple (xs.map .int)) cs = .ok (.bool (!decide (zs.map g = xs))) cs := by rw [map_g zs g, ne_pt]
end
/-- sorted, of any data -/
theorem sorted_gen {α : Type} (enc : α → D) (L : List α) (cs : CS) (h1 : allAlikeB (L.map enc) = true) (h2 : sortableB (L.map enc) = true) (h3 : (L.map enc).all (wdN 8) = true) :
    Blt.sorted.fn [.list (L.map enc)] cs = .ok (.list ((L.mergeSort fun a b => dleD (enc a) (enc b)).map enc)) cs := by
  show (if (allAlikeB (L.map enc) && sortableB (L.map enc) && SeqAt.shaped (.list (L.map enc))) = true then Res.ok (PyData.list ((L.map enc).mergeSort dleD)) cs else .stuck) = _
  rw [h1, h2, shaped_wd (d := .list (L.map enc)) h3, List.map_mergeSort (s := dleD) fun a _ b _ => rfl]
  rfl
/-- a loop that changes nothing -/
theorem for_same {tg : Tg} {body : Env → M Fl} (E : Env) (cs : CS) : ∀ (ds : List D), (∀ d ∈ ds, setTgF tg d E (fun e1 => body e1 cs) = .ok (.nx E) cs) → forL tg body ds E cs = .ok (.nx E) cs
  | [], _ => rfl
  | d :: ds, h => by
    rw [forL_cons]
    have h1 := h d List.mem_cons_self
    unfold setTgF at h1 ⊢
    cases hs : setTg tg d E with
    | none => rw [hs] at h1; cases h1
    | some e1 =>
      rw [hs] at h1
      have h1 : body e1 cs = .ok (.nx E) cs := h1
      show seqR (body e1 cs) _ = _
      rw [h1]
      exact for_same E cs ds fun y hy => h y (List.mem_cons_of_mem _ hy)
/-- in, not in, of any data -/
theorem in_any (d : D) (ds : List D) (cs : CS) (h1 : wd d = true) (h2 : ds.all (wdN 8) = true) : Cmp1.in_.fn d (.list ds) cs = .ok (.bool (ds.any fun z => PyData.eqv z d)) cs := by
  show inLT false (drf d cs) ds (SeqAt.shaped (drf d cs) && SeqAt.shaped (.list ds)) cs = _
  rw [wd_dr h1, shaped_wd h1, shaped_wd (d := .list ds) h2]
  rfl
theorem nin_any (d : D) (ds : List D) (cs : CS) (h1 : wd d = true) (h2 : ds.all (wdN 8) = true) : Cmp1.nin.fn d (.list ds) cs = .ok (.bool (!ds.any fun z => PyData.eqv z d)) cs := by
  show inLT true (drf d cs) ds (SeqAt.shaped (drf d cs) && SeqAt.shaped (.list ds)) cs = _
  rw [wd_dr h1, shaped_wd h1, shaped_wd (d := .list ds) h2]
  rfl
theorem in_anyT (d : D) (ds : List D) (cs : CS) (h1 : wd d = true) (h2 : ds.all (wdN 8) = true) : Cmp1.in_.fn d (.tuple ds) cs = .ok (.bool (ds.any fun z => PyData.eqv z d)) cs := by
  show inLT false (drf d cs) ds (SeqAt.shaped (drf d cs) && SeqAt.shaped (.tuple ds)) cs = _
  rw [wd_dr h1, shaped_wd h1, shaped_wd (d := .tuple ds) h2]
  rfl
theorem nin_anyT (d : D) (ds : List D) (cs : CS) (h1 : wd d = true) (h2 : ds.all (wdN 8) = true) : Cmp1.nin.fn d (.tuple ds) cs = .ok (.bool (!ds.any fun z => PyData.eqv z d)) cs := by
  show inLT true (drf d cs) ds (SeqAt.shaped (drf d cs) && SeqAt.shaped (.tuple ds)) cs = _
  rw [wd_dr h1, shaped_wd h1, shaped_wd (d := .tuple ds) h2]
  rfl
theorem any_dec {α : Type} [DecidableEq α] (L : List α) (x : α) [Decidable (x ∈ L)] : (L.any fun z => decide (z = x)) = decide (x ∈ L) := by
  rw [Bool.eq_iff_iff]
  simp
/-- data of a class, told by f: equal is == -/
theorem eqv_enc {α : Type} [DecidableEq α] (f : α → D) (n : Nat) (h1 : ∀ x, nbN n (f x) = true) (h2 : ∀ x y, f x = f y → x = y) (x y : α) : PyData.eqv (f x) (f y) = decide (x = y) := by
  rw [Bool.eq_iff_iff, eqv_nb n _ _ (h1 x) (h1 y), decide_eq_true_iff]
  exact ⟨h2 x y, fun h => by rw [h]⟩
theorem all_1 (b : Bool) (cs : CS) : Blt.all.fn [.list [.bool b]] cs = .ok (.bool b) cs := by cases b <;> rfl
theorem all_tt {α : Type} (l : List α) : (l.all fun _ => true) = true := by simp
theorem any_ff {α : Type} (l : List α) : (l.any fun _ => false) = false := by simp
theorem isn_b (a b : Bool) (cs : CS) : Cmp1.isn.fn (.bool a) (.bool b) cs = .ok (.bool (!decide (b = a))) cs := by cases a <;> cases b <;> rfl
theorem flt_nil {α : Type} (p : α → Bool) (l : List α) : (l.filter p).isEmpty = l.all fun x => !p x := by
  rw [Bool.eq_iff_iff, List.isEmpty_iff, List.filter_eq_nil_iff, List.all_eq_true]
  constructor
  · intro h x hx
    have := h x hx
    simpa using this
  · intro h x hx
    have := h x hx
    simpa using this
/-- the turns of a law: only the cup changes -/
theorem turns {tg : Tg} {body : Env → M Fl} (ds : List D) (E : Env) (h : ∀ d s, ∃ s', setTgF tg d E (fun e1 => body e1 [cup s]) = .ok (.nx E) [cup s']) (s : Int × Int) : ∃ s', forL tg body ds E [cup s] = .ok (.nx E) [cup s'] := by
  obtain ⟨e, c, h1, rfl, s', rfl⟩ := for_inv (tg := tg) (body := body) (fun d => d) (fun _ e c => e = E ∧ ∃ s, c = [cup s]) ds E [cup s] ⟨rfl, s, rfl⟩ fun p x q e c _ hI => by
    obtain ⟨rfl, s, rfl⟩ := hI
    obtain ⟨s', h'⟩ := h x s
    exact ⟨_, _, h', rfl, s', rfl⟩
  rw [List.map_id'] at h1
  exact ⟨s', h1⟩
theorem cup_app (s : Option (List D)) (l : CS) : s :: l = [s] ++ l := rfl
end KH

namespace KP
open PySem PySem.Spec PyProof.Rows L2 KH
abbrev row := PySem.Challenge.rw_keysinhand_k81_whole_hits_that_fill_cycl
def top (i : Nat) : Stmt := PySem.Challenge.pw_keysinhand_k81_whole_hits_that_fill_cycl.main.body.getD i (.Pass ⟨0, 0, 0, 0⟩)
/-! 0: is_whole(value) -/
abbrev st0 : Stmt := top 4
def b0 : Ss := (.cons (.ret (.and (.isi .int (.var 0)) (.one (.not (.isi .bool (.var 0)))))) .nil)
def d0 : FDef := ⟨"is_whole", ["value"], 1, false, b0⟩
/-! 1: fits_whole(value, low, high) -/
abbrev st1 : Stmt := top 5
def b1 : Ss := (.cons (.ret (.and (.call 0 (.cons (.var 0) .nil)) (.one (.chn .le .le (.var 1) (.var 0) (.var 2))))) .nil)
def d1 : FDef := ⟨"fits_whole", ["value", "low", "high"], 3, false, b1⟩
/-! 2: is_tuple_of(value, least, most) -/
abbrev st2 : Stmt := top 6
def b2 : Ss := (.cons (.ret (.and (.isi .tuple (.var 0)) (.one (.chn .le .le (.var 1) (.blt .len (.cons (.var 0) .nil)) (.var 2))))) .nil)
def d2 : FDef := ⟨"is_tuple_of", ["value", "least", "most"], 3, false, b2⟩
/-! 3: is_rising(values, one, other) -/
abbrev st3 : Stmt := top 7
def b3 : Ss := (.cons (.ret (.blt .all (.cons (.comp false [1, 2] (.tp [1, 2]) (.zip (.var 0) (.sl (.var 0) (.int 1) (.hole))) (.hole) (.cmp .lt (.var 1) (.var 2))) .nil))) .nil)
def d3 : FDef := ⟨"is_rising", ["values", "one", "other"], 1, false, b3⟩
/-! 4: divisor_in(one, other) -/
abbrev st4 : Stmt := top 8
def b4_f0 : Ss := (.cons (.par [0, 1] (.cons (.var 1) (.cons (.bin .mod (.var 0) (.var 1)) .nil))) .nil)
def b4 : Ss := (.cons (.wh 1000 (.cmp .gt (.var 1) (.int 0)) b4_f0) (.cons (.ret (.var 0)) .nil))
def d4 : FDef := ⟨"divisor_in", ["one", "other"], 2, false, b4⟩
/-! 5: need_number(value, low, high) -/
abbrev st5 : Stmt := top 9
def b5 : Ss := (.cons (.iff (.not (.call 1 (.cons (.var 0) (.cons (.var 1) (.cons (.var 2) .nil))))) ((.cons (.raise 0) .nil)) (.nil)) .nil)
def d5 : FDef := ⟨"need_number", ["value", "low", "high"], 3, false, b5⟩
/-! 6: fits_hits(value, cycle, time) -/
abbrev st6 : Stmt := top 13
def b6 : Ss := (.cons (.iff (.or (.not (.call 2 (.cons (.var 0) (.cons (.int 1) (.cons (.var 1) .nil))))) (.one (.not (.blt .all (.cons (.comp false [2] (.nm 2) (.seq (.var 0)) (.hole) (.call 1 (.cons (.var 2) (.cons (.int 0) (.cons (.bin .sub (.var 1) (.int 1)) .nil))))) .nil))))) ((.cons (.ret (.bl false)) .nil)) (.nil)) (.cons (.ret (.call 3 (.cons (.var 0) .nil))) .nil))
def d6 : FDef := ⟨"fits_hits", ["value", "cycle", "time"], 2, false, b6⟩
/-! 7: need_hits(cycle, value) -/
abbrev st7 : Stmt := top 14
def b7 : Ss := (.cons (.drop (.call 5 (.cons (.var 0) (.cons (.int 1) (.cons (.con 1) .nil))))) (.cons (.iff (.not (.call 6 (.cons (.var 1) (.cons (.var 0) .nil)))) ((.cons (.raise 0) .nil)) (.nil)) .nil))
def d7 : FDef := ⟨"need_hits", ["cycle", "value"], 2, false, b7⟩
/-! 8: filled_in(cycle, one, other, found, begin, time) -/
abbrev st8 : Stmt := top 15
def b8_f0 : Ss := (.cons (.setI (.var 3) (.bin .mod (.bin .add (.var 4) (.var 5)) (.var 0)) (.bin .add (.ix (.var 3) (.bin .mod (.bin .add (.var 4) (.var 5)) (.var 0))) (.int 1))) (.clr [5] .nil))
def b8_f1 : Ss := (.cons (.forS (.nm 5) (.seq (.var 1)) b8_f0) (.clr [4, 5] .nil))
def b8 : Ss := (.cons (.set 3 (.rep true (.disp false (.cons (.int 0) .nil)) (.var 0))) (.cons (.forS (.nm 4) (.seq (.var 2)) b8_f1) (.cons (.ret (.var 3)) .nil)))
def d8 : FDef := ⟨"filled_in", ["cycle", "one", "other", "found", "begin", "time"], 3, false, b8⟩
/-! 9: fillings_in(cycle, hits, line, found, begins, counts, gap, time, begin, more, one, other) -/
abbrev st9 : Stmt := top 16
def b9_f0 : Ss := (.cons (.set 8 (.bin .mod (.bin .sub (.var 6) (.var 7)) (.var 0))) (.cons (.set 9 (.call 8 (.cons (.var 0) (.cons (.var 1) (.cons (.tup (.cons (.var 8) .nil)) .nil))))) (.cons (.drop (.app (.var 2) (.tup (.cons (.bin .add (.var 4) (.tup (.cons (.var 8) .nil))) (.cons (.comp false [10, 11] (.tp [10, 11]) (.zip (.var 5) (.var 9)) (.hole) (.bin .add (.var 10) (.var 11))) .nil))))) (.clr [7, 8, 9] .nil))))
def b9_f1 : Ss := (.cons (.setT [4, 5] (.pop (.var 2))) (.cons (.iff (.and (.cmp .eq (.blt .max (.cons (.var 5) .nil)) (.int 1)) (.one (.cmp .eq (.blt .min (.cons (.var 5) .nil)) (.int 1)))) ((.cons (.drop (.app (.var 3) (.blt .tuple (.cons (.blt .sorted (.cons (.var 4) .nil)) .nil)))) .nil)) ((.cons (.iff (.cmp .eq (.blt .max (.cons (.var 5) .nil)) (.int 1)) ((.cons (.set 6 (.idx (.var 5) (.int 0))) (.cons (.forS (.nm 7) (.seq (.var 1)) b9_f0) .nil))) (.nil)) .nil))) (.clr [4, 5, 6, 7, 8, 9] .nil)))
def b9 : Ss := (.cons (.par [2, 3] (.cons (.disp true (.cons (.tup (.cons (.tup (.cons (.int 0) .nil)) (.cons (.call 8 (.cons (.var 0) (.cons (.var 1) (.cons (.tup (.cons (.int 0) .nil)) .nil)))) .nil))) .nil)) (.cons (.disp true .nil) .nil))) (.cons (.wh 1000 (.cmp .ne (.var 2) (.disp false .nil)) b9_f1) (.frz 3 (.cons (.ret (.sset (.var 3))) .nil))))
def d9 : FDef := ⟨"fillings_in", ["cycle", "hits", "line", "found", "begins", "counts", "gap", "time", "begin", "more", "one", "other"], 2, false, b9⟩
/-! 10: are_hits(cycle, value) -/
abbrev st10 : Stmt := top 17
def b10 : Ss := (.cons (.drop (.call 5 (.cons (.var 0) (.cons (.int 1) (.cons (.con 1) .nil))))) (.cons (.ret (.call 6 (.cons (.var 1) (.cons (.var 0) .nil)))) .nil))
def d10 : FDef := ⟨"are_hits", ["cycle", "value"], 2, false, b10⟩
/-! 11: is_filling(cycle, one, other) -/
abbrev st11 : Stmt := top 18
def b11 : Ss := (.cons (.drop (.call 7 (.cons (.var 0) (.cons (.var 1) .nil)))) (.cons (.drop (.call 7 (.cons (.var 0) (.cons (.var 2) .nil)))) (.cons (.ret (.cmp .eq (.call 8 (.cons (.var 0) (.cons (.var 1) (.cons (.var 2) .nil)))) (.rep false (.disp false (.cons (.int 1) .nil)) (.var 0)))) .nil)))
def d11 : FDef := ⟨"is_filling", ["cycle", "one", "other"], 3, false, b11⟩
/-! 12: fillings_of(cycle, hits) -/
abbrev st12 : Stmt := top 19
def b12 : Ss := (.cons (.drop (.call 7 (.cons (.var 0) (.cons (.var 1) .nil)))) (.cons (.ret (.blt .tuple (.cons (.call 9 (.cons (.var 0) (.cons (.var 1) .nil))) .nil))) .nil))
def d12 : FDef := ⟨"fillings_of", ["cycle", "hits"], 2, false, b12⟩
/-! 13: hit_counts(cycle, one, other) -/
abbrev st13 : Stmt := top 20
def b13 : Ss := (.cons (.drop (.call 7 (.cons (.var 0) (.cons (.var 1) .nil)))) (.cons (.drop (.call 7 (.cons (.var 0) (.cons (.var 2) .nil)))) (.cons (.ret (.blt .tuple (.cons (.call 8 (.cons (.var 0) (.cons (.var 1) (.cons (.var 2) .nil)))) .nil))) .nil)))
def d13 : FDef := ⟨"hit_counts", ["cycle", "one", "other"], 3, false, b13⟩
/-! 14: turned_hits(cycle, hits, time, own) -/
abbrev st14 : Stmt := top 21
def b14 : Ss := (.cons (.drop (.call 7 (.cons (.var 0) (.cons (.var 1) .nil)))) (.cons (.drop (.call 5 (.cons (.var 2) (.cons (.neg (.con 0)) (.cons (.con 0) .nil))))) (.cons (.ret (.blt .tuple (.cons (.blt .sorted (.cons (.comp false [3] (.nm 3) (.seq (.var 1)) (.hole) (.bin .mod (.bin .add (.var 3) (.var 2)) (.var 0))) .nil)) .nil))) .nil)))
def d14 : FDef := ⟨"turned_hits", ["cycle", "hits", "time", "own"], 3, false, b14⟩
/-! 15: times_hits(cycle, hits, times, found, own) -/
abbrev st15 : Stmt := top 22
def b15 : Ss := (.cons (.drop (.call 7 (.cons (.var 0) (.cons (.var 1) .nil)))) (.cons (.drop (.call 5 (.cons (.var 2) (.cons (.int 0) (.cons (.con 0) .nil))))) (.cons (.set 3 (.blt .tuple (.cons (.sset (.comp false [4] (.nm 4) (.seq (.var 1)) (.hole) (.bin .mod (.bin .mul (.var 4) (.var 2)) (.var 0)))) .nil))) (.cons (.ret (.ife (.cmp .eq (.blt .len (.cons (.var 3) .nil)) (.blt .len (.cons (.var 1) .nil))) (.var 3) (.non))) .nil))))
def d15 : FDef := ⟨"times_hits", ["cycle", "hits", "times", "found", "own"], 3, false, b15⟩
/-! 16: hit_period(cycle, hits, time, own) -/
abbrev st16 : Stmt := top 23
def b16 : Ss := (.cons (.drop (.call 7 (.cons (.var 0) (.cons (.var 1) .nil)))) (.cons (.ret (.blt .min (.cons (.comp false [2] (.nm 2) (.rng2 (.int 1) (.bin .add (.var 0) (.int 1))) (.cmp .eq (.blt .sorted (.cons (.comp false [3] (.nm 3) (.seq (.var 1)) (.hole) (.bin .mod (.bin .add (.var 3) (.var 2)) (.var 0))) .nil)) (.blt .list (.cons (.var 1) .nil))) (.var 2)) .nil))) .nil))
def d16 : FDef := ⟨"hit_period", ["cycle", "hits", "time", "own"], 2, false, b16⟩
/-! 17: even_hits(cycle, many, at) -/
abbrev st17 : Stmt := top 24
def b17 : Ss := (.cons (.drop (.call 5 (.cons (.var 0) (.cons (.int 1) (.cons (.con 1) .nil))))) (.cons (.drop (.call 5 (.cons (.var 1) (.cons (.int 1) (.cons (.var 0) .nil))))) (.cons (.ret (.blt .tuple (.cons (.comp false [2] (.nm 2) (.rng1 (.var 1)) (.hole) (.bin .fdiv (.bin .mul (.var 0) (.var 2)) (.var 1))) .nil))) .nil)))
def d17 : FDef := ⟨"even_hits", ["cycle", "many", "at"], 2, false, b17⟩
/-! 18: common_period(cycle, one, other) -/
abbrev st18 : Stmt := top 25
def b18 : Ss := (.cons (.ret (.call 4 (.cons (.call 16 (.cons (.var 0) (.cons (.var 1) .nil))) (.cons (.call 16 (.cons (.var 0) (.cons (.var 2) .nil))) .nil)))) .nil)
def d18 : FDef := ⟨"common_period", ["cycle", "one", "other"], 3, false, b18⟩
/-! 19: _law_cup(script, cell) -/
abbrev st19 : Stmt := top 27
def b19 : Ss := (.cons (.set 1 (.blt .abs (.cons (.ix (.bin .add (.blt .list (.cons (.var 0) .nil)) (.disp false (.cons (.int 0) .nil))) (.int 0)) .nil))) (.cons (.ret (.disp true (.cons (.ife (.cmp .ge (.var 1) (.bin .pow (.int 10) (.int 18))) (.bin .fdiv (.var 1) (.int 229)) (.int 0)) (.cons (.bin .add (.bin .mod (.blt .int (.cons (.bin .add (.bin .mul (.var 1) (.int 14221)) (.int 16417)) .nil)) (.int 2041828759)) (.int 12613)) .nil)))) .nil))
def d19 : FDef := ⟨"_law_cup", ["script", "cell"], 1, true, b19⟩
/-! 20: _law_roll(cup, many, deep, found) -/
abbrev st20 : Stmt := top 28
def b20 : Ss := (.cons (.iff (.cmp .gt (.ix (.var 0) (.int 0)) (.int 0)) ((.cons (.set 3 (.bin .mod (.blt .int (.cons (.ix (.var 0) (.int 0)) .nil)) (.var 1))) (.cons (.setI (.var 0) (.int 0) (.bin .fdiv (.ix (.var 0) (.int 0)) (.var 1))) (.cons (.ret (.var 3)) .nil)))) (.nil)) (.cons (.setI (.var 0) (.int 1) (.bin .mod (.blt .int (.cons (.bin .add (.bin .mul (.ix (.var 0) (.int 1)) (.int 37689)) (.int 18169)) .nil)) (.int 2147483423))) (.cons (.set 2 (.bin .mod (.blt .int (.cons (.bin .mul (.ix (.var 0) (.int 1)) (.bin .add (.ix (.var 0) (.int 1)) (.int 14957))) .nil)) (.int 2147483587))) (.cons (.ret (.bin .mod (.blt .int (.cons (.bin .fdiv (.var 2) (.int 11941)) .nil)) (.var 1))) .nil))))
def d20 : FDef := ⟨"_law_roll", ["cup", "many", "deep", "found"], 2, false, b20⟩
/-! 21: _law_some(cup, things) -/
abbrev st21 : Stmt := top 29
def b21 : Ss := (.cons (.ret (.ix (.var 1) (.call 20 (.cons (.var 0) (.cons (.blt .len (.cons (.var 1) .nil)) .nil))))) .nil)
def d21 : FDef := ⟨"_law_some", ["cup", "things"], 2, false, b21⟩
/-! 22: _law_same(told, due, at) -/
abbrev st22 : Stmt := top 30
def b22 : Ss := (.cons (.iff (.isi .tuple (.var 1)) ((.cons (.iff (.or (.not (.isi .tuple (.var 0))) (.one (.cmp .ne (.blt .len (.cons (.var 0) .nil)) (.blt .len (.cons (.var 1) .nil))))) ((.cons (.ret (.bl false)) .nil)) (.nil)) (.cons (.ret (.blt .all (.cons (.comp false [2] (.nm 2) (.rng1 (.blt .len (.cons (.var 1) .nil))) (.hole) (.call 22 (.cons (.ix (.var 0) (.var 2)) (.cons (.ix (.var 1) (.var 2)) .nil)))) .nil))) .nil))) (.nil)) (.cons (.iff (.isi .list (.var 1)) ((.cons (.ret (.and (.isi .list (.var 0)) (.one (.call 22 (.cons (.blt .tuple (.cons (.var 0) .nil)) (.cons (.blt .tuple (.cons (.var 1) .nil)) .nil)))))) .nil)) (.nil)) (.cons (.iff (.cmp .is (.var 1) (.non)) ((.cons (.ret (.cmp .is (.var 0) (.non))) .nil)) (.nil)) (.cons (.iff (.isi .bool (.var 1)) ((.cons (.ret (.ife (.var 1) (.cmp .is (.var 0) (.bl true)) (.cmp .is (.var 0) (.bl false)))) .nil)) (.nil)) (.cons (.iff (.isi .int (.var 1)) ((.cons (.ret (.and (.isi .int (.var 0)) (.and (.not (.isi .bool (.var 0))) (.one (.cmp .eq (.blt .int (.cons (.var 0) .nil)) (.var 1)))))) .nil)) (.nil)) (.cons (.ret (.and (.isi .str (.var 0)) (.one (.cmp .eq (.blt .str (.cons (.var 0) .nil)) (.var 1))))) .nil))))))
def d22 : FDef := ⟨"_law_same", ["told", "due", "at"], 2, false, b22⟩
/-! 23: _law_chord(cup, many, low, wide, turn, rest, found, at) -/
abbrev st23 : Stmt := top 31
def b23_f0 : Ss := (.cons (.set 7 (.call 20 (.cons (.var 0) (.cons (.blt .len (.cons (.var 5) .nil)) .nil)))) (.cons (.par [6, 5] (.cons (.bin .add (.var 6) (.disp false (.cons (.ix (.var 5) (.var 7)) .nil))) (.cons (.bin .add (.sl (.var 5) (.hole) (.var 7)) (.sl (.var 5) (.bin .add (.var 7) (.int 1)) (.hole))) .nil))) (.clr [4, 7] .nil)))
def b23 : Ss := (.cons (.par [5, 6] (.cons (.lrg2 false (.var 2) (.bin .add (.var 2) (.var 3))) (.cons (.disp false .nil) .nil))) (.cons (.forS (.nm 4) (.rng1 (.var 1)) b23_f0) (.cons (.ret (.blt .tuple (.cons (.blt .sorted (.cons (.var 6) .nil)) .nil))) .nil)))
def d23 : FDef := ⟨"_law_chord", ["cup", "many", "low", "wide", "turn", "rest", "found", "at"], 4, false, b23⟩
/-! 24: _law_hits(cup, cycle) -/
abbrev st24 : Stmt := top 32
def b24 : Ss := (.cons (.ret (.call 23 (.cons (.var 0) (.cons (.bin .add (.int 1) (.call 20 (.cons (.var 0) (.cons (.blt .min (.cons (.var 1) (.cons (.int 6) .nil))) .nil)))) (.cons (.int 0) (.cons (.var 1) .nil)))))) .nil)
def d24 : FDef := ⟨"_law_hits", ["cup", "cycle"], 2, false, b24⟩
/-! 25: _law_hit(cycle, one, other, found, time, begin) -/
abbrev st25 : Stmt := top 33
def b25_f0 : Ss := (.cons (.drop (.app (.var 3) (.blt .len (.cons (.comp false [5] (.nm 5) (.seq (.var 2)) (.cmp .in_ (.bin .mod (.bin .sub (.var 4) (.var 5)) (.var 0)) (.var 1)) (.int 1)) .nil)))) (.clr [4] .nil))
def b25 : Ss := (.cons (.set 3 (.disp true .nil)) (.cons (.forS (.nm 4) (.rng1 (.var 0)) b25_f0) (.cons (.ret (.var 3)) .nil)))
def d25 : FDef := ⟨"_law_hit", ["cycle", "one", "other", "found", "time", "begin"], 3, false, b25⟩
/-! 26: _law_rows_right(told, due, more) -/
abbrev st26 : Stmt := top 34
def b26 : Ss := (.cons (.set 0 (.tup (.cons (.call 13 (.cons (.int 4) (.cons (.tup (.cons (.int 0) (.cons (.int 1) .nil))) (.cons (.tup (.cons (.int 0) (.cons (.int 1) .nil))) .nil)))) (.cons (.call 12 (.cons (.int 4) (.cons (.tup (.cons (.int 0) (.cons (.int 2) .nil))) .nil))) (.cons (.call 12 (.cons (.int 4) (.cons (.tup (.cons (.int 0) (.cons (.int 1) (.cons (.int 2) .nil)))) .nil))) (.cons (.call 14 (.cons (.int 4) (.cons (.tup (.cons (.int 0) (.cons (.int 1) .nil))) (.cons (.int 3) .nil)))) (.cons (.call 15 (.cons (.int 8) (.cons (.tup (.cons (.int 0) (.cons (.int 1) .nil))) (.cons (.int 3) .nil)))) .nil))))))) (.cons (.set 1 (.tup (.cons (.tup (.cons (.int 1) (.cons (.int 2) (.cons (.int 1) (.cons (.int 0) .nil))))) (.cons (.tup (.cons (.tup (.cons (.int 0) (.cons (.int 1) .nil))) (.cons (.tup (.cons (.int 0) (.cons (.int 3) .nil))) .nil))) (.cons (.tup .nil) (.cons (.tup (.cons (.int 0) (.cons (.int 3) .nil))) (.cons (.tup (.cons (.int 0) (.cons (.int 3) .nil))) .nil))))))) (.cons (.set 2 (.tup (.cons (.call 15 (.cons (.int 8) (.cons (.tup (.cons (.int 0) (.cons (.int 4) .nil))) (.cons (.int 2) .nil)))) (.cons (.call 16 (.cons (.int 6) (.cons (.tup (.cons (.int 0) (.cons (.int 2) (.cons (.int 4) .nil)))) .nil))) (.cons (.call 17 (.cons (.int 8) (.cons (.int 3) .nil))) (.cons (.call 18 (.cons (.int 6) (.cons (.tup (.cons (.int 0) (.cons (.int 3) .nil))) (.cons (.tup (.cons (.int 0) (.cons (.int 2) (.cons (.int 4) .nil)))) .nil)))) (.cons (.call 16 (.cons (.int 6) (.cons (.tup (.cons (.int 0) (.cons (.int 1) .nil))) .nil))) .nil))))))) (.cons (.iff (.not (.call 22 (.cons (.call 12 (.cons (.int 6) (.cons (.tup (.cons (.int 0) (.cons (.int 5) .nil))) .nil))) (.cons (.tup (.cons (.tup (.cons (.int 0) (.cons (.int 2) (.cons (.int 4) .nil)))) .nil)) .nil)))) ((.cons (.ret (.bl false)) .nil)) (.nil)) (.cons (.ret (.and (.call 22 (.cons (.bin .add (.var 0) (.var 2)) (.cons (.bin .add (.var 1) (.tup (.cons (.non) (.cons (.int 2) (.cons (.tup (.cons (.int 0) (.cons (.int 2) (.cons (.int 5) .nil)))) (.cons (.int 1) (.cons (.int 6) .nil))))))) .nil))) (.and (.call 11 (.cons (.int 4) (.cons (.tup (.cons (.int 0) (.cons (.int 1) .nil))) (.cons (.tup (.cons (.int 0) (.cons (.int 2) .nil))) .nil)))) (.one (.not (.call 11 (.cons (.int 4) (.cons (.tup (.cons (.int 0) (.cons (.int 1) .nil))) (.cons (.tup (.cons (.int 0) (.cons (.int 1) .nil))) .nil))))))))) .nil)))))
def d26 : FDef := ⟨"_law_rows_right", ["told", "due", "more"], 0, false, b26⟩
/-! 27: _law_fillings(cycle, hits, many, found, size, longer, own, time) -/
abbrev st27 : Stmt := top 35
def b27_f0 : Ss := (.cons (.set 5 (.bin .add (.var 5) (.ife (.cmp .eq (.blt .max (.cons (.call 25 (.cons (.var 0) (.cons (.var 1) (.cons (.bin .add (.var 6) (.tup (.cons (.var 7) .nil))) .nil)))) .nil)) (.int 1)) (.disp false (.cons (.bin .add (.var 6) (.tup (.cons (.var 7) .nil))) .nil)) (.disp false .nil)))) (.clr [7] .nil))
def b27_f1 : Ss := (.cons (.forS (.nm 7) (.rng2 (.bin .add (.ix (.var 6) (.neg (.int 1))) (.int 1)) (.var 0)) b27_f0) (.clr [6, 7] .nil))
def b27_f2 : Ss := (.cons (.set 5 (.disp false .nil)) (.cons (.forS (.nm 6) (.seq (.var 3)) b27_f1) (.cons (.set 3 (.var 5)) (.clr [4, 5, 6, 7] .nil))))
def b27 : Ss := (.cons (.set 2 (.bin .fdiv (.var 0) (.blt .len (.cons (.var 1) .nil)))) (.cons (.set 3 (.ife (.cmp .eq (.bin .mul (.var 2) (.blt .len (.cons (.var 1) .nil))) (.var 0)) (.disp false (.cons (.tup (.cons (.int 0) .nil)) .nil)) (.disp false .nil))) (.cons (.forS (.nm 4) (.rng2 (.int 1) (.var 2)) b27_f2) (.cons (.ret (.var 3)) .nil))))
def d27 : FDef := ⟨"_law_fillings", ["cycle", "hits", "many", "found", "size", "longer", "own", "time"], 2, false, b27⟩
/-! 28: law(script, cup, turn, cycle, great, periods, own, both, many, odds, one, other, counts, fillings, time, times, later, lone, way, odd, at) -/
abbrev st28 : Stmt := top 36
def b28_f0 : Ss := (.cons (.drop (.app (.var 5) (.ix (.comp false [18] (.nm 18) (.rng2 (.int 1) (.bin .add (.var 3) (.int 1))) (.cmp .eq (.blt .sorted (.cons (.comp false [20] (.nm 20) (.seq (.var 6)) (.hole) (.bin .mod (.bin .add (.var 20) (.var 18)) (.var 3))) .nil)) (.blt .list (.cons (.var 6) .nil))) (.var 18)) (.int 0)))) (.clr [6] .nil))
def b28_f1 : Ss := (.cons (.iff (.or (.not (.call 11 (.cons (.var 3) (.cons (.var 6) (.cons (.var 10) .nil))))) (.one (.not (.call 11 (.cons (.var 3) (.cons (.call 14 (.cons (.var 3) (.cons (.var 10) (.cons (.var 14) .nil)))) (.cons (.var 6) .nil))))))) ((.cons (.ret (.bl false)) .nil)) (.nil)) (.cons (.set 17 (.cmp .eq (.comp false [18] (.nm 18) (.rng2 (.int 2) (.bin .add (.blt .len (.cons (.var 10) .nil)) (.int 1))) (.and (.cmp .eq (.bin .mod (.blt .len (.cons (.var 10) .nil)) (.var 18)) (.int 0)) (.one (.cmp .eq (.bin .mod (.var 15) (.var 18)) (.int 0)))) (.var 18)) (.disp false .nil))) (.cons (.iff (.and (.var 17) (.and (.cmp .gt (.var 15) (.int 0)) (.one (.not (.call 11 (.cons (.var 3) (.cons (.call 15 (.cons (.var 3) (.cons (.var 10) (.cons (.var 15) .nil)))) (.cons (.var 6) .nil)))))))) ((.cons (.ret (.bl false)) .nil)) (.nil)) (.clr [6, 17] .nil))))
def b28_f2 : Ss := (.cons (.set 3 (.call 21 (.cons (.var 1) (.cons (.disp false (.cons (.int 1) (.cons (.int 2) (.cons (.int 4) (.cons (.int 6) (.cons (.int 8) (.cons (.int 9) (.cons (.int 12) (.cons (.bin .add (.int 3) (.call 20 (.cons (.var 1) (.cons (.int 10) .nil)))) .nil))))))))) .nil)))) (.cons (.setT [10, 11] (.tup (.cons (.call 24 (.cons (.var 1) (.cons (.var 3) .nil))) (.cons (.call 24 (.cons (.var 1) (.cons (.var 3) .nil))) .nil)))) (.cons (.par [12, 13] (.cons (.call 25 (.cons (.var 3) (.cons (.var 10) (.cons (.var 11) .nil)))) (.cons (.call 27 (.cons (.var 3) (.cons (.var 10) .nil))) .nil))) (.cons (.iff (.not (.call 22 (.cons (.tup (.cons (.call 13 (.cons (.var 3) (.cons (.var 10) (.cons (.var 11) .nil)))) (.cons (.call 11 (.cons (.var 3) (.cons (.var 10) (.cons (.var 11) .nil)))) .nil))) (.cons (.tup (.cons (.blt .tuple (.cons (.var 12) .nil)) (.cons (.cmp .eq (.var 12) (.rep false (.disp false (.cons (.int 1) .nil)) (.var 3))) .nil))) .nil)))) ((.cons (.ret (.bl false)) .nil)) (.nil)) (.cons (.iff (.not (.call 22 (.cons (.call 12 (.cons (.var 3) (.cons (.var 10) .nil))) (.cons (.blt .tuple (.cons (.var 13) .nil)) .nil)))) ((.cons (.ret (.bl false)) .nil)) (.nil)) (.cons (.setT [14, 15] (.tup (.cons (.bin .sub (.call 20 (.cons (.var 1) (.cons (.int 193) .nil))) (.int 96)) (.cons (.call 20 (.cons (.var 1) (.cons (.int 97) .nil))) .nil)))) (.cons (.par [16, 4] (.cons (.blt .sorted (.cons (.comp false [6] (.nm 6) (.seq (.var 10)) (.hole) (.bin .mod (.bin .add (.var 6) (.var 14)) (.var 3))) .nil)) (.cons (.sset (.comp false [6] (.nm 6) (.seq (.var 10)) (.hole) (.bin .mod (.bin .mul (.var 6) (.var 15)) (.var 3)))) .nil))) (.cons (.set 4 (.ife (.cmp .eq (.blt .len (.cons (.var 4) .nil)) (.blt .len (.cons (.var 10) .nil))) (.blt .tuple (.cons (.var 4) .nil)) (.non))) (.cons (.iff (.not (.call 22 (.cons (.tup (.cons (.call 14 (.cons (.var 3) (.cons (.var 10) (.cons (.var 14) .nil)))) (.cons (.call 15 (.cons (.var 3) (.cons (.var 10) (.cons (.var 15) .nil)))) .nil))) (.cons (.tup (.cons (.blt .tuple (.cons (.var 16) .nil)) (.cons (.var 4) .nil))) .nil)))) ((.cons (.ret (.bl false)) .nil)) (.nil)) (.cons (.set 5 (.disp true .nil)) (.cons (.forS (.nm 6) (.seq (.tup (.cons (.var 10) (.cons (.var 11) .nil)))) b28_f0) (.frz 5 (.cons (.set 7 (.blt .max (.cons (.comp false [18] (.nm 18) (.rng2 (.int 1) (.bin .add (.var 3) (.int 1))) (.and (.cmp .eq (.bin .mod (.ix (.var 5) (.int 0)) (.var 18)) (.int 0)) (.one (.cmp .eq (.bin .mod (.ix (.var 5) (.int 1)) (.var 18)) (.int 0)))) (.var 18)) .nil))) (.cons (.iff (.not (.call 22 (.cons (.tup (.cons (.call 16 (.cons (.var 3) (.cons (.var 10) .nil))) (.cons (.call 18 (.cons (.var 3) (.cons (.var 10) (.cons (.var 11) .nil)))) .nil))) (.cons (.tup (.cons (.ix (.var 5) (.int 0)) (.cons (.var 7) .nil))) .nil)))) ((.cons (.ret (.bl false)) .nil)) (.nil)) (.cons (.set 8 (.bin .add (.int 1) (.call 20 (.cons (.var 1) (.cons (.var 3) .nil))))) (.cons (.iff (.not (.call 22 (.cons (.call 17 (.cons (.var 3) (.cons (.var 8) .nil))) (.cons (.blt .tuple (.cons (.comp false [20] (.nm 20) (.rng1 (.var 8)) (.hole) (.bin .fdiv (.bin .mul (.var 3) (.var 20)) (.var 8))) .nil)) .nil)))) ((.cons (.ret (.bl false)) .nil)) (.nil)) (.cons (.forS (.nm 6) (.seq (.sl (.var 13) (.hole) (.int 3))) b28_f1) (.cons (.set 9 (.disp false (.cons (.non) (.cons (.tup .nil) (.cons (.tup (.cons (.var 3) .nil)) (.cons (.bin .add (.rev (.var 10)) (.sl (.var 10) (.hole) (.int 1))) (.cons (.blt .list (.cons (.var 10) .nil)) (.cons (.bin .mul (.tup (.cons (.bl true) .nil)) (.int 2)) (.cons (.tup (.cons (.neg (.int 1)) .nil)) (.cons (.bin .add (.var 10) (.var 10)) .nil)))))))))) (.cons (.iff (.or (.blt .any (.cons (.comp false [19] (.nm 19) (.seq (.var 9)) (.hole) (.call 10 (.cons (.var 3) (.cons (.var 19) .nil)))) .nil)) (.one (.not (.call 10 (.cons (.var 3) (.cons (.var 10) .nil)))))) ((.cons (.ret (.bl false)) .nil)) (.nil)) (.clr [2, 3, 4, 5, 6, 7, 8, 9, 10, 11, 12, 13, 14, 15, 16, 17] .nil))))))))))))))))))))
def b28 : Ss := (.cons (.set 1 (.call 19 (.cons (.var 0) .nil))) (.cons (.iff (.not (.call 26 .nil)) ((.cons (.ret (.bl false)) .nil)) (.nil)) (.cons (.forS (.nm 2) (.rng1 (.int 4)) b28_f2) (.cons (.ret (.bl true)) .nil))))
def d28 : FDef := ⟨"law", ["script", "cup", "turn", "cycle", "great", "periods", "own", "both", "many", "odds", "one", "other", "counts", "fillings", "time", "times", "later", "lone", "way", "odd", "at"], 1, false, b28⟩
def prg : Prg := ⟨[d0, d1, d2, d3, d4, d5, d6, d7, d8, d9, d10, d11, d12, d13, d14, d15, d16, d17, d18, d19, d20, d21, d22, d23, d24, d25, d26, d27, d28], [("KEYS", .int 96), ("CYCLE", .int 24)], ["InvalidNumber"]⟩
def sts : List Stmt := [st0, st1, st2, st3, st4, st5, st6, st7, st8, st9, st10, st11, st12, st13, st14, st15, st16, st17, st18, st19, st20, st21, st22, st23, st24, st25, st26, st27, st28]
theorem c0 : chkDef prg.tab d0 st0 = true := by decide +kernel
theorem c1 : chkDef prg.tab d1 st1 = true := by decide +kernel
theorem c2 : chkDef prg.tab d2 st2 = true := by decide +kernel
theorem c3 : chkDef prg.tab d3 st3 = true := by decide +kernel
theorem c4 : chkDef prg.tab d4 st4 = true := by decide +kernel
theorem c5 : chkDef prg.tab d5 st5 = true := by decide +kernel
theorem c6 : chkDef prg.tab d6 st6 = true := by decide +kernel
theorem c7 : chkDef prg.tab d7 st7 = true := by decide +kernel
theorem c8 : chkDef prg.tab d8 st8 = true := by decide +kernel
theorem c9 : chkDef prg.tab d9 st9 = true := by decide +kernel
theorem c10 : chkDef prg.tab d10 st10 = true := by decide +kernel
theorem c11 : chkDef prg.tab d11 st11 = true := by decide +kernel
theorem c12 : chkDef prg.tab d12 st12 = true := by decide +kernel
theorem c13 : chkDef prg.tab d13 st13 = true := by decide +kernel
theorem c14 : chkDef prg.tab d14 st14 = true := by decide +kernel
theorem c15 : chkDef prg.tab d15 st15 = true := by decide +kernel
theorem c16 : chkDef prg.tab d16 st16 = true := by decide +kernel
theorem c17 : chkDef prg.tab d17 st17 = true := by decide +kernel
theorem c18 : chkDef prg.tab d18 st18 = true := by decide +kernel
theorem c19 : chkDef prg.tab d19 st19 = true := by decide +kernel
theorem c20 : chkDef prg.tab d20 st20 = true := by decide +kernel
theorem c21 : chkDef prg.tab d21 st21 = true := by decide +kernel
theorem c22 : chkDef prg.tab d22 st22 = true := by decide +kernel
theorem c23 : chkDef prg.tab d23 st23 = true := by decide +kernel
theorem c24 : chkDef prg.tab d24 st24 = true := by decide +kernel
theorem c25 : chkDef prg.tab d25 st25 = true := by decide +kernel
theorem c26 : chkDef prg.tab d26 st26 = true := by decide +kernel
theorem c27 : chkDef prg.tab d27 st27 = true := by decide +kernel
theorem c28 : chkDef prg.tab d28 st28 = true := by decide +kernel
theorem i0 : BindD d0 st0 := fun _ _ _ _ _ _ us hl => match us, hl with | [_], _ => rfl
theorem i1 : BindD d1 st1 := fun _ _ _ _ _ _ us hl => match us, hl with | [_, _, _], _ => rfl
theorem i2 : BindD d2 st2 := fun _ _ _ _ _ _ us hl => match us, hl with | [_, _, _], _ => rfl
theorem i3 : BindD d3 st3 := fun _ _ _ _ _ _ us hl => match us, hl with | [_], _ => rfl
theorem i4 : BindD d4 st4 := fun _ _ _ _ _ _ us hl => match us, hl with | [_, _], _ => rfl
theorem i5 : BindD d5 st5 := fun _ _ _ _ _ _ us hl => match us, hl with | [_, _, _], _ => rfl
theorem i6 : BindD d6 st6 := fun _ _ _ _ _ _ us hl => match us, hl with | [_, _], _ => rfl
theorem i7 : BindD d7 st7 := fun _ _ _ _ _ _ us hl => match us, hl with | [_, _], _ => rfl
theorem i8 : BindD d8 st8 := fun _ _ _ _ _ _ us hl => match us, hl with | [_, _, _], _ => rfl
theorem i9 : BindD d9 st9 := fun _ _ _ _ _ _ us hl => match us, hl with | [_, _], _ => rfl
theorem i10 : BindD d10 st10 := fun _ _ _ _ _ _ us hl => match us, hl with | [_, _], _ => rfl
theorem i11 : BindD d11 st11 := fun _ _ _ _ _ _ us hl => match us, hl with | [_, _, _], _ => rfl
theorem i12 : BindD d12 st12 := fun _ _ _ _ _ _ us hl => match us, hl with | [_, _], _ => rfl
theorem i13 : BindD d13 st13 := fun _ _ _ _ _ _ us hl => match us, hl with | [_, _, _], _ => rfl
theorem i14 : BindD d14 st14 := fun _ _ _ _ _ _ us hl => match us, hl with | [_, _, _], _ => rfl
theorem i15 : BindD d15 st15 := fun _ _ _ _ _ _ us hl => match us, hl with | [_, _, _], _ => rfl
theorem i16 : BindD d16 st16 := fun _ _ _ _ _ _ us hl => match us, hl with | [_, _], _ => rfl
theorem i17 : BindD d17 st17 := fun _ _ _ _ _ _ us hl => match us, hl with | [_, _], _ => rfl
theorem i18 : BindD d18 st18 := fun _ _ _ _ _ _ us hl => match us, hl with | [_, _, _], _ => rfl
theorem i19 : BindD d19 st19 := fun _ _ _ _ _ _ us hl => match us, hl with | [_], _ => rfl
theorem i20 : BindD d20 st20 := fun _ _ _ _ _ _ us hl => match us, hl with | [_, _], _ => rfl
theorem i21 : BindD d21 st21 := fun _ _ _ _ _ _ us hl => match us, hl with | [_, _], _ => rfl
theorem i22 : BindD d22 st22 := fun _ _ _ _ _ _ us hl => match us, hl with | [_, _], _ => rfl
theorem i23 : BindD d23 st23 := fun _ _ _ _ _ _ us hl => match us, hl with | [_, _, _, _], _ => rfl
theorem i24 : BindD d24 st24 := fun _ _ _ _ _ _ us hl => match us, hl with | [_, _], _ => rfl
theorem i25 : BindD d25 st25 := fun _ _ _ _ _ _ us hl => match us, hl with | [_, _, _], _ => rfl
theorem i26 : BindD d26 st26 := fun _ _ _ _ _ _ us hl => match us, hl with | [], _ => rfl
theorem i27 : BindD d27 st27 := fun _ _ _ _ _ _ us hl => match us, hl with | [_, _], _ => rfl
theorem i28 : BindD d28 st28 := fun _ _ _ _ _ _ us hl => match us, hl with | [_], _ => rfl
theorem defs_ok : Defs prg.tab prg.defs sts := .cons c0 i0 (.cons c1 i1 (.cons c2 i2 (.cons c3 i3 (.cons c4 i4 (.cons c5 i5 (.cons c6 i6 (.cons c7 i7 (.cons c8 i8 (.cons c9 i9 (.cons c10 i10 (.cons c11 i11 (.cons c12 i12 (.cons c13 i13 (.cons c14 i14 (.cons c15 i15 (.cons c16 i16 (.cons c17 i17 (.cons c18 i18 (.cons c19 i19 (.cons c20 i20 (.cons c21 i21 (.cons c22 i22 (.cons c23 i23 (.cons c24 i24 (.cons c25 i25 (.cons c26 i26 (.cons c27 i27 (.cons c28 i28 (.nil)))))))))))))))))))))))))))))
def nm0 : List PySem.Str := ["is_whole", "fits_whole", "is_tuple_of", "is_rising", "divisor_in", "need_number", "fits_hits", "need_hits", "filled_in", "fillings_in", "are_hits", "is_filling", "fillings_of", "hit_counts", "turned_hits", "times_hits", "hit_period", "even_hits", "common_period", "_law_cup", "_law_roll", "_law_some", "_law_same", "_law_chord", "_law_hits", "_law_hit", "_law_rows_right", "_law_fillings", "KEYS", "CYCLE"]
def nm1 : List PySem.Str := ["KeysError", "InvalidNumber"]
def names : List PySem.Str := nm0 ++ nm1
def lawIx : Nat := 28
@[simp] theorem tcons : prg.tab.cons = ([("KEYS", .int 96), ("CYCLE", .int 24)] : List (PySem.Str × D)) := rfl
theorem r_is_whole (k : Nat) (x0 : D) (cs : CS) : run prg (k + 1) 0 [x0] cs = endR false cs (evSs (run prg k) prg.tab b0 [some x0] cs) := run_at (p := prg) (f := 0) (d := d0) rfl k rfl cs
theorem r_fits_whole (k : Nat) (x0 x1 x2 : D) (cs : CS) : run prg (k + 1) 1 [x0, x1, x2] cs = endR false cs (evSs (run prg k) prg.tab b1 [some x0, some x1, some x2] cs) := run_at (p := prg) (f := 1) (d := d1) rfl k rfl cs
theorem r_is_tuple_of (k : Nat) (x0 x1 x2 : D) (cs : CS) : run prg (k + 1) 2 [x0, x1, x2] cs = endR false cs (evSs (run prg k) prg.tab b2 [some x0, some x1, some x2] cs) := run_at (p := prg) (f := 2) (d := d2) rfl k rfl cs
theorem r_is_rising (k : Nat) (x0 : D) (cs : CS) : run prg (k + 1) 3 [x0] cs = endR false cs (evSs (run prg k) prg.tab b3 [some x0, none, none] cs) := run_at (p := prg) (f := 3) (d := d3) rfl k rfl cs
theorem r_divisor_in (k : Nat) (x0 x1 : D) (cs : CS) : run prg (k + 1) 4 [x0, x1] cs = endR false cs (evSs (run prg k) prg.tab b4 [some x0, some x1] cs) := run_at (p := prg) (f := 4) (d := d4) rfl k rfl cs
theorem r_need_number (k : Nat) (x0 x1 x2 : D) (cs : CS) : run prg (k + 1) 5 [x0, x1, x2] cs = endR false cs (evSs (run prg k) prg.tab b5 [some x0, some x1, some x2] cs) := run_at (p := prg) (f := 5) (d := d5) rfl k rfl cs
theorem r_fits_hits (k : Nat) (x0 x1 : D) (cs : CS) : run prg (k + 1) 6 [x0, x1] cs = endR false cs (evSs (run prg k) prg.tab b6 [some x0, some x1, none] cs) := run_at (p := prg) (f := 6) (d := d6) rfl k rfl cs
theorem r_need_hits (k : Nat) (x0 x1 : D) (cs : CS) : run prg (k + 1) 7 [x0, x1] cs = endR false cs (evSs (run prg k) prg.tab b7 [some x0, some x1] cs) := run_at (p := prg) (f := 7) (d := d7) rfl k rfl cs
theorem r_filled_in (k : Nat) (x0 x1 x2 : D) (cs : CS) : run prg (k + 1) 8 [x0, x1, x2] cs = endR false cs (evSs (run prg k) prg.tab b8 [some x0, some x1, some x2, none, none, none] cs) := run_at (p := prg) (f := 8) (d := d8) rfl k rfl cs
theorem r_fillings_in (k : Nat) (x0 x1 : D) (cs : CS) : run prg (k + 1) 9 [x0, x1] cs = endR false cs (evSs (run prg k) prg.tab b9 [some x0, some x1, none, none, none, none, none, none, none, none, none, none] cs) := run_at (p := prg) (f := 9) (d := d9) rfl k rfl cs
theorem r_are_hits (k : Nat) (x0 x1 : D) (cs : CS) : run prg (k + 1) 10 [x0, x1] cs = endR false cs (evSs (run prg k) prg.tab b10 [some x0, some x1] cs) := run_at (p := prg) (f := 10) (d := d10) rfl k rfl cs
theorem r_is_filling (k : Nat) (x0 x1 x2 : D) (cs : CS) : run prg (k + 1) 11 [x0, x1, x2] cs = endR false cs (evSs (run prg k) prg.tab b11 [some x0, some x1, some x2] cs) := run_at (p := prg) (f := 11) (d := d11) rfl k rfl cs
theorem r_fillings_of (k : Nat) (x0 x1 : D) (cs : CS) : run prg (k + 1) 12 [x0, x1] cs = endR false cs (evSs (run prg k) prg.tab b12 [some x0, some x1] cs) := run_at (p := prg) (f := 12) (d := d12) rfl k rfl cs
theorem r_hit_counts (k : Nat) (x0 x1 x2 : D) (cs : CS) : run prg (k + 1) 13 [x0, x1, x2] cs = endR false cs (evSs (run prg k) prg.tab b13 [some x0, some x1, some x2] cs) := run_at (p := prg) (f := 13) (d := d13) rfl k rfl cs
theorem r_turned_hits (k : Nat) (x0 x1 x2 : D) (cs : CS) : run prg (k + 1) 14 [x0, x1, x2] cs = endR false cs (evSs (run prg k) prg.tab b14 [some x0, some x1, some x2, none] cs) := run_at (p := prg) (f := 14) (d := d14) rfl k rfl cs
theorem r_times_hits (k : Nat) (x0 x1 x2 : D) (cs : CS) : run prg (k + 1) 15 [x0, x1, x2] cs = endR false cs (evSs (run prg k) prg.tab b15 [some x0, some x1, some x2, none, none] cs) := run_at (p := prg) (f := 15) (d := d15) rfl k rfl cs
theorem r_hit_period (k : Nat) (x0 x1 : D) (cs : CS) : run prg (k + 1) 16 [x0, x1] cs = endR false cs (evSs (run prg k) prg.tab b16 [some x0, some x1, none, none] cs) := run_at (p := prg) (f := 16) (d := d16) rfl k rfl cs
theorem r_even_hits (k : Nat) (x0 x1 : D) (cs : CS) : run prg (k + 1) 17 [x0, x1] cs = endR false cs (evSs (run prg k) prg.tab b17 [some x0, some x1, none] cs) := run_at (p := prg) (f := 17) (d := d17) rfl k rfl cs
theorem r_common_period (k : Nat) (x0 x1 x2 : D) (cs : CS) : run prg (k + 1) 18 [x0, x1, x2] cs = endR false cs (evSs (run prg k) prg.tab b18 [some x0, some x1, some x2] cs) := run_at (p := prg) (f := 18) (d := d18) rfl k rfl cs
theorem r__law_cup (k : Nat) (x0 : D) (cs : CS) : run prg (k + 1) 19 [x0] cs = endR true cs (evSs (run prg k) prg.tab b19 [some x0, none] cs) := run_at (p := prg) (f := 19) (d := d19) rfl k rfl cs
theorem r__law_roll (k : Nat) (x0 x1 : D) (cs : CS) : run prg (k + 1) 20 [x0, x1] cs = endR false cs (evSs (run prg k) prg.tab b20 [some x0, some x1, none, none] cs) := run_at (p := prg) (f := 20) (d := d20) rfl k rfl cs
theorem r__law_some (k : Nat) (x0 x1 : D) (cs : CS) : run prg (k + 1) 21 [x0, x1] cs = endR false cs (evSs (run prg k) prg.tab b21 [some x0, some x1] cs) := run_at (p := prg) (f := 21) (d := d21) rfl k rfl cs
theorem r__law_same (k : Nat) (x0 x1 : D) (cs : CS) : run prg (k + 1) 22 [x0, x1] cs = endR false cs (evSs (run prg k) prg.tab b22 [some x0, some x1, none] cs) := run_at (p := prg) (f := 22) (d := d22) rfl k rfl cs
theorem r__law_chord (k : Nat) (x0 x1 x2 x3 : D) (cs : CS) : run prg (k + 1) 23 [x0, x1, x2, x3] cs = endR false cs (evSs (run prg k) prg.tab b23 [some x0, some x1, some x2, some x3, none, none, none, none] cs) := run_at (p := prg) (f := 23) (d := d23) rfl k rfl cs
theorem r__law_hits (k : Nat) (x0 x1 : D) (cs : CS) : run prg (k + 1) 24 [x0, x1] cs = endR false cs (evSs (run prg k) prg.tab b24 [some x0, some x1] cs) := run_at (p := prg) (f := 24) (d := d24) rfl k rfl cs
theorem r__law_hit (k : Nat) (x0 x1 x2 : D) (cs : CS) : run prg (k + 1) 25 [x0, x1, x2] cs = endR false cs (evSs (run prg k) prg.tab b25 [some x0, some x1, some x2, none, none, none] cs) := run_at (p := prg) (f := 25) (d := d25) rfl k rfl cs
theorem r__law_rows_right (k : Nat) (cs : CS) : run prg (k + 1) 26 [] cs = endR false cs (evSs (run prg k) prg.tab b26 [none, none, none] cs) := run_at (p := prg) (f := 26) (d := d26) rfl k rfl cs
theorem r__law_fillings (k : Nat) (x0 x1 : D) (cs : CS) : run prg (k + 1) 27 [x0, x1] cs = endR false cs (evSs (run prg k) prg.tab b27 [some x0, some x1, none, none, none, none, none, none] cs) := run_at (p := prg) (f := 27) (d := d27) rfl k rfl cs
theorem r_law (k : Nat) (x0 : D) (cs : CS) : run prg (k + 1) 28 [x0] cs = endR false cs (evSs (run prg k) prg.tab b28 [some x0, none, none, none, none, none, none, none, none, none, none, none, none, none, none, none, none, none, none, none, none] cs) := run_at (p := prg) (f := 28) (d := d28) rfl k rfl cs
theorem h_is_whole : prg.defs[0]? = some (wholeD) := rfl
theorem h_fits_whole : prg.defs[1]? = some (fitsD 0) := rfl
theorem h_is_tuple_of : prg.defs[2]? = some (tupOfD) := rfl
theorem h_need_number : prg.defs[5]? = some (needD 1 0) := rfl
theorem h__law_same : prg.defs[22]? = some (sameD 22) := rfl
theorem h__law_cup : prg.defs[19]? = some (cupD 229 14221 16417 2041828759 12613) := rfl
def rc : RC := ⟨37689, 18169, 2147483423, 14957, 2147483587, 11941⟩
theorem rc_ok : rc.ok = true := by decide
theorem h__law_roll : prg.defs[20]? = some (rollD rc) := rfl
end KP

/-! k81, k82: plain facts of hits. -/
namespace KP
open KH
/-- hits: rising, within the cycle -/
structure Hits (c : Nat) (A : List Int) : Prop where
  one : A ≠ []
  lt : A.Pairwise (· < ·)
  bd : ∀ a ∈ A, 0 ≤ a ∧ a < c
def cnt (c : Nat) (A B : List Int) (t : Int) : Nat := B.countP fun b => decide ((t - b) % (c : Int) ∈ A)
def cntL (c : Nat) (A B : List Int) : List Int := (List.range c).map fun (t : Nat) => ((cnt c A B t : Nat) : Int)
def bump (F : Nat → Int) (u : Nat) : Nat → Int := fun t => if t = u then F u + 1 else F t
def fillB (c : Nat) (A : List Int) (F : Nat → Int) (b : Int) : Nat → Int := A.foldl (fun F a => bump F ((b + a) % (c : Int)).toNat) F
theorem fillB_at (c : Nat) (b : Int) : ∀ (A : List Int) (F : Nat → Int) (t : Nat), fillB c A F b t = F t + (A.countP fun a => decide (((b + a) % (c : Int)).toNat = t) : Nat)
  | [], F, t => by simp [fillB]
  | a :: A, F, t => by
    show fillB c A (bump F _) b t = _
    rw [fillB_at c b A, List.countP_cons]
    unfold bump
    by_cases h : ((b + a) % (c : Int)).toNat = t
    · subst h
      simp
      omega
    · rw [if_neg (fun e => h e.symm)]
      simp [h]
theorem mod_iff {c : Nat} {a b : Int} {t : Nat} (ht : t < c) (h0 : 0 ≤ a) (h1 : a < c) : ((b + a) % (c : Int)).toNat = t ↔ a = ((t : Int) - b) % (c : Int) := by
  have hc : (0 : Int) < c := by omega
  have p1 := Int.emod_nonneg (b + a) (show (c : Int) ≠ 0 by omega)
  constructor
  · intro h
    have e : (b + a) % (c : Int) = t := by omega
    have : ((t : Int) - b) % (c : Int) = a % (c : Int) := by
      rw [← e, Int.emod_sub_emod]
      congr 1
      omega
    rw [this, Int.emod_eq_of_lt h0 h1]
  · intro h
    have : (b + a) % (c : Int) = t := by
      rw [h, Int.add_emod_emod, show b + ((t : Int) - b) = t by omega, Int.emod_eq_of_lt (by omega) (by omega)]
    omega
theorem cnt_mem {c : Nat} {A : List Int} (h : Hits c A) (b : Int) (t : Nat) (ht : t < c) : (A.countP fun a => decide (((b + a) % (c : Int)).toNat = t)) = if ((t : Int) - b) % (c : Int) ∈ A then 1 else 0 := by
  have nd : A.Nodup := h.lt.imp fun h => by omega
  have e : A.countP (fun a => decide (((b + a) % (c : Int)).toNat = t)) = A.count (((t : Int) - b) % (c : Int)) := by
    unfold List.count
    refine List.countP_congr fun a ha => ?_
    have := h.bd a ha
    have := mod_iff (b := b) ht this.1 this.2
    simp [this]
  rw [e]
  by_cases hm : ((t : Int) - b) % (c : Int) ∈ A
  · rw [if_pos hm, nd.count, if_pos hm]
  · rw [if_neg hm, List.count_eq_zero_of_not_mem hm]
theorem fill_all {c : Nat} {A : List Int} (h : Hits c A) : ∀ (B : List Int) (F : Nat → Int) (t : Nat), t < c → B.foldl (fillB c A) F t = F t + (cnt c A B t : Nat)
  | [], F, t, _ => by simp [cnt]
  | b :: B, F, t, ht => by
    rw [List.foldl_cons, fill_all h B _ t ht, fillB_at, cnt_mem h b t ht]
    unfold cnt
    rw [List.countP_cons]
    by_cases hm : ((t : Int) - b) % (c : Int) ∈ A <;> simp [hm] <;> omega
theorem cnt_app (c : Nat) (A B C : List Int) (t : Int) : cnt c A (B ++ C) t = cnt c A B t + cnt c A C t := by
  unfold cnt
  rw [List.countP_append]
theorem cnt_perm {c : Nat} {A B C : List Int} (h : B.Perm C) (t : Int) : cnt c A B t = cnt c A C t := h.countP_eq _
/-! how many in all -/
theorem range_one (c u : Nat) (h : u < c) : (List.range c).countP (fun t => decide (t = u)) = 1 := by
  have := List.nodup_range (n := c)
  show (List.range c).count u = 1
  rw [this.count, if_pos (List.mem_range.mpr h)]
theorem cnt_one {c : Nat} (b : Int) (hc : 0 < c) : ∀ {A : List Int}, A.Nodup → (∀ a ∈ A, 0 ≤ a ∧ a < c) → (List.range c).countP (fun (t : Nat) => decide (((t : Int) - b) % (c : Int) ∈ A)) = A.length
  | [], _, _ => by simp
  | a :: A, hn, hb => by
    obtain ⟨h1, h2⟩ := List.nodup_cons.mp hn
    have ih := cnt_one b hc h2 fun x hx => hb x (List.mem_cons_of_mem _ hx)
    have ha := hb a List.mem_cons_self
    have p1 := Int.emod_nonneg (b + a) (show (c : Int) ≠ 0 by omega)
    have p2 := Int.emod_lt_of_pos (b + a) (show (0 : Int) < c by omega)
    have e1 := range_one c ((b + a) % (c : Int)).toNat (by omega)
    rw [List.length_cons, ← ih, ← e1]
    have key : ∀ l : List Nat, (∀ t ∈ l, t < c) → l.countP (fun (t : Nat) => decide (((t : Int) - b) % (c : Int) ∈ a :: A)) = l.countP (fun (t : Nat) => decide (((t : Int) - b) % (c : Int) ∈ A)) + l.countP (fun t => decide (t = ((b + a) % (c : Int)).toNat)) := by
      intro l
      induction l with
      | nil => intro _; rfl
      | cons t l ih =>
        intro hl
        rw [List.countP_cons, List.countP_cons, List.countP_cons, ih fun x hx => hl x (List.mem_cons_of_mem _ hx)]
        have m := mod_iff (b := b) (hl t List.mem_cons_self) ha.1 ha.2
        by_cases q : ((b + a) % (c : Int)).toNat = t
        · have q2 := m.mp q
          have q3 : ((t : Int) - b) % (c : Int) ∉ A := by rw [← q2]; exact h1
          have d1 : decide (((t : Int) - b) % (c : Int) ∈ a :: A) = true := by rw [← q2]; simp
          have d2 : decide (((t : Int) - b) % (c : Int) ∈ A) = false := by simpa using q3
          have d3 : decide (t = ((b + a) % (c : Int)).toNat) = true := by simpa using q.symm
          rw [d1, d2, d3]
          simp only [if_true, Bool.false_eq_true, if_false]
          omega
        · have q2 : ¬ ((t : Int) - b) % (c : Int) = a := fun e => q (m.mpr e.symm)
          have q3 : ¬ t = ((b + a) % (c : Int)).toNat := fun e => q e.symm
          simp [q2, q3]
          omega
    exact key _ fun t ht => List.mem_range.mp ht
theorem sum_cnt {c : Nat} {A : List Int} (h : Hits c A) (hc : 0 < c) : ∀ B : List Int, ((List.range c).map fun (t : Nat) => cnt c A B t).sum = B.length * A.length
  | [] => by
    have : ∀ l : List Nat, (l.map fun (_ : Nat) => 0).sum = 0 := fun l => by induction l with | nil => rfl | cons x l ih => simpa using ih
    simp [cnt, this]
  | b :: B => by
    have ih := sum_cnt h hc B
    have o := cnt_one (c := c) (A := A) b hc (h.lt.imp fun h => by omega) h.bd
    rw [List.length_cons, Nat.succ_mul, ← ih, ← o]
    have key : ∀ l : List Nat, (l.map fun (t : Nat) => cnt c A (b :: B) t).sum = (l.map fun (t : Nat) => cnt c A B t).sum + l.countP fun (t : Nat) => decide (((t : Int) - b) % (c : Int) ∈ A) := by
      intro l
      induction l with
      | nil => rfl
      | cons t l ih =>
        rw [List.map_cons, List.sum_cons, ih, List.map_cons, List.sum_cons, List.countP_cons]
        unfold cnt
        rw [List.countP_cons]
        split <;> omega
    exact key _
theorem sum_le_one : ∀ (l : List Nat) (f : Nat → Nat), (∀ t ∈ l, f t ≤ 1) → (l.map f).sum ≤ l.length ∧ ((l.map f).sum = l.length → ∀ t ∈ l, f t = 1)
  | [], _, _ => by simp
  | x :: l, f, h => by
    obtain ⟨h1, h2⟩ := sum_le_one l f fun t ht => h t (List.mem_cons_of_mem _ ht)
    have hx := h x List.mem_cons_self
    rw [List.map_cons, List.sum_cons, List.length_cons]
    refine ⟨by omega, fun e t ht => ?_⟩
    rcases List.mem_cons.mp ht with rfl | ht
    · omega
    · exact h2 (by omega) t ht
theorem sum_ones : ∀ (l : List Nat) (f : Nat → Nat), (∀ t ∈ l, f t = 1) → (l.map f).sum = l.length
  | [], _, _ => rfl
  | x :: l, f, h => by
    rw [List.map_cons, List.sum_cons, List.length_cons, sum_ones l f fun t ht => h t (List.mem_cons_of_mem _ ht), h x List.mem_cons_self]
    omega
/-! nodup lists -/
theorem nodup_le : ∀ {n B : List Int}, n.Nodup → (∀ x ∈ n, x ∈ B) → n.length ≤ B.length
  | [], _, _, _ => Nat.zero_le _
  | x :: n, B, hn, h => by
    obtain ⟨h1, h2⟩ := List.nodup_cons.mp hn
    have hx := h x List.mem_cons_self
    have := nodup_le (B := B.erase x) h2 fun y hy => (List.mem_erase_of_ne (by rintro rfl; exact h1 hy)).mpr (h y (List.mem_cons_of_mem _ hy))
    rw [List.length_erase_of_mem hx] at this
    have := List.length_pos_of_mem hx
    rw [List.length_cons]
    omega
theorem nodup_eq {n B : List Int} (hn : n.Nodup) (h : ∀ x ∈ n, x ∈ B) (hl : B.length ≤ n.length) : ∀ x ∈ B, x ∈ n := fun x hx => by
  by_cases q : x ∈ n
  · exact q
  · have := nodup_le (n := x :: n) (B := B) (List.nodup_cons.mpr ⟨q, hn⟩) fun y hy => by
      rcases List.mem_cons.mp hy with rfl | hy
      · exact hx
      · exact h y hy
    rw [List.length_cons] at this
    omega
theorem nodup_cnt (c : Nat) (A : List Int) (t : Int) {n B : List Int} (hn : n.Nodup) (h : ∀ x ∈ n, x ∈ B) : cnt c A n t ≤ cnt c A B t := by
  unfold cnt
  rw [List.countP_eq_length_filter, List.countP_eq_length_filter]
  exact nodup_le (hn.filter _) fun x hx => List.mem_filter.mpr ⟨h x (List.mem_filter.mp hx).1, (List.mem_filter.mp hx).2⟩
end KP

/-! k81, k82: the search for fillings, and what it finds. -/
namespace KP
open KH
def sortI (l : List Int) : List Int := l.mergeSort fun a b => decide (a ≤ b)
theorem sortI_perm (l : List Int) : (sortI l).Perm l := List.mergeSort_perm ..
theorem sortI_le (l : List Int) : (sortI l).Pairwise (· ≤ ·) := (List.pairwise_mergeSort (le := fun a b : Int => decide (a ≤ b)) (fun a b c h k => by simp at *; omega) (fun a b => by simp; omega) l).imp fun h => by simpa using h
theorem sortI_lt {l : List Int} (h : l.Nodup) : (sortI l).Pairwise (· < ·) := by
  have h1 := sortI_le l
  have h2 : (sortI l).Nodup := (sortI_perm l).nodup_iff.mpr h
  exact (List.Pairwise.and h1 h2).imp fun h => by have := h.1; have := h.2; omega
theorem sortI_id {l : List Int} (h : l.Pairwise (· < ·)) : sortI l = l := List.mergeSort_of_pairwise (h.imp fun h => by simp; omega)
theorem lt_unique {a b : List Int} (ha : a.Pairwise (· < ·)) (hb : b.Pairwise (· < ·)) (h : ∀ z, z ∈ a ↔ z ∈ b) : a = b := rises_one ha hb h
/-- the whole cycle is hit, once -/
def Til (c : Nat) (A B : List Int) : Prop := ∀ t : Nat, t < c → cnt c A B t = 1
def NoOv (c : Nat) (A B : List Int) : Prop := ∀ t : Nat, t < c → cnt c A B t ≤ 1
instance (c : Nat) (A B : List Int) : Decidable (Til c A B) := inferInstanceAs (Decidable (∀ t, t < c → _))
instance (c : Nat) (A B : List Int) : Decidable (NoOv c A B) := inferInstanceAs (Decidable (∀ t, t < c → _))
def gap (c : Nat) (A n : List Int) : Nat := (cntL c A n).idxOf 0
theorem cntL_mem {c : Nat} {A n : List Int} {x : Int} : x ∈ cntL c A n ↔ ∃ t : Nat, t < c ∧ (cnt c A n t : Int) = x := by
  unfold cntL
  rw [List.mem_map]
  exact ⟨fun ⟨t, h, e⟩ => ⟨t, List.mem_range.mp h, e⟩, fun ⟨t, h, e⟩ => ⟨t, List.mem_range.mpr h, e⟩⟩
theorem cntL_len (c : Nat) (A n : List Int) : (cntL c A n).length = c := by simp [cntL]
theorem gap_at {c : Nat} {A n : List Int} (h : NoOv c A n) (h2 : ¬ Til c A n) : gap c A n < c ∧ cnt c A n (gap c A n) = 0 ∧ (0 : Int) ∈ cntL c A n := by
  have hm : (0 : Int) ∈ cntL c A n := by
    by_cases q : (0 : Int) ∈ cntL c A n
    · exact q
    · refine absurd (fun t ht => ?_) h2
      have := h t ht
      by_cases e : cnt c A n t = 0
      · exact absurd (cntL_mem.mpr ⟨t, ht, by rw [e]; rfl⟩) q
      · omega
  have hl := List.idxOf_lt_length_iff.mpr hm
  have hg : (cntL c A n)[(cntL c A n).idxOf 0]? = some 0 := by rw [List.getElem?_eq_getElem hl, List.getElem_idxOf hl]
  rw [cntL_len] at hl
  refine ⟨hl, ?_, hm⟩
  have e : (cntL c A n)[gap c A n]? = some ((cnt c A n (gap c A n) : Nat) : Int) := by
    unfold cntL
    rw [List.getElem?_map, List.getElem?_range (show gap c A n < c from hl)]
    rfl
  rw [show (cntL c A n).idxOf 0 = gap c A n from rfl, e] at hg
  exact Int.ofNat_inj.mp (Option.some.inj hg)
/-- the one that fills the gap by a -/
def kid (c : Nat) (g : Nat) (n : List Int) (a : Int) : List Int := n ++ [((g : Int) - a) % (c : Int)]
/-- what a node leads to, and in how many turns -/
def lv (c : Nat) (A : List Int) : Nat → List Int → List (List Int)
  | 0, _ => []
  | r + 1, n => if Til c A n then [sortI n] else if NoOv c A n then A.reverse.flatMap fun a => lv c A r (kid c (gap c A n) n a) else []
def sz (c : Nat) (A : List Int) : Nat → List Int → Nat
  | 0, _ => 1
  | r + 1, n => if Til c A n then 1 else if NoOv c A n then 1 + (A.map fun a => sz c A r (kid c (gap c A n) n a)).sum else 1
structure Node (c : Nat) (n : List Int) : Prop where
  nd : n.Nodup
  bd : ∀ x ∈ n, 0 ≤ x ∧ x < c
/-- a filling, in rising order -/
structure TilS (c : Nat) (A B : List Int) : Prop where
  lt : B.Pairwise (· < ·)
  bd : ∀ x ∈ B, 0 ≤ x ∧ x < c
  til : Til c A B
theorem til_len {c : Nat} {A B : List Int} (h : Hits c A) (hc : 0 < c) (t : Til c A B) : B.length * A.length = c := by
  rw [← sum_cnt h hc B, sum_ones _ _ fun x hx => t x (List.mem_range.mp hx), List.length_range]
theorem noov_len {c : Nat} {A B : List Int} (h : Hits c A) (hc : 0 < c) (t : NoOv c A B) : B.length * A.length ≤ c ∧ (B.length * A.length = c → Til c A B) := by
  obtain ⟨h1, h2⟩ := sum_le_one (List.range c) (fun t => cnt c A B t) fun x hx => t x (List.mem_range.mp hx)
  rw [sum_cnt h hc B, List.length_range] at h1 h2
  exact ⟨h1, fun e t ht => h2 e t (List.mem_range.mpr ht)⟩
theorem til_noov {c : Nat} {A B : List Int} (t : Til c A B) : NoOv c A B := fun x hx => by rw [t x hx]; exact Nat.le_refl _
theorem kid_node {c : Nat} {A n : List Int} (hc : 0 < c) (N : Node c n) (h : NoOv c A n) (h2 : ¬ Til c A n) {a : Int} (ha : a ∈ A) (hb : 0 ≤ a ∧ a < c) : Node c (kid c (gap c A n) n a) := by
  obtain ⟨g1, g2, -⟩ := gap_at h h2
  have p1 := Int.emod_nonneg (((gap c A n : Nat) : Int) - a) (show (c : Int) ≠ 0 by omega)
  have p2 := Int.emod_lt_of_pos (((gap c A n : Nat) : Int) - a) (show (0 : Int) < c by omega)
  unfold kid
  refine ⟨List.nodup_append.mpr ⟨N.nd, by simp, fun x hx y hy => ?_⟩, fun x hx => ?_⟩
  · rw [List.mem_singleton.mp hy]
    rintro rfl
    have : 0 < cnt c A n (gap c A n) := by
      refine List.countP_pos_iff.mpr ⟨_, hx, ?_⟩
      rw [decide_eq_true_iff, Int.sub_emod_emod, show ((gap c A n : Nat) : Int) - (((gap c A n : Nat) : Int) - a) = a by omega, Int.emod_eq_of_lt hb.1 hb.2]
      exact ha
    omega
  · rcases List.mem_append.mp hx with hx | hx
    · exact N.bd x hx
    · rw [List.mem_singleton.mp hx]
      exact ⟨p1, p2⟩
theorem lv_mem {c : Nat} {A : List Int} (h : Hits c A) (hc : 0 < c) (B : List Int) : ∀ (r : Nat) (n : List Int), Node c n → c < (n.length + r) * A.length → 0 < r ∨ c < n.length * A.length → (B ∈ lv c A r n ↔ TilS c A B ∧ ∀ x ∈ n, x ∈ B)
  | 0, n, N, hr, h0 => by
    refine ⟨fun q => (List.not_mem_nil q).elim, fun ⟨t, hs⟩ => ?_⟩
    have h1 := til_len h hc t.til
    have h2 := nodup_le N.nd hs
    have := Nat.mul_le_mul_right A.length h2
    omega
  | r + 1, n, N, hr, h0 => by
    unfold lv
    by_cases h1 : Til c A n
    · rw [if_pos h1, List.mem_singleton]
      constructor
      · rintro rfl
        refine ⟨⟨sortI_lt N.nd, fun x hx => N.bd x ((sortI_perm n).mem_iff.mp hx), fun t ht => ?_⟩, fun x hx => (sortI_perm n).mem_iff.mpr hx⟩
        rw [cnt_perm (sortI_perm n)]
        exact h1 t ht
      · rintro ⟨t, hs⟩
        have e1 := til_len h hc t.til
        have e2 := til_len h hc h1
        have hp : 0 < A.length := List.length_pos_iff.mpr h.one
        have e3 : B.length = n.length := Nat.eq_of_mul_eq_mul_right hp (e1.trans e2.symm)
        refine lt_unique t.lt (sortI_lt N.nd) fun z => ?_
        rw [(sortI_perm n).mem_iff]
        exact ⟨fun hz => nodup_eq N.nd hs (by omega) z hz, fun hz => hs z hz⟩
    · rw [if_neg h1]
      by_cases h2 : NoOv c A n
      · rw [if_pos h2, List.mem_flatMap]
        obtain ⟨g1, g2, -⟩ := gap_at h2 h1
        have ih : ∀ a ∈ A, (B ∈ lv c A r (kid c (gap c A n) n a) ↔ TilS c A B ∧ ∀ x ∈ kid c (gap c A n) n a, x ∈ B) := fun a ha => by
          refine lv_mem h hc B r _ (kid_node hc N h2 h1 ha (h.bd a ha)) ?_ ?_
          · unfold kid
            rw [List.length_append, List.length_singleton, show n.length + 1 + r = n.length + (r + 1) by omega]
            exact hr
          · by_cases hr0 : 0 < r
            · exact .inl hr0
            · refine .inr ?_
              unfold kid
              rw [List.length_append, List.length_singleton, show n.length + 1 = n.length + (r + 1) by omega]
              exact hr
        constructor
        · rintro ⟨a, ha, hb⟩
          obtain ⟨t, hs⟩ := (ih a (List.mem_reverse.mp ha)).mp hb
          exact ⟨t, fun x hx => hs x (List.mem_append_left _ hx)⟩
        · rintro ⟨t, hs⟩
          have e1 := t.til _ g1
          have : 0 < cnt c A B (gap c A n) := by omega
          obtain ⟨b, hb, hd⟩ := List.countP_pos_iff.mp this
          rw [decide_eq_true_iff] at hd
          refine ⟨_, List.mem_reverse.mpr hd, (ih _ hd).mpr ⟨t, fun x hx => ?_⟩⟩
          rcases List.mem_append.mp hx with hx | hx
          · exact hs x hx
          · rw [List.mem_singleton.mp hx, Int.sub_emod_emod, show ((gap c A n : Nat) : Int) - (((gap c A n : Nat) : Int) - b) = b by omega, Int.emod_eq_of_lt (t.bd b hb).1 (t.bd b hb).2]
            exact hb
      · rw [if_neg h2]
        refine ⟨fun q => (List.not_mem_nil q).elim, fun ⟨t, hs⟩ => absurd (fun u hu => ?_) h2⟩
        have := nodup_cnt c A u N.nd hs
        rw [t.til u hu] at this
        exact this
end KP
namespace KP
open KH
theorem max_noov {c : Nat} {A n : List Int} (h : Hits c A) (hc : 0 < c) (hn : n ≠ []) : NoOv c A n ↔ maxL (cntL c A n) = 1 := by
  have hne : cntL c A n ≠ [] := fun e => by have := cntL_len c A n; rw [e] at this; simp at this; omega
  constructor
  · intro q
    obtain ⟨t, ht, he⟩ : ∃ t : Nat, t < c ∧ cnt c A n t = 1 := by
      refine Classical.byContradiction fun hno => ?_
      have z : ∀ t ∈ List.range c, cnt c A n t = 0 := fun t ht => by
        have h1 := q t (List.mem_range.mp ht)
        by_cases e : cnt c A n t = 1
        · exact absurd ⟨t, List.mem_range.mp ht, e⟩ hno
        · omega
      have s := sum_cnt h hc n
      have s0 : ∀ l : List Nat, (∀ t ∈ l, cnt c A n t = 0) → (l.map fun (t : Nat) => cnt c A n t).sum = 0 := fun l => by
        induction l with
        | nil => intro _; rfl
        | cons x l ih => intro hl; rw [List.map_cons, List.sum_cons, hl x List.mem_cons_self, ih fun t ht => hl t (List.mem_cons_of_mem _ ht)]
      rw [s0 _ z] at s
      have p1 := List.length_pos_iff.mpr hn
      have p2 := List.length_pos_iff.mpr h.one
      have := Nat.mul_pos p1 p2
      omega
    refine maxL_eq (cntL_mem.mpr ⟨t, ht, by rw [he]; rfl⟩) fun x hx => ?_
    obtain ⟨u, hu, rfl⟩ := cntL_mem.mp hx
    have := q u hu
    omega
  · intro e t ht
    have := le_maxL (cntL_mem.mpr ⟨t, ht, rfl⟩ : ((cnt c A n t : Nat) : Int) ∈ cntL c A n)
    omega
theorem min_til {c : Nat} {A n : List Int} (hc : 0 < c) (q : NoOv c A n) : Til c A n ↔ minL (cntL c A n) = 1 := by
  constructor
  · intro h
    refine minL_eq (cntL_mem.mpr ⟨0, hc, by rw [h 0 hc]; rfl⟩) fun x hx => ?_
    obtain ⟨u, hu, rfl⟩ := cntL_mem.mp hx
    rw [h u hu]
    exact Int.le_refl _
  · intro e t ht
    have := minL_le (cntL_mem.mpr ⟨t, ht, rfl⟩ : ((cnt c A n t : Nat) : Int) ∈ cntL c A n)
    have := q t ht
    omega
end KP

namespace KP
open PySem PySem.Spec PyProof.Rows L2 KH
theorem fw (k : Nat) (a b : Int) (d : D) (h : wd d = true) (cs : CS) : run prg (k + 2) 1 [d, .int a, .int b] cs = .ok (.bool (fitI a b d)) cs := fits_at k cs h_is_whole h_fits_whole a b d h
theorem fwi (k : Nat) (a b i : Int) (cs : CS) : run prg (k + 2) 1 [.int i, .int a, .int b] cs = .ok (.bool (decide (a ≤ i) && decide (i ≤ b))) cs := fw k a b (.int i) (wd_int _ _) cs

theorem tu (k : Nat) (a b : Int) (d : D) (h : wd d = true) (cs : CS) : run prg (k + 1) 2 [d, .int a, .int b] cs = .ok (.bool (isT a b d)) cs := tupOf_at k cs h_is_tuple_of a b d h

theorem nn (k : Nat) (a b i : Int) (h0 : a ≤ i) (h1 : i ≤ b) (cs : CS) : run prg (k + 3) 5 [.int i, .int a, .int b] cs = .ok .none cs := by
  rw [need_at k cs h_is_whole h_fits_whole h_need_number a b (.int i) (wd_int _ _)]
  simp [h0, h1]

theorem rise_zip : ∀ {S : List Int}, S.Pairwise (· < ·) → (S.zip (S.drop 1)).all (fun p => decide (p.1 < p.2)) = true
  | [], _ => rfl
  | [x], _ => rfl
  | x :: y :: S, h => by
    obtain ⟨h1, h2⟩ := List.pairwise_cons.mp h
    have := rise_zip h2
    simp only [List.drop_one, List.tail_cons, List.zip_cons_cons, List.all_cons, Bool.and_eq_true, decide_eq_true_eq] at this ⊢
    exact ⟨h1 y List.mem_cons_self, this⟩
theorem ir (k : Nat) (S : List Int) (h : S.Pairwise (· < ·)) (cs : CS) : run prg (k + 1) 3 [TI S] cs = .ok (.bool true) cs := by
  rw [r_is_rising]
  unfold b3
  simp -implicitDefEqProofs (disch := (first | assumption | omega | (simp -implicitDefEqProofs only [all_tt, wd_non, wd_bl, wd_int, wd_str, wd_lst, wd_tup, List.all_map, List.all_cons, List.all_nil, List.all_append, Bool.and_true, Bool.and_self, Function.comp_def, List.length_map, List.length_append, List.length_cons, List.length_nil, List.length_range, List.all_eq_true, implies_true, lay_int, lays_ints, lays_nil, lays_cons, List.length_zip, List.length_drop, List.length_take, List.length_range', List.length_reverse, wd_int]; done) | (simp -implicitDefEqProofs only [all_tt, wd_non, wd_bl, wd_int, wd_str, wd_lst, wd_tup, List.all_map, List.all_cons, List.all_nil, List.all_append, Bool.and_true, Bool.and_self, Function.comp_def, List.length_map, List.length_append, List.length_cons, List.length_nil, List.length_range, List.all_eq_true, implies_true, lay_int, lays_ints, lays_nil, lays_cons, List.length_zip, List.length_drop, List.length_take, List.length_range', List.length_reverse, wd_int]; omega))) only [bd_ok, bd_exc, bd_stuck, bd_ite, ret_ok, stk_st, fetch_0, fetch_s, fetchC_0, fetchC_s, tst_bl, eE_var, eE_nev, eE_int, eE_bl, eE_non, eE_str, eE_con, boxR_f, boxR_tw, boxR_e, boxR_ite, eE_disp, eE_tup, eE_bin, eE_neg, eE_not, eE_and, eE_or, eE_one, eE_cmp, eE_chn, eE_ife, eE_call, eE_blt, eE_isi, eE_ix, intPart_i, eE_sl, eE_comp, eE_comp2, comp2L_fl, flR_comp, setTgL_nm, quietL_ok, eE_lrg1, eE_lrg2, eE_rep, eE_lsc, eE_app, eE_pop, eE_popAt, eE_idx, eE_sset, eE_lset, eE_rev, eEs_nil, eEs_cons, eI_seq, eI_rng1, eI_rng2, eI_rng3, eI_zip, eI_enm, seqR_nx, seqR_rt, seqR_exc, seqR_ite, eSs_nil, eSs_cons, eSs_frz, eSs_clr, eS_never, eS_set, eS_setT, eS_par, eS_setI, eS_aug, eS_drop, eS_doc, eS_pass, eS_retN, eS_raise, eS_ret, eS_iff, eS_forS, eS_wh, quiet_ok, quiet_ite, compL_none, compL_some, mapR_comp, mapR_ok, mapR_nil, mapR_cons, fltR_nil, fltR_cons, fltR_comp, fltR_ok, endR_nx, endR_exc, endR_keep, endR_rt, endR_int, endR_bl, endR_non, endR_ite, take_app, List.take_length, f_lt, f_gt, f_le, f_ge, eqv_int, eqv_strs, f_eqi, f_nei, f_is, f_isn, f_isb, isNon_n, isNon_b, isNon_i, isNon_s, isNon_l, isNon_t, not_b, neg_i, add_i, sub_i, len_t, len_l, abs_i, int_i, int_b, tup_t, tup_l, lst_t, lst_l, str_s, sum_l, all_l, any_l, all_nil, lit_l, lit_t, zip_l, zip_t, enm_l, cut_t, cut_l, lstOf_l, mtR_l, isi_n, isi_b, isi_i, isi_s, isi_l, isi_t, eqv_lints, eqv_tints, forL_nil, h_hole, h_var, h_int, h_bl, h_non, h_str, h_con, h_tup, h_disp, h_bin, h_neg, h_not, h_and, h_or, h_one, h_cmp, h_chn, h_ife, h_call, h_blt, h_isi, h_ix, h_sl, wipe_nil, wipe_cons, setAll_nil, setAll_cons, bool_and, bool_or, fitI_i, fitI_n, fitI_b, fitI_s, fitI_l, fitI_t, isT_t, isT_n, isT_b, isT_i, isT_s, isT_l, zallR_t, eSs_zall, free_0, free_s, done_nx, drop_m, take_m, rev_m, app_m, rev_t, rev_l, getC_0, getC_s, getC_aj, getC_a, setC_aj, setC_a, app_c, appR_s, pop_c, popR_s, set_c, setR_s, aug_c, augR_s, aug_i, lst_c, mt_o, mtO_s, slot_0, slot_s, frz_o, frzO_c, frzR_s, ix_ti, ix_li, ix_tl, ix_ll, ix_t0, ix_t1, ix_t2, ix_l0, ix_l1, ix_l2, ix_c, ixO_s, cutL_map, cutL_f, cutL_t, cutL_ft, pairsL_map, enumL_map, rng1N, rng2N, tg1, tg2, tg3, tgO1, tgO2, tgO3, tgF1, tgF2, tgF3, tgT2, tgT3, endO_s, endR_c0, endR_cj, endR_u0, endR_uj, sum_g, sset_gl, sset_gt, lset_gl, lset_gt, max_gl, max_gt, min_gl, min_gt, max_2, min_2, eq_nilL, ne_nilL, eq_nilT, ne_nilT, eq_gl, ne_gl, eq_gt, ne_gt, rngVN, rng3D, in_gl, in_gt, nin_gl, nin_gt, in_pl, in_pt, nin_pl, nin_pt, max_pl, max_pt, min_pl, min_pt, eq_pl, ne_pl, eq_pt, ne_pt, eq_pgl, ne_pgl, eq_gpl, ne_gpl, eq_pgt, ne_pgt, eq_gpt, ne_gpt, isn_b, sset_l, sset_t, lset_l, lset_t, all_tt, any_ff, Int.natCast_nonneg, Int.cast_ofNat_Int, Bool.decide_eq_false, List.length_range', List.isEmpty_nil, List.isEmpty_cons, not_true_eq_false, not_false_eq_true, Bool.true_eq_false, eq_self, Int.reduceToNat, Int.reduceSub, Int.reduceAdd, Int.reduceNeg, Int.reduceLT, Int.reduceLE, Int.reduceMul, Nat.reduceSub, Nat.reduceMul, Int.reduceEq, Int.reduceNe, KH.TI, KH.LI, List.take_zero, List.take_nil, defI, and_true, true_and, and_false, false_and, and_self, List.set_cons_zero, List.set_cons_succ, List.length_cons, List.length_nil, List.length_map, List.length_append, List.length_range, List.cons_append, List.nil_append, List.append_assoc, Nat.zero_add, Int.toNat_natCast, reduceIte, Bool.not_true, Bool.not_false, Bool.false_eq_true, decide_true, decide_false, Bool.true_and, Bool.and_true, Bool.false_and, Bool.and_false, Bool.true_or, Bool.false_or, Bool.or_true, Bool.or_false, Bool.decide_eq_true, decide_eq_true_eq, decide_eq_false_iff_not, decide_not, Bool.not_eq_true', Nat.reduceLeDiff, Nat.reduceAdd, Bool.not_not, Option.toList, tcons, List.take_succ_cons, List.map_id_fun', id_eq, List.map_id', List.isEmpty_map, Int.reduceToNat, rise_zip h]

theorem rolled (k : Nat) (many : Int) (h1 : 0 < many) (h2 : many < 1073741824) (s : Int × Int) (l : CS) : ∃ (v : Int) (s' : Int × Int), 0 ≤ v ∧ v < many ∧ run prg (k + 1) 20 [cellD 0, .int many] (cup s :: l) = .ok (.int v) (cup s' :: l) := roll_at rc_ok h__law_roll k h1 h2 s l

theorem someL {α : Type} [Inhabited α] (enc : α → D) (L : List α) (hw : ∀ x ∈ L, wd (enc x) = true) (h0 : L ≠ []) (h1 : L.length < 1073741824) (k : Nat) (s : Int × Int) (l : CS) :
    ∃ x ∈ L, ∃ s', run prg (k + 2) 21 [cellD 0, .list (L.map enc)] (cup s :: l) = .ok (enc x) (cup s' :: l) := by
  have hp : 0 < L.length := List.length_pos_iff.mpr h0
  obtain ⟨v, s', v0, v1, e⟩ := rolled k (L.length : Int) (by omega) (by omega) s l
  have hm : L.getD v.toNat default ∈ L := by
    rw [List.getD_eq_getElem?_getD, List.getElem?_eq_getElem (by omega)]
    exact List.getElem_mem _
  refine ⟨_, hm, s', ?_⟩
  have hw' := hw _ hm
  rw [r__law_some]
  unfold b21
  simp -implicitDefEqProofs (disch := (first | assumption | omega | (simp -implicitDefEqProofs only [all_tt, wd_non, wd_bl, wd_int, wd_str, wd_lst, wd_tup, List.all_map, List.all_cons, List.all_nil, List.all_append, Bool.and_true, Bool.and_self, Function.comp_def, List.length_map, List.length_append, List.length_cons, List.length_nil, List.length_range, List.all_eq_true, implies_true, lay_int, lays_ints, lays_nil, lays_cons, List.length_zip, List.length_drop, List.length_take, List.length_range', List.length_reverse, wd_int]; done) | (simp -implicitDefEqProofs only [all_tt, wd_non, wd_bl, wd_int, wd_str, wd_lst, wd_tup, List.all_map, List.all_cons, List.all_nil, List.all_append, Bool.and_true, Bool.and_self, Function.comp_def, List.length_map, List.length_append, List.length_cons, List.length_nil, List.length_range, List.all_eq_true, implies_true, lay_int, lays_ints, lays_nil, lays_cons, List.length_zip, List.length_drop, List.length_take, List.length_range', List.length_reverse, wd_int]; omega))) only [bd_ok, bd_exc, bd_stuck, bd_ite, ret_ok, stk_st, fetch_0, fetch_s, fetchC_0, fetchC_s, tst_bl, eE_var, eE_nev, eE_int, eE_bl, eE_non, eE_str, eE_con, boxR_f, boxR_tw, boxR_e, boxR_ite, eE_disp, eE_tup, eE_bin, eE_neg, eE_not, eE_and, eE_or, eE_one, eE_cmp, eE_chn, eE_ife, eE_call, eE_blt, eE_isi, eE_ix, intPart_i, eE_sl, eE_comp, eE_comp2, comp2L_fl, flR_comp, setTgL_nm, quietL_ok, eE_lrg1, eE_lrg2, eE_rep, eE_lsc, eE_app, eE_pop, eE_popAt, eE_idx, eE_sset, eE_lset, eE_rev, eEs_nil, eEs_cons, eI_seq, eI_rng1, eI_rng2, eI_rng3, eI_zip, eI_enm, seqR_nx, seqR_rt, seqR_exc, seqR_ite, eSs_nil, eSs_cons, eSs_frz, eSs_clr, eS_never, eS_set, eS_setT, eS_par, eS_setI, eS_aug, eS_drop, eS_doc, eS_pass, eS_retN, eS_raise, eS_ret, eS_iff, eS_forS, eS_wh, quiet_ok, quiet_ite, compL_none, compL_some, mapR_comp, mapR_ok, mapR_nil, mapR_cons, fltR_nil, fltR_cons, fltR_comp, fltR_ok, endR_nx, endR_exc, endR_keep, endR_rt, endR_int, endR_bl, endR_non, endR_ite, take_app, List.take_length, f_lt, f_gt, f_le, f_ge, eqv_int, eqv_strs, f_eqi, f_nei, f_is, f_isn, f_isb, isNon_n, isNon_b, isNon_i, isNon_s, isNon_l, isNon_t, not_b, neg_i, add_i, sub_i, len_t, len_l, abs_i, int_i, int_b, tup_t, tup_l, lst_t, lst_l, str_s, sum_l, all_l, any_l, all_nil, lit_l, lit_t, zip_l, zip_t, enm_l, cut_t, cut_l, lstOf_l, mtR_l, isi_n, isi_b, isi_i, isi_s, isi_l, isi_t, eqv_lints, eqv_tints, forL_nil, h_hole, h_var, h_int, h_bl, h_non, h_str, h_con, h_tup, h_disp, h_bin, h_neg, h_not, h_and, h_or, h_one, h_cmp, h_chn, h_ife, h_call, h_blt, h_isi, h_ix, h_sl, wipe_nil, wipe_cons, setAll_nil, setAll_cons, bool_and, bool_or, fitI_i, fitI_n, fitI_b, fitI_s, fitI_l, fitI_t, isT_t, isT_n, isT_b, isT_i, isT_s, isT_l, zallR_t, eSs_zall, free_0, free_s, done_nx, drop_m, take_m, rev_m, app_m, rev_t, rev_l, getC_0, getC_s, getC_aj, getC_a, setC_aj, setC_a, app_c, appR_s, pop_c, popR_s, set_c, setR_s, aug_c, augR_s, aug_i, lst_c, mt_o, mtO_s, slot_0, slot_s, frz_o, frzO_c, frzR_s, ix_ti, ix_li, ix_tl, ix_ll, ix_t0, ix_t1, ix_t2, ix_l0, ix_l1, ix_l2, ix_c, ixO_s, cutL_map, cutL_f, cutL_t, cutL_ft, pairsL_map, enumL_map, rng1N, rng2N, tg1, tg2, tg3, tgO1, tgO2, tgO3, tgF1, tgF2, tgF3, tgT2, tgT3, endO_s, endR_c0, endR_cj, endR_u0, endR_uj, sum_g, sset_gl, sset_gt, lset_gl, lset_gt, max_gl, max_gt, min_gl, min_gt, max_2, min_2, eq_nilL, ne_nilL, eq_nilT, ne_nilT, eq_gl, ne_gl, eq_gt, ne_gt, rngVN, rng3D, in_gl, in_gt, nin_gl, nin_gt, in_pl, in_pt, nin_pl, nin_pt, max_pl, max_pt, min_pl, min_pt, eq_pl, ne_pl, eq_pt, ne_pt, eq_pgl, ne_pgl, eq_gpl, ne_gpl, eq_pgt, ne_pgt, eq_gpt, ne_gpt, isn_b, sset_l, sset_t, lset_l, lset_t, all_tt, any_ff, Int.natCast_nonneg, Int.cast_ofNat_Int, Bool.decide_eq_false, List.length_range', List.isEmpty_nil, List.isEmpty_cons, not_true_eq_false, not_false_eq_true, Bool.true_eq_false, eq_self, Int.reduceToNat, Int.reduceSub, Int.reduceAdd, Int.reduceNeg, Int.reduceLT, Int.reduceLE, Int.reduceMul, Nat.reduceSub, Nat.reduceMul, Int.reduceEq, Int.reduceNe, KH.TI, KH.LI, List.take_zero, List.take_nil, defI, and_true, true_and, and_false, false_and, and_self, List.set_cons_zero, List.set_cons_succ, List.length_cons, List.length_nil, List.length_map, List.length_append, List.length_range, List.cons_append, List.nil_append, List.append_assoc, Nat.zero_add, Int.toNat_natCast, reduceIte, Bool.not_true, Bool.not_false, Bool.false_eq_true, decide_true, decide_false, Bool.true_and, Bool.and_true, Bool.false_and, Bool.and_false, Bool.true_or, Bool.false_or, Bool.or_true, Bool.or_false, Bool.decide_eq_true, decide_eq_true_eq, decide_eq_false_iff_not, decide_not, Bool.not_eq_true', Nat.reduceLeDiff, Nat.reduceAdd, Bool.not_not, Option.toList, tcons, List.take_succ_cons, List.map_id_fun', id_eq, List.map_id', List.isEmpty_map, e]

theorem same (d : D) (h : szN 4 d = true) (cs : CS) : run prg 19 22 [d, d] cs = .ok (.bool true) cs := same_ok h__law_same 10 d h cs

theorem dle_int (a b : Int) : dleD (.int a) (.int b) = decide (a ≤ b) := by
  unfold dleD
  have : PySem.W.dataLt (.int b) (.int a) = decide (b < a) := by
    simp [PySem.W.dataLt, PySem.W.keyToks, PyProof.Rows.lexLt, PyProof.Rows.itemOrd]
    rfl
  rw [this]
  by_cases h : a ≤ b
  · simp [h]
  · simp [h]; omega
theorem srt_l (xs : List Int) (c : CS) : Blt.sorted.fn [.list (xs.map .int)] c = .ok (.list ((sortI xs).map .int)) c := by
  rw [sorted_gen (fun x : Int => .int x) xs c (by simp [allAlikeB, PySem.W.alike]) (by simp [sortableB, noTup]) (by simp)]
  unfold sortI
  simp only [dle_int]
theorem srt_t (xs : List Int) (c : CS) : Blt.sorted.fn [.tuple (xs.map .int)] c = .ok (.list ((sortI xs).map .int)) c := by
  rw [← srt_l xs c]
  rfl
theorem srt_g {α : Type} (g : α → Int) (xs : List α) (c : CS) : Blt.sorted.fn [.list (xs.map fun x => .int (g x))] c = .ok (.list ((sortI (xs.map g)).map .int)) c := by
  rw [← srt_l (xs.map g) c, List.map_map]
  rfl
structure HitsT (c : Nat) (A : List Int) : Prop where
  h : Hits c A
  c0 : 0 < c
  c1 : c ≤ 24
theorem hits_len {c : Nat} {A : List Int} (g : Hits c A) : 1 ≤ A.length ∧ A.length ≤ c := by
  refine ⟨List.length_pos_iff.mpr g.one, ?_⟩
  have := nodup_le (n := A) (B := (List.range c).map fun (i : Nat) => (i : Int)) (g.lt.imp fun h => by omega) fun x hx => by
    have := g.bd x hx
    exact List.mem_map.mpr ⟨x.toNat, List.mem_range.mpr (by omega), by omega⟩
  simpa using this
theorem fh (k : Nat) (c : Nat) (A : List Int) (g : HitsT c A) (cs : CS) : run prg (k + 3) 6 [TI A, .int (c : Int)] cs = .ok (.bool true) cs := by
  have h1 := hits_len g.h
  have e1 : (1 : Int) ≤ A.length := by omega
  have e2 : (A.length : Int) ≤ c := by omega
  have e3 : A.all (fun x => decide (0 ≤ x) && decide (x ≤ (c : Int) - 1)) = true := by
    rw [List.all_eq_true]
    intro x hx
    have := g.h.bd x hx
    simp
    omega
  rw [r_fits_hits]
  unfold b6
  simp -implicitDefEqProofs (disch := (first | assumption | omega | (simp -implicitDefEqProofs only [all_tt, wd_non, wd_bl, wd_int, wd_str, wd_lst, wd_tup, List.all_map, List.all_cons, List.all_nil, List.all_append, Bool.and_true, Bool.and_self, Function.comp_def, List.length_map, List.length_append, List.length_cons, List.length_nil, List.length_range, List.all_eq_true, implies_true, lay_int, lays_ints, lays_nil, lays_cons, List.length_zip, List.length_drop, List.length_take, List.length_range', List.length_reverse, wd_int]; done) | (simp -implicitDefEqProofs only [all_tt, wd_non, wd_bl, wd_int, wd_str, wd_lst, wd_tup, List.all_map, List.all_cons, List.all_nil, List.all_append, Bool.and_true, Bool.and_self, Function.comp_def, List.length_map, List.length_append, List.length_cons, List.length_nil, List.length_range, List.all_eq_true, implies_true, lay_int, lays_ints, lays_nil, lays_cons, List.length_zip, List.length_drop, List.length_take, List.length_range', List.length_reverse, wd_int]; omega))) only [bd_ok, bd_exc, bd_stuck, bd_ite, ret_ok, stk_st, fetch_0, fetch_s, fetchC_0, fetchC_s, tst_bl, eE_var, eE_nev, eE_int, eE_bl, eE_non, eE_str, eE_con, boxR_f, boxR_tw, boxR_e, boxR_ite, eE_disp, eE_tup, eE_bin, eE_neg, eE_not, eE_and, eE_or, eE_one, eE_cmp, eE_chn, eE_ife, eE_call, eE_blt, eE_isi, eE_ix, intPart_i, eE_sl, eE_comp, eE_comp2, comp2L_fl, flR_comp, setTgL_nm, quietL_ok, eE_lrg1, eE_lrg2, eE_rep, eE_lsc, eE_app, eE_pop, eE_popAt, eE_idx, eE_sset, eE_lset, eE_rev, eEs_nil, eEs_cons, eI_seq, eI_rng1, eI_rng2, eI_rng3, eI_zip, eI_enm, seqR_nx, seqR_rt, seqR_exc, seqR_ite, eSs_nil, eSs_cons, eSs_frz, eSs_clr, eS_never, eS_set, eS_setT, eS_par, eS_setI, eS_aug, eS_drop, eS_doc, eS_pass, eS_retN, eS_raise, eS_ret, eS_iff, eS_forS, eS_wh, quiet_ok, quiet_ite, compL_none, compL_some, mapR_comp, mapR_ok, mapR_nil, mapR_cons, fltR_nil, fltR_cons, fltR_comp, fltR_ok, endR_nx, endR_exc, endR_keep, endR_rt, endR_int, endR_bl, endR_non, endR_ite, take_app, List.take_length, f_lt, f_gt, f_le, f_ge, eqv_int, eqv_strs, f_eqi, f_nei, f_is, f_isn, f_isb, isNon_n, isNon_b, isNon_i, isNon_s, isNon_l, isNon_t, not_b, neg_i, add_i, sub_i, len_t, len_l, abs_i, int_i, int_b, tup_t, tup_l, lst_t, lst_l, str_s, sum_l, all_l, any_l, all_nil, lit_l, lit_t, zip_l, zip_t, enm_l, cut_t, cut_l, lstOf_l, mtR_l, isi_n, isi_b, isi_i, isi_s, isi_l, isi_t, eqv_lints, eqv_tints, forL_nil, h_hole, h_var, h_int, h_bl, h_non, h_str, h_con, h_tup, h_disp, h_bin, h_neg, h_not, h_and, h_or, h_one, h_cmp, h_chn, h_ife, h_call, h_blt, h_isi, h_ix, h_sl, wipe_nil, wipe_cons, setAll_nil, setAll_cons, bool_and, bool_or, fitI_i, fitI_n, fitI_b, fitI_s, fitI_l, fitI_t, isT_t, isT_n, isT_b, isT_i, isT_s, isT_l, zallR_t, eSs_zall, free_0, free_s, done_nx, drop_m, take_m, rev_m, app_m, rev_t, rev_l, getC_0, getC_s, getC_aj, getC_a, setC_aj, setC_a, app_c, appR_s, pop_c, popR_s, set_c, setR_s, aug_c, augR_s, aug_i, lst_c, mt_o, mtO_s, slot_0, slot_s, frz_o, frzO_c, frzR_s, ix_ti, ix_li, ix_tl, ix_ll, ix_t0, ix_t1, ix_t2, ix_l0, ix_l1, ix_l2, ix_c, ixO_s, cutL_map, cutL_f, cutL_t, cutL_ft, pairsL_map, enumL_map, rng1N, rng2N, tg1, tg2, tg3, tgO1, tgO2, tgO3, tgF1, tgF2, tgF3, tgT2, tgT3, endO_s, endR_c0, endR_cj, endR_u0, endR_uj, sum_g, sset_gl, sset_gt, lset_gl, lset_gt, max_gl, max_gt, min_gl, min_gt, max_2, min_2, eq_nilL, ne_nilL, eq_nilT, ne_nilT, eq_gl, ne_gl, eq_gt, ne_gt, rngVN, rng3D, in_gl, in_gt, nin_gl, nin_gt, in_pl, in_pt, nin_pl, nin_pt, max_pl, max_pt, min_pl, min_pt, eq_pl, ne_pl, eq_pt, ne_pt, eq_pgl, ne_pgl, eq_gpl, ne_gpl, eq_pgt, ne_pgt, eq_gpt, ne_gpt, isn_b, sset_l, sset_t, lset_l, lset_t, all_tt, any_ff, Int.natCast_nonneg, Int.cast_ofNat_Int, Bool.decide_eq_false, List.length_range', List.isEmpty_nil, List.isEmpty_cons, not_true_eq_false, not_false_eq_true, Bool.true_eq_false, eq_self, Int.reduceToNat, Int.reduceSub, Int.reduceAdd, Int.reduceNeg, Int.reduceLT, Int.reduceLE, Int.reduceMul, Nat.reduceSub, Nat.reduceMul, Int.reduceEq, Int.reduceNe, KH.TI, KH.LI, List.take_zero, List.take_nil, defI, and_true, true_and, and_false, false_and, and_self, List.set_cons_zero, List.set_cons_succ, List.length_cons, List.length_nil, List.length_map, List.length_append, List.length_range, List.cons_append, List.nil_append, List.append_assoc, Nat.zero_add, Int.toNat_natCast, reduceIte, Bool.not_true, Bool.not_false, Bool.false_eq_true, decide_true, decide_false, Bool.true_and, Bool.and_true, Bool.false_and, Bool.and_false, Bool.true_or, Bool.false_or, Bool.or_true, Bool.or_false, Bool.decide_eq_true, decide_eq_true_eq, decide_eq_false_iff_not, decide_not, Bool.not_eq_true', Nat.reduceLeDiff, Nat.reduceAdd, Bool.not_not, Option.toList, tcons, List.take_succ_cons, List.map_id_fun', id_eq, List.map_id', List.isEmpty_map, tu, fwi, e1, e2, e3, ir _ A g.h.lt]
theorem nh (k : Nat) (c : Nat) (A : List Int) (g : HitsT c A) (cs : CS) : run prg (k + 4) 7 [.int (c : Int), TI A] cs = .ok .none cs := by
  have h0 := g.c0
  have h1 := g.c1
  rw [r_need_hits]
  unfold b7
  simp -implicitDefEqProofs (disch := (first | assumption | omega | (simp -implicitDefEqProofs only [all_tt, wd_non, wd_bl, wd_int, wd_str, wd_lst, wd_tup, List.all_map, List.all_cons, List.all_nil, List.all_append, Bool.and_true, Bool.and_self, Function.comp_def, List.length_map, List.length_append, List.length_cons, List.length_nil, List.length_range, List.all_eq_true, implies_true, lay_int, lays_ints, lays_nil, lays_cons, List.length_zip, List.length_drop, List.length_take, List.length_range', List.length_reverse, wd_int]; done) | (simp -implicitDefEqProofs only [all_tt, wd_non, wd_bl, wd_int, wd_str, wd_lst, wd_tup, List.all_map, List.all_cons, List.all_nil, List.all_append, Bool.and_true, Bool.and_self, Function.comp_def, List.length_map, List.length_append, List.length_cons, List.length_nil, List.length_range, List.all_eq_true, implies_true, lay_int, lays_ints, lays_nil, lays_cons, List.length_zip, List.length_drop, List.length_take, List.length_range', List.length_reverse, wd_int]; omega))) only [bd_ok, bd_exc, bd_stuck, bd_ite, ret_ok, stk_st, fetch_0, fetch_s, fetchC_0, fetchC_s, tst_bl, eE_var, eE_nev, eE_int, eE_bl, eE_non, eE_str, eE_con, boxR_f, boxR_tw, boxR_e, boxR_ite, eE_disp, eE_tup, eE_bin, eE_neg, eE_not, eE_and, eE_or, eE_one, eE_cmp, eE_chn, eE_ife, eE_call, eE_blt, eE_isi, eE_ix, intPart_i, eE_sl, eE_comp, eE_comp2, comp2L_fl, flR_comp, setTgL_nm, quietL_ok, eE_lrg1, eE_lrg2, eE_rep, eE_lsc, eE_app, eE_pop, eE_popAt, eE_idx, eE_sset, eE_lset, eE_rev, eEs_nil, eEs_cons, eI_seq, eI_rng1, eI_rng2, eI_rng3, eI_zip, eI_enm, seqR_nx, seqR_rt, seqR_exc, seqR_ite, eSs_nil, eSs_cons, eSs_frz, eSs_clr, eS_never, eS_set, eS_setT, eS_par, eS_setI, eS_aug, eS_drop, eS_doc, eS_pass, eS_retN, eS_raise, eS_ret, eS_iff, eS_forS, eS_wh, quiet_ok, quiet_ite, compL_none, compL_some, mapR_comp, mapR_ok, mapR_nil, mapR_cons, fltR_nil, fltR_cons, fltR_comp, fltR_ok, endR_nx, endR_exc, endR_keep, endR_rt, endR_int, endR_bl, endR_non, endR_ite, take_app, List.take_length, f_lt, f_gt, f_le, f_ge, eqv_int, eqv_strs, f_eqi, f_nei, f_is, f_isn, f_isb, isNon_n, isNon_b, isNon_i, isNon_s, isNon_l, isNon_t, not_b, neg_i, add_i, sub_i, len_t, len_l, abs_i, int_i, int_b, tup_t, tup_l, lst_t, lst_l, str_s, sum_l, all_l, any_l, all_nil, lit_l, lit_t, zip_l, zip_t, enm_l, cut_t, cut_l, lstOf_l, mtR_l, isi_n, isi_b, isi_i, isi_s, isi_l, isi_t, eqv_lints, eqv_tints, forL_nil, h_hole, h_var, h_int, h_bl, h_non, h_str, h_con, h_tup, h_disp, h_bin, h_neg, h_not, h_and, h_or, h_one, h_cmp, h_chn, h_ife, h_call, h_blt, h_isi, h_ix, h_sl, wipe_nil, wipe_cons, setAll_nil, setAll_cons, bool_and, bool_or, fitI_i, fitI_n, fitI_b, fitI_s, fitI_l, fitI_t, isT_t, isT_n, isT_b, isT_i, isT_s, isT_l, zallR_t, eSs_zall, free_0, free_s, done_nx, drop_m, take_m, rev_m, app_m, rev_t, rev_l, getC_0, getC_s, getC_aj, getC_a, setC_aj, setC_a, app_c, appR_s, pop_c, popR_s, set_c, setR_s, aug_c, augR_s, aug_i, lst_c, mt_o, mtO_s, slot_0, slot_s, frz_o, frzO_c, frzR_s, ix_ti, ix_li, ix_tl, ix_ll, ix_t0, ix_t1, ix_t2, ix_l0, ix_l1, ix_l2, ix_c, ixO_s, cutL_map, cutL_f, cutL_t, cutL_ft, pairsL_map, enumL_map, rng1N, rng2N, tg1, tg2, tg3, tgO1, tgO2, tgO3, tgF1, tgF2, tgF3, tgT2, tgT3, endO_s, endR_c0, endR_cj, endR_u0, endR_uj, sum_g, sset_gl, sset_gt, lset_gl, lset_gt, max_gl, max_gt, min_gl, min_gt, max_2, min_2, eq_nilL, ne_nilL, eq_nilT, ne_nilT, eq_gl, ne_gl, eq_gt, ne_gt, rngVN, rng3D, in_gl, in_gt, nin_gl, nin_gt, in_pl, in_pt, nin_pl, nin_pt, max_pl, max_pt, min_pl, min_pt, eq_pl, ne_pl, eq_pt, ne_pt, eq_pgl, ne_pgl, eq_gpl, ne_gpl, eq_pgt, ne_pgt, eq_gpt, ne_gpt, isn_b, sset_l, sset_t, lset_l, lset_t, all_tt, any_ff, Int.natCast_nonneg, Int.cast_ofNat_Int, Bool.decide_eq_false, List.length_range', List.isEmpty_nil, List.isEmpty_cons, not_true_eq_false, not_false_eq_true, Bool.true_eq_false, eq_self, Int.reduceToNat, Int.reduceSub, Int.reduceAdd, Int.reduceNeg, Int.reduceLT, Int.reduceLE, Int.reduceMul, Nat.reduceSub, Nat.reduceMul, Int.reduceEq, Int.reduceNe, KH.TI, KH.LI, List.take_zero, List.take_nil, defI, and_true, true_and, and_false, false_and, and_self, List.set_cons_zero, List.set_cons_succ, List.length_cons, List.length_nil, List.length_map, List.length_append, List.length_range, List.cons_append, List.nil_append, List.append_assoc, Nat.zero_add, Int.toNat_natCast, reduceIte, Bool.not_true, Bool.not_false, Bool.false_eq_true, decide_true, decide_false, Bool.true_and, Bool.and_true, Bool.false_and, Bool.and_false, Bool.true_or, Bool.false_or, Bool.or_true, Bool.or_false, Bool.decide_eq_true, decide_eq_true_eq, decide_eq_false_iff_not, decide_not, Bool.not_eq_true', Nat.reduceLeDiff, Nat.reduceAdd, Bool.not_not, Option.toList, tcons, List.take_succ_cons, List.map_id_fun', id_eq, List.map_id', List.isEmpty_map, nn, fh _ c A g]
/-- a row of the cycle's numbers -/
def rowF (c : Nat) (F : Nat → Int) : List D := (List.range c).map fun (t : Nat) => .int (F t)
theorem rowF_len (c : Nat) (F : Nat → Int) : (rowF c F).length = c := by simp [rowF]
theorem rowF_cg {c : Nat} {F G : Nat → Int} (h : ∀ t < c, F t = G t) : rowF c F = rowF c G := List.map_congr_left fun t ht => by rw [h t (List.mem_range.mp ht)]
theorem rowF_get (c : Nat) (F : Nat → Int) (u : Int) (h0 : 0 ≤ u) (h1 : u < c) (cs : CS) : ixD (.list (rowF c F)) (.int u) cs = .ok (.int (F u.toNat)) cs := by
  unfold rowF
  simp -implicitDefEqProofs (disch := (first | assumption | omega | (simp -implicitDefEqProofs only [all_tt, wd_non, wd_bl, wd_int, wd_str, wd_lst, wd_tup, List.all_map, List.all_cons, List.all_nil, List.all_append, Bool.and_true, Bool.and_self, Function.comp_def, List.length_map, List.length_append, List.length_cons, List.length_nil, List.length_range, List.all_eq_true, implies_true, lay_int, lays_ints, lays_nil, lays_cons, List.length_zip, List.length_drop, List.length_take, List.length_range', List.length_reverse, wd_int]; done) | (simp -implicitDefEqProofs only [all_tt, wd_non, wd_bl, wd_int, wd_str, wd_lst, wd_tup, List.all_map, List.all_cons, List.all_nil, List.all_append, Bool.and_true, Bool.and_self, Function.comp_def, List.length_map, List.length_append, List.length_cons, List.length_nil, List.length_range, List.all_eq_true, implies_true, lay_int, lays_ints, lays_nil, lays_cons, List.length_zip, List.length_drop, List.length_take, List.length_range', List.length_reverse, wd_int]; omega))) only [bd_ok, bd_exc, bd_stuck, bd_ite, ret_ok, stk_st, fetch_0, fetch_s, fetchC_0, fetchC_s, tst_bl, eE_var, eE_nev, eE_int, eE_bl, eE_non, eE_str, eE_con, boxR_f, boxR_tw, boxR_e, boxR_ite, eE_disp, eE_tup, eE_bin, eE_neg, eE_not, eE_and, eE_or, eE_one, eE_cmp, eE_chn, eE_ife, eE_call, eE_blt, eE_isi, eE_ix, intPart_i, eE_sl, eE_comp, eE_comp2, comp2L_fl, flR_comp, setTgL_nm, quietL_ok, eE_lrg1, eE_lrg2, eE_rep, eE_lsc, eE_app, eE_pop, eE_popAt, eE_idx, eE_sset, eE_lset, eE_rev, eEs_nil, eEs_cons, eI_seq, eI_rng1, eI_rng2, eI_rng3, eI_zip, eI_enm, seqR_nx, seqR_rt, seqR_exc, seqR_ite, eSs_nil, eSs_cons, eSs_frz, eSs_clr, eS_never, eS_set, eS_setT, eS_par, eS_setI, eS_aug, eS_drop, eS_doc, eS_pass, eS_retN, eS_raise, eS_ret, eS_iff, eS_forS, eS_wh, quiet_ok, quiet_ite, compL_none, compL_some, mapR_comp, mapR_ok, mapR_nil, mapR_cons, fltR_nil, fltR_cons, fltR_comp, fltR_ok, endR_nx, endR_exc, endR_keep, endR_rt, endR_int, endR_bl, endR_non, endR_ite, take_app, List.take_length, f_lt, f_gt, f_le, f_ge, eqv_int, eqv_strs, f_eqi, f_nei, f_is, f_isn, f_isb, isNon_n, isNon_b, isNon_i, isNon_s, isNon_l, isNon_t, not_b, neg_i, add_i, sub_i, len_t, len_l, abs_i, int_i, int_b, tup_t, tup_l, lst_t, lst_l, str_s, sum_l, all_l, any_l, all_nil, lit_l, lit_t, zip_l, zip_t, enm_l, cut_t, cut_l, lstOf_l, mtR_l, isi_n, isi_b, isi_i, isi_s, isi_l, isi_t, eqv_lints, eqv_tints, forL_nil, h_hole, h_var, h_int, h_bl, h_non, h_str, h_con, h_tup, h_disp, h_bin, h_neg, h_not, h_and, h_or, h_one, h_cmp, h_chn, h_ife, h_call, h_blt, h_isi, h_ix, h_sl, wipe_nil, wipe_cons, setAll_nil, setAll_cons, bool_and, bool_or, fitI_i, fitI_n, fitI_b, fitI_s, fitI_l, fitI_t, isT_t, isT_n, isT_b, isT_i, isT_s, isT_l, zallR_t, eSs_zall, free_0, free_s, done_nx, drop_m, take_m, rev_m, app_m, rev_t, rev_l, getC_0, getC_s, getC_aj, getC_a, setC_aj, setC_a, app_c, appR_s, pop_c, popR_s, set_c, setR_s, aug_c, augR_s, aug_i, lst_c, mt_o, mtO_s, slot_0, slot_s, frz_o, frzO_c, frzR_s, ix_ti, ix_li, ix_tl, ix_ll, ix_t0, ix_t1, ix_t2, ix_l0, ix_l1, ix_l2, ix_c, ixO_s, cutL_map, cutL_f, cutL_t, cutL_ft, pairsL_map, enumL_map, rng1N, rng2N, tg1, tg2, tg3, tgO1, tgO2, tgO3, tgF1, tgF2, tgF3, tgT2, tgT3, endO_s, endR_c0, endR_cj, endR_u0, endR_uj, sum_g, sset_gl, sset_gt, lset_gl, lset_gt, max_gl, max_gt, min_gl, min_gt, max_2, min_2, eq_nilL, ne_nilL, eq_nilT, ne_nilT, eq_gl, ne_gl, eq_gt, ne_gt, rngVN, rng3D, in_gl, in_gt, nin_gl, nin_gt, in_pl, in_pt, nin_pl, nin_pt, max_pl, max_pt, min_pl, min_pt, eq_pl, ne_pl, eq_pt, ne_pt, eq_pgl, ne_pgl, eq_gpl, ne_gpl, eq_pgt, ne_pgt, eq_gpt, ne_gpt, isn_b, sset_l, sset_t, lset_l, lset_t, all_tt, any_ff, Int.natCast_nonneg, Int.cast_ofNat_Int, Bool.decide_eq_false, List.length_range', List.isEmpty_nil, List.isEmpty_cons, not_true_eq_false, not_false_eq_true, Bool.true_eq_false, eq_self, Int.reduceToNat, Int.reduceSub, Int.reduceAdd, Int.reduceNeg, Int.reduceLT, Int.reduceLE, Int.reduceMul, Nat.reduceSub, Nat.reduceMul, Int.reduceEq, Int.reduceNe, KH.TI, KH.LI, List.take_zero, List.take_nil, defI, and_true, true_and, and_false, false_and, and_self, List.set_cons_zero, List.set_cons_succ, List.length_cons, List.length_nil, List.length_map, List.length_append, List.length_range, List.cons_append, List.nil_append, List.append_assoc, Nat.zero_add, Int.toNat_natCast, reduceIte, Bool.not_true, Bool.not_false, Bool.false_eq_true, decide_true, decide_false, Bool.true_and, Bool.and_true, Bool.false_and, Bool.and_false, Bool.true_or, Bool.false_or, Bool.or_true, Bool.or_false, Bool.decide_eq_true, decide_eq_true_eq, decide_eq_false_iff_not, decide_not, Bool.not_eq_true', Nat.reduceLeDiff, Nat.reduceAdd, Bool.not_not, Option.toList, tcons, List.take_succ_cons, List.map_id_fun', id_eq, List.map_id', List.isEmpty_map]
  simp
  rw [List.getElem?_range (by omega)]
  rfl
theorem rowF_set (c : Nat) (F : Nat → Int) (u : Nat) : (rowF c F).set u (.int (F u + 1)) = rowF c (bump F u) := by
  unfold rowF bump
  apply List.ext_getElem?
  intro j
  rw [List.getElem?_set, List.getElem?_map, List.getElem?_map]
  by_cases h : u = j
  · subst h
    rw [if_pos rfl, List.length_map, List.length_range]
    by_cases h2 : u < c
    · rw [if_pos h2, List.getElem?_range h2]
      simp
    · rw [if_neg h2, List.getElem?_eq_none (by simpa using h2)]
      rfl
  · rw [if_neg h]
    by_cases h2 : j < c
    · rw [List.getElem?_range h2]
      simp [show j ≠ u from fun e => h e.symm]
    · rw [List.getElem?_eq_none (by simpa using h2)]
      rfl
theorem cntL_row (c : Nat) (A B : List Int) : (cntL c A B).map PyData.int = rowF c fun t => (cnt c A B t : Nat) := by
  unfold cntL rowF
  rw [List.map_map]
  rfl
theorem repl_F (c : Nat) : (List.replicate c [PyData.int 0]).flatten = rowF c fun _ => 0 := by
  unfold rowF
  rw [List.map_const', List.length_range]
  induction c with
  | zero => rfl
  | succ k ih => rw [List.replicate_succ, List.flatten_cons, ih]; rfl
theorem rowF_wd (n c : Nat) (F : Nat → Int) : (rowF c F).all (wdN n) = true := by
  unfold rowF
  simp only [List.all_map, List.all_eq_true, Function.comp_def, wd_int, implies_true]
theorem fin0 (k : Nat) (c : Nat) (hc : 0 < c) (hc2 : c ≤ 24) (A : List Int) (b : Int) (x2 : D) (F : Nat → Int) (cs : CS) :
    forL (.nm 5) (evSs (run prg k) prg.tab b8_f0) (A.map .int) [some (.int (c : Int)), some (TI A), some x2, some (cellD cs.length), some (.int b), none] (cs ++ [some (rowF c F)]) =
      .ok (.nx [some (.int (c : Int)), some (TI A), some x2, some (cellD cs.length), some (.int b), none]) (cs ++ [some (rowF c (fillB c A F b))]) := by
  have := for_fold (tg := .nm 5) (body := evSs (run prg k) prg.tab b8_f0) (fun (i : Int) => .int i) (fun (_ : Nat → Int) => [some (.int (c : Int)), some (TI A), some x2, some (cellD cs.length), some (.int b), none]) (fun F => cs ++ [some (rowF c F)]) (fun F a => bump F ((b + a) % (c : Int)).toNat) A F fun p a q _ => by
    generalize p.foldl (fun F a => bump F ((b + a) % (c : Int)).toNat) F = G
    have p1 := Int.emod_nonneg (b + a) (show (c : Int) ≠ 0 by omega)
    have p2 := Int.emod_lt_of_pos (b + a) (show (0 : Int) < c by omega)
    have m : ∀ cs, Bop.mod.fn (.int (b + a)) (.int (c : Int)) cs = .ok (.int ((b + a) % (c : Int))) cs := fun cs => mod_i cs _ _ (by omega)
    have s := rowF_set c G ((b + a) % (c : Int)).toNat
    have l := rowF_len c G
    generalize (b + a) % (c : Int) = u at *
    unfold b8_f0
    simp -implicitDefEqProofs (disch := (first | assumption | omega | (simp -implicitDefEqProofs only [all_tt, wd_non, wd_bl, wd_int, wd_str, wd_lst, wd_tup, List.all_map, List.all_cons, List.all_nil, List.all_append, Bool.and_true, Bool.and_self, Function.comp_def, List.length_map, List.length_append, List.length_cons, List.length_nil, List.length_range, List.all_eq_true, implies_true, lay_int, lays_ints, lays_nil, lays_cons, List.length_zip, List.length_drop, List.length_take, List.length_range', List.length_reverse, wd_int]; done) | (simp -implicitDefEqProofs only [all_tt, wd_non, wd_bl, wd_int, wd_str, wd_lst, wd_tup, List.all_map, List.all_cons, List.all_nil, List.all_append, Bool.and_true, Bool.and_self, Function.comp_def, List.length_map, List.length_append, List.length_cons, List.length_nil, List.length_range, List.all_eq_true, implies_true, lay_int, lays_ints, lays_nil, lays_cons, List.length_zip, List.length_drop, List.length_take, List.length_range', List.length_reverse, wd_int]; omega))) only [bd_ok, bd_exc, bd_stuck, bd_ite, ret_ok, stk_st, fetch_0, fetch_s, fetchC_0, fetchC_s, tst_bl, eE_var, eE_nev, eE_int, eE_bl, eE_non, eE_str, eE_con, boxR_f, boxR_tw, boxR_e, boxR_ite, eE_disp, eE_tup, eE_bin, eE_neg, eE_not, eE_and, eE_or, eE_one, eE_cmp, eE_chn, eE_ife, eE_call, eE_blt, eE_isi, eE_ix, intPart_i, eE_sl, eE_comp, eE_comp2, comp2L_fl, flR_comp, setTgL_nm, quietL_ok, eE_lrg1, eE_lrg2, eE_rep, eE_lsc, eE_app, eE_pop, eE_popAt, eE_idx, eE_sset, eE_lset, eE_rev, eEs_nil, eEs_cons, eI_seq, eI_rng1, eI_rng2, eI_rng3, eI_zip, eI_enm, seqR_nx, seqR_rt, seqR_exc, seqR_ite, eSs_nil, eSs_cons, eSs_frz, eSs_clr, eS_never, eS_set, eS_setT, eS_par, eS_setI, eS_aug, eS_drop, eS_doc, eS_pass, eS_retN, eS_raise, eS_ret, eS_iff, eS_forS, eS_wh, quiet_ok, quiet_ite, compL_none, compL_some, mapR_comp, mapR_ok, mapR_nil, mapR_cons, fltR_nil, fltR_cons, fltR_comp, fltR_ok, endR_nx, endR_exc, endR_keep, endR_rt, endR_int, endR_bl, endR_non, endR_ite, take_app, List.take_length, f_lt, f_gt, f_le, f_ge, eqv_int, eqv_strs, f_eqi, f_nei, f_is, f_isn, f_isb, isNon_n, isNon_b, isNon_i, isNon_s, isNon_l, isNon_t, not_b, neg_i, add_i, sub_i, len_t, len_l, abs_i, int_i, int_b, tup_t, tup_l, lst_t, lst_l, str_s, sum_l, all_l, any_l, all_nil, lit_l, lit_t, zip_l, zip_t, enm_l, cut_t, cut_l, lstOf_l, mtR_l, isi_n, isi_b, isi_i, isi_s, isi_l, isi_t, eqv_lints, eqv_tints, forL_nil, h_hole, h_var, h_int, h_bl, h_non, h_str, h_con, h_tup, h_disp, h_bin, h_neg, h_not, h_and, h_or, h_one, h_cmp, h_chn, h_ife, h_call, h_blt, h_isi, h_ix, h_sl, wipe_nil, wipe_cons, setAll_nil, setAll_cons, bool_and, bool_or, fitI_i, fitI_n, fitI_b, fitI_s, fitI_l, fitI_t, isT_t, isT_n, isT_b, isT_i, isT_s, isT_l, zallR_t, eSs_zall, free_0, free_s, done_nx, drop_m, take_m, rev_m, app_m, rev_t, rev_l, getC_0, getC_s, getC_aj, getC_a, setC_aj, setC_a, app_c, appR_s, pop_c, popR_s, set_c, setR_s, aug_c, augR_s, aug_i, lst_c, mt_o, mtO_s, slot_0, slot_s, frz_o, frzO_c, frzR_s, ix_ti, ix_li, ix_tl, ix_ll, ix_t0, ix_t1, ix_t2, ix_l0, ix_l1, ix_l2, ix_c, ixO_s, cutL_map, cutL_f, cutL_t, cutL_ft, pairsL_map, enumL_map, rng1N, rng2N, tg1, tg2, tg3, tgO1, tgO2, tgO3, tgF1, tgF2, tgF3, tgT2, tgT3, endO_s, endR_c0, endR_cj, endR_u0, endR_uj, sum_g, sset_gl, sset_gt, lset_gl, lset_gt, max_gl, max_gt, min_gl, min_gt, max_2, min_2, eq_nilL, ne_nilL, eq_nilT, ne_nilT, eq_gl, ne_gl, eq_gt, ne_gt, rngVN, rng3D, in_gl, in_gt, nin_gl, nin_gt, in_pl, in_pt, nin_pl, nin_pt, max_pl, max_pt, min_pl, min_pt, eq_pl, ne_pl, eq_pt, ne_pt, eq_pgl, ne_pgl, eq_gpl, ne_gpl, eq_pgt, ne_pgt, eq_gpt, ne_gpt, isn_b, sset_l, sset_t, lset_l, lset_t, all_tt, any_ff, Int.natCast_nonneg, Int.cast_ofNat_Int, Bool.decide_eq_false, List.length_range', List.isEmpty_nil, List.isEmpty_cons, not_true_eq_false, not_false_eq_true, Bool.true_eq_false, eq_self, Int.reduceToNat, Int.reduceSub, Int.reduceAdd, Int.reduceNeg, Int.reduceLT, Int.reduceLE, Int.reduceMul, Nat.reduceSub, Nat.reduceMul, Int.reduceEq, Int.reduceNe, KH.TI, KH.LI, List.take_zero, List.take_nil, defI, and_true, true_and, and_false, false_and, and_self, List.set_cons_zero, List.set_cons_succ, List.length_cons, List.length_nil, List.length_map, List.length_append, List.length_range, List.cons_append, List.nil_append, List.append_assoc, Nat.zero_add, Int.toNat_natCast, reduceIte, Bool.not_true, Bool.not_false, Bool.false_eq_true, decide_true, decide_false, Bool.true_and, Bool.and_true, Bool.false_and, Bool.and_false, Bool.true_or, Bool.false_or, Bool.or_true, Bool.or_false, Bool.decide_eq_true, decide_eq_true_eq, decide_eq_false_iff_not, decide_not, Bool.not_eq_true', Nat.reduceLeDiff, Nat.reduceAdd, Bool.not_not, Option.toList, tcons, List.take_succ_cons, List.map_id_fun', id_eq, List.map_id', List.isEmpty_map, m, rowF_get, l, s]
  exact this
theorem fin (k : Nat) (c : Nat) (A B : List Int) (h : Hits c A) (hc : 0 < c) (hc2 : c ≤ 24) (cs : CS) : run prg (k + 1) 8 [.int (c : Int), TI A, TI B] cs = .ok (.list ((cntL c A B).map .int)) cs := by
  have e := for_fold (tg := .nm 4) (body := evSs (run prg k) prg.tab b8_f1) (fun (i : Int) => .int i) (fun (_ : Nat → Int) => [some (.int (c : Int)), some (TI A), some (TI B), some (cellD cs.length), none, none]) (fun F => cs ++ [some (rowF c F)]) (fillB c A) B (fun _ => 0) fun p b q _ => by
    generalize p.foldl (fillB c A) (fun _ => 0) = G
    have e0 := fin0 k c hc hc2 A b (TI B) G cs
    unfold b8_f1
    simp -implicitDefEqProofs (disch := (first | assumption | omega | (simp -implicitDefEqProofs only [all_tt, wd_non, wd_bl, wd_int, wd_str, wd_lst, wd_tup, List.all_map, List.all_cons, List.all_nil, List.all_append, Bool.and_true, Bool.and_self, Function.comp_def, List.length_map, List.length_append, List.length_cons, List.length_nil, List.length_range, List.all_eq_true, implies_true, lay_int, lays_ints, lays_nil, lays_cons, List.length_zip, List.length_drop, List.length_take, List.length_range', List.length_reverse, wd_int]; done) | (simp -implicitDefEqProofs only [all_tt, wd_non, wd_bl, wd_int, wd_str, wd_lst, wd_tup, List.all_map, List.all_cons, List.all_nil, List.all_append, Bool.and_true, Bool.and_self, Function.comp_def, List.length_map, List.length_append, List.length_cons, List.length_nil, List.length_range, List.all_eq_true, implies_true, lay_int, lays_ints, lays_nil, lays_cons, List.length_zip, List.length_drop, List.length_take, List.length_range', List.length_reverse, wd_int]; omega))) only [bd_ok, bd_exc, bd_stuck, bd_ite, ret_ok, stk_st, fetch_0, fetch_s, fetchC_0, fetchC_s, tst_bl, eE_var, eE_nev, eE_int, eE_bl, eE_non, eE_str, eE_con, boxR_f, boxR_tw, boxR_e, boxR_ite, eE_disp, eE_tup, eE_bin, eE_neg, eE_not, eE_and, eE_or, eE_one, eE_cmp, eE_chn, eE_ife, eE_call, eE_blt, eE_isi, eE_ix, intPart_i, eE_sl, eE_comp, eE_comp2, comp2L_fl, flR_comp, setTgL_nm, quietL_ok, eE_lrg1, eE_lrg2, eE_rep, eE_lsc, eE_app, eE_pop, eE_popAt, eE_idx, eE_sset, eE_lset, eE_rev, eEs_nil, eEs_cons, eI_seq, eI_rng1, eI_rng2, eI_rng3, eI_zip, eI_enm, seqR_nx, seqR_rt, seqR_exc, seqR_ite, eSs_nil, eSs_cons, eSs_frz, eSs_clr, eS_never, eS_set, eS_setT, eS_par, eS_setI, eS_aug, eS_drop, eS_doc, eS_pass, eS_retN, eS_raise, eS_ret, eS_iff, eS_forS, eS_wh, quiet_ok, quiet_ite, compL_none, compL_some, mapR_comp, mapR_ok, mapR_nil, mapR_cons, fltR_nil, fltR_cons, fltR_comp, fltR_ok, endR_nx, endR_exc, endR_keep, endR_rt, endR_int, endR_bl, endR_non, endR_ite, take_app, List.take_length, f_lt, f_gt, f_le, f_ge, eqv_int, eqv_strs, f_eqi, f_nei, f_is, f_isn, f_isb, isNon_n, isNon_b, isNon_i, isNon_s, isNon_l, isNon_t, not_b, neg_i, add_i, sub_i, len_t, len_l, abs_i, int_i, int_b, tup_t, tup_l, lst_t, lst_l, str_s, sum_l, all_l, any_l, all_nil, lit_l, lit_t, zip_l, zip_t, enm_l, cut_t, cut_l, lstOf_l, mtR_l, isi_n, isi_b, isi_i, isi_s, isi_l, isi_t, eqv_lints, eqv_tints, forL_nil, h_hole, h_var, h_int, h_bl, h_non, h_str, h_con, h_tup, h_disp, h_bin, h_neg, h_not, h_and, h_or, h_one, h_cmp, h_chn, h_ife, h_call, h_blt, h_isi, h_ix, h_sl, wipe_nil, wipe_cons, setAll_nil, setAll_cons, bool_and, bool_or, fitI_i, fitI_n, fitI_b, fitI_s, fitI_l, fitI_t, isT_t, isT_n, isT_b, isT_i, isT_s, isT_l, zallR_t, eSs_zall, free_0, free_s, done_nx, drop_m, take_m, rev_m, app_m, rev_t, rev_l, getC_0, getC_s, getC_aj, getC_a, setC_aj, setC_a, app_c, appR_s, pop_c, popR_s, set_c, setR_s, aug_c, augR_s, aug_i, lst_c, mt_o, mtO_s, slot_0, slot_s, frz_o, frzO_c, frzR_s, ix_ti, ix_li, ix_tl, ix_ll, ix_t0, ix_t1, ix_t2, ix_l0, ix_l1, ix_l2, ix_c, ixO_s, cutL_map, cutL_f, cutL_t, cutL_ft, pairsL_map, enumL_map, rng1N, rng2N, tg1, tg2, tg3, tgO1, tgO2, tgO3, tgF1, tgF2, tgF3, tgT2, tgT3, endO_s, endR_c0, endR_cj, endR_u0, endR_uj, sum_g, sset_gl, sset_gt, lset_gl, lset_gt, max_gl, max_gt, min_gl, min_gt, max_2, min_2, eq_nilL, ne_nilL, eq_nilT, ne_nilT, eq_gl, ne_gl, eq_gt, ne_gt, rngVN, rng3D, in_gl, in_gt, nin_gl, nin_gt, in_pl, in_pt, nin_pl, nin_pt, max_pl, max_pt, min_pl, min_pt, eq_pl, ne_pl, eq_pt, ne_pt, eq_pgl, ne_pgl, eq_gpl, ne_gpl, eq_pgt, ne_pgt, eq_gpt, ne_gpt, isn_b, sset_l, sset_t, lset_l, lset_t, all_tt, any_ff, Int.natCast_nonneg, Int.cast_ofNat_Int, Bool.decide_eq_false, List.length_range', List.isEmpty_nil, List.isEmpty_cons, not_true_eq_false, not_false_eq_true, Bool.true_eq_false, eq_self, Int.reduceToNat, Int.reduceSub, Int.reduceAdd, Int.reduceNeg, Int.reduceLT, Int.reduceLE, Int.reduceMul, Nat.reduceSub, Nat.reduceMul, Int.reduceEq, Int.reduceNe, KH.TI, KH.LI, List.take_zero, List.take_nil, defI, and_true, true_and, and_false, false_and, and_self, List.set_cons_zero, List.set_cons_succ, List.length_cons, List.length_nil, List.length_map, List.length_append, List.length_range, List.cons_append, List.nil_append, List.append_assoc, Nat.zero_add, Int.toNat_natCast, reduceIte, Bool.not_true, Bool.not_false, Bool.false_eq_true, decide_true, decide_false, Bool.true_and, Bool.and_true, Bool.false_and, Bool.and_false, Bool.true_or, Bool.false_or, Bool.or_true, Bool.or_false, Bool.decide_eq_true, decide_eq_true_eq, decide_eq_false_iff_not, decide_not, Bool.not_eq_true', Nat.reduceLeDiff, Nat.reduceAdd, Bool.not_not, Option.toList, tcons, List.take_succ_cons, List.map_id_fun', id_eq, List.map_id', List.isEmpty_map, e0]
  have q : rowF c (B.foldl (fillB c A) fun _ => 0) = (cntL c A B).map .int := by
    rw [cntL_row]
    exact rowF_cg fun t ht => by rw [fill_all h B _ t ht]; simp
  rw [q] at e
  have r : ∀ cs, repR (.list [.int 0]) (.int (c : Int)) cs = .ok (rowF c fun _ => 0) cs := fun cs => by
    unfold repR
    simp only [lstOf, Int.toNat_natCast, repl_F]
    rw [if_pos (by simp; omega)]
  have b0 : ∀ cs, boxR true (.ok (rowF c fun _ => 0) cs) = .ok (cellD cs.length) (cs ++ [some (rowF c fun _ => 0)]) := fun cs => boxR_tw _ _ (rowF_wd 8 _ _)
  rw [r_filled_in]
  unfold b8
  simp -implicitDefEqProofs (disch := (first | assumption | omega | (simp -implicitDefEqProofs only [all_tt, wd_non, wd_bl, wd_int, wd_str, wd_lst, wd_tup, List.all_map, List.all_cons, List.all_nil, List.all_append, Bool.and_true, Bool.and_self, Function.comp_def, List.length_map, List.length_append, List.length_cons, List.length_nil, List.length_range, List.all_eq_true, implies_true, lay_int, lays_ints, lays_nil, lays_cons, List.length_zip, List.length_drop, List.length_take, List.length_range', List.length_reverse, wd_int]; done) | (simp -implicitDefEqProofs only [all_tt, wd_non, wd_bl, wd_int, wd_str, wd_lst, wd_tup, List.all_map, List.all_cons, List.all_nil, List.all_append, Bool.and_true, Bool.and_self, Function.comp_def, List.length_map, List.length_append, List.length_cons, List.length_nil, List.length_range, List.all_eq_true, implies_true, lay_int, lays_ints, lays_nil, lays_cons, List.length_zip, List.length_drop, List.length_take, List.length_range', List.length_reverse, wd_int]; omega))) only [bd_ok, bd_exc, bd_stuck, bd_ite, ret_ok, stk_st, fetch_0, fetch_s, fetchC_0, fetchC_s, tst_bl, eE_var, eE_nev, eE_int, eE_bl, eE_non, eE_str, eE_con, boxR_f, boxR_tw, boxR_e, boxR_ite, eE_disp, eE_tup, eE_bin, eE_neg, eE_not, eE_and, eE_or, eE_one, eE_cmp, eE_chn, eE_ife, eE_call, eE_blt, eE_isi, eE_ix, intPart_i, eE_sl, eE_comp, eE_comp2, comp2L_fl, flR_comp, setTgL_nm, quietL_ok, eE_lrg1, eE_lrg2, eE_rep, eE_lsc, eE_app, eE_pop, eE_popAt, eE_idx, eE_sset, eE_lset, eE_rev, eEs_nil, eEs_cons, eI_seq, eI_rng1, eI_rng2, eI_rng3, eI_zip, eI_enm, seqR_nx, seqR_rt, seqR_exc, seqR_ite, eSs_nil, eSs_cons, eSs_frz, eSs_clr, eS_never, eS_set, eS_setT, eS_par, eS_setI, eS_aug, eS_drop, eS_doc, eS_pass, eS_retN, eS_raise, eS_ret, eS_iff, eS_forS, eS_wh, quiet_ok, quiet_ite, compL_none, compL_some, mapR_comp, mapR_ok, mapR_nil, mapR_cons, fltR_nil, fltR_cons, fltR_comp, fltR_ok, endR_nx, endR_exc, endR_keep, endR_rt, endR_int, endR_bl, endR_non, endR_ite, take_app, List.take_length, f_lt, f_gt, f_le, f_ge, eqv_int, eqv_strs, f_eqi, f_nei, f_is, f_isn, f_isb, isNon_n, isNon_b, isNon_i, isNon_s, isNon_l, isNon_t, not_b, neg_i, add_i, sub_i, len_t, len_l, abs_i, int_i, int_b, tup_t, tup_l, lst_t, lst_l, str_s, sum_l, all_l, any_l, all_nil, lit_l, lit_t, zip_l, zip_t, enm_l, cut_t, cut_l, lstOf_l, mtR_l, isi_n, isi_b, isi_i, isi_s, isi_l, isi_t, eqv_lints, eqv_tints, forL_nil, h_hole, h_var, h_int, h_bl, h_non, h_str, h_con, h_tup, h_disp, h_bin, h_neg, h_not, h_and, h_or, h_one, h_cmp, h_chn, h_ife, h_call, h_blt, h_isi, h_ix, h_sl, wipe_nil, wipe_cons, setAll_nil, setAll_cons, bool_and, bool_or, fitI_i, fitI_n, fitI_b, fitI_s, fitI_l, fitI_t, isT_t, isT_n, isT_b, isT_i, isT_s, isT_l, zallR_t, eSs_zall, free_0, free_s, done_nx, drop_m, take_m, rev_m, app_m, rev_t, rev_l, getC_0, getC_s, getC_aj, getC_a, setC_aj, setC_a, app_c, appR_s, pop_c, popR_s, set_c, setR_s, aug_c, augR_s, aug_i, lst_c, mt_o, mtO_s, slot_0, slot_s, frz_o, frzO_c, frzR_s, ix_ti, ix_li, ix_tl, ix_ll, ix_t0, ix_t1, ix_t2, ix_l0, ix_l1, ix_l2, ix_c, ixO_s, cutL_map, cutL_f, cutL_t, cutL_ft, pairsL_map, enumL_map, rng1N, rng2N, tg1, tg2, tg3, tgO1, tgO2, tgO3, tgF1, tgF2, tgF3, tgT2, tgT3, endO_s, endR_c0, endR_cj, endR_u0, endR_uj, sum_g, sset_gl, sset_gt, lset_gl, lset_gt, max_gl, max_gt, min_gl, min_gt, max_2, min_2, eq_nilL, ne_nilL, eq_nilT, ne_nilT, eq_gl, ne_gl, eq_gt, ne_gt, rngVN, rng3D, in_gl, in_gt, nin_gl, nin_gt, in_pl, in_pt, nin_pl, nin_pt, max_pl, max_pt, min_pl, min_pt, eq_pl, ne_pl, eq_pt, ne_pt, eq_pgl, ne_pgl, eq_gpl, ne_gpl, eq_pgt, ne_pgt, eq_gpt, ne_gpt, isn_b, sset_l, sset_t, lset_l, lset_t, all_tt, any_ff, Int.natCast_nonneg, Int.cast_ofNat_Int, Bool.decide_eq_false, List.length_range', List.isEmpty_nil, List.isEmpty_cons, not_true_eq_false, not_false_eq_true, Bool.true_eq_false, eq_self, Int.reduceToNat, Int.reduceSub, Int.reduceAdd, Int.reduceNeg, Int.reduceLT, Int.reduceLE, Int.reduceMul, Nat.reduceSub, Nat.reduceMul, Int.reduceEq, Int.reduceNe, KH.TI, KH.LI, List.take_zero, List.take_nil, defI, and_true, true_and, and_false, false_and, and_self, List.set_cons_zero, List.set_cons_succ, List.length_cons, List.length_nil, List.length_map, List.length_append, List.length_range, List.cons_append, List.nil_append, List.append_assoc, Nat.zero_add, Int.toNat_natCast, reduceIte, Bool.not_true, Bool.not_false, Bool.false_eq_true, decide_true, decide_false, Bool.true_and, Bool.and_true, Bool.false_and, Bool.and_false, Bool.true_or, Bool.false_or, Bool.or_true, Bool.or_false, Bool.decide_eq_true, decide_eq_true_eq, decide_eq_false_iff_not, decide_not, Bool.not_eq_true', Nat.reduceLeDiff, Nat.reduceAdd, Bool.not_not, Option.toList, tcons, List.take_succ_cons, List.map_id_fun', id_eq, List.map_id', List.isEmpty_map, r, b0, e]
theorem isf (k : Nat) (c : Nat) (A B : List Int) (gA : HitsT c A) (gB : HitsT c B) (cs : CS) : run prg (k + 5) 11 [.int (c : Int), TI A, TI B] cs = .ok (.bool (decide (Til c A B))) cs := by
  have h0 := gA.c0
  have h1 := gA.c1
  have e := fun cs => fin (k + 3) c A B gA.h gA.c0 gA.c1 cs
  have r : ∀ cs, repR (.list [.int 1]) (.int (c : Int)) cs = .ok ((List.replicate c (1 : Int)).map .int) cs := fun cs => by
    unfold repR
    simp only [lstOf, Int.toNat_natCast]
    rw [if_pos (by simp; omega)]
    congr 1
    induction c with
    | zero => rfl
    | succ k ih => rw [List.replicate_succ, List.flatten_cons]; simp [List.replicate_succ]
  have q : decide (cntL c A B = List.replicate c (1 : Int)) = decide (Til c A B) := by
    rw [decide_eq_decide]
    unfold cntL
    rw [List.eq_replicate_iff]
    simp only [List.length_map, List.length_range, true_and, List.mem_map, List.mem_range]
    constructor
    · intro h t ht
      have := h _ ⟨t, ht, rfl⟩
      omega
    · rintro h b ⟨t, ht, rfl⟩
      rw [h t ht]
      rfl
  rw [r_is_filling]
  unfold b11
  simp -implicitDefEqProofs (disch := (first | assumption | omega | (simp -implicitDefEqProofs only [all_tt, wd_non, wd_bl, wd_int, wd_str, wd_lst, wd_tup, List.all_map, List.all_cons, List.all_nil, List.all_append, Bool.and_true, Bool.and_self, Function.comp_def, List.length_map, List.length_append, List.length_cons, List.length_nil, List.length_range, List.all_eq_true, implies_true, lay_int, lays_ints, lays_nil, lays_cons, List.length_zip, List.length_drop, List.length_take, List.length_range', List.length_reverse, wd_int]; done) | (simp -implicitDefEqProofs only [all_tt, wd_non, wd_bl, wd_int, wd_str, wd_lst, wd_tup, List.all_map, List.all_cons, List.all_nil, List.all_append, Bool.and_true, Bool.and_self, Function.comp_def, List.length_map, List.length_append, List.length_cons, List.length_nil, List.length_range, List.all_eq_true, implies_true, lay_int, lays_ints, lays_nil, lays_cons, List.length_zip, List.length_drop, List.length_take, List.length_range', List.length_reverse, wd_int]; omega))) only [bd_ok, bd_exc, bd_stuck, bd_ite, ret_ok, stk_st, fetch_0, fetch_s, fetchC_0, fetchC_s, tst_bl, eE_var, eE_nev, eE_int, eE_bl, eE_non, eE_str, eE_con, boxR_f, boxR_tw, boxR_e, boxR_ite, eE_disp, eE_tup, eE_bin, eE_neg, eE_not, eE_and, eE_or, eE_one, eE_cmp, eE_chn, eE_ife, eE_call, eE_blt, eE_isi, eE_ix, intPart_i, eE_sl, eE_comp, eE_comp2, comp2L_fl, flR_comp, setTgL_nm, quietL_ok, eE_lrg1, eE_lrg2, eE_rep, eE_lsc, eE_app, eE_pop, eE_popAt, eE_idx, eE_sset, eE_lset, eE_rev, eEs_nil, eEs_cons, eI_seq, eI_rng1, eI_rng2, eI_rng3, eI_zip, eI_enm, seqR_nx, seqR_rt, seqR_exc, seqR_ite, eSs_nil, eSs_cons, eSs_frz, eSs_clr, eS_never, eS_set, eS_setT, eS_par, eS_setI, eS_aug, eS_drop, eS_doc, eS_pass, eS_retN, eS_raise, eS_ret, eS_iff, eS_forS, eS_wh, quiet_ok, quiet_ite, compL_none, compL_some, mapR_comp, mapR_ok, mapR_nil, mapR_cons, fltR_nil, fltR_cons, fltR_comp, fltR_ok, endR_nx, endR_exc, endR_keep, endR_rt, endR_int, endR_bl, endR_non, endR_ite, take_app, List.take_length, f_lt, f_gt, f_le, f_ge, eqv_int, eqv_strs, f_eqi, f_nei, f_is, f_isn, f_isb, isNon_n, isNon_b, isNon_i, isNon_s, isNon_l, isNon_t, not_b, neg_i, add_i, sub_i, len_t, len_l, abs_i, int_i, int_b, tup_t, tup_l, lst_t, lst_l, str_s, sum_l, all_l, any_l, all_nil, lit_l, lit_t, zip_l, zip_t, enm_l, cut_t, cut_l, lstOf_l, mtR_l, isi_n, isi_b, isi_i, isi_s, isi_l, isi_t, eqv_lints, eqv_tints, forL_nil, h_hole, h_var, h_int, h_bl, h_non, h_str, h_con, h_tup, h_disp, h_bin, h_neg, h_not, h_and, h_or, h_one, h_cmp, h_chn, h_ife, h_call, h_blt, h_isi, h_ix, h_sl, wipe_nil, wipe_cons, setAll_nil, setAll_cons, bool_and, bool_or, fitI_i, fitI_n, fitI_b, fitI_s, fitI_l, fitI_t, isT_t, isT_n, isT_b, isT_i, isT_s, isT_l, zallR_t, eSs_zall, free_0, free_s, done_nx, drop_m, take_m, rev_m, app_m, rev_t, rev_l, getC_0, getC_s, getC_aj, getC_a, setC_aj, setC_a, app_c, appR_s, pop_c, popR_s, set_c, setR_s, aug_c, augR_s, aug_i, lst_c, mt_o, mtO_s, slot_0, slot_s, frz_o, frzO_c, frzR_s, ix_ti, ix_li, ix_tl, ix_ll, ix_t0, ix_t1, ix_t2, ix_l0, ix_l1, ix_l2, ix_c, ixO_s, cutL_map, cutL_f, cutL_t, cutL_ft, pairsL_map, enumL_map, rng1N, rng2N, tg1, tg2, tg3, tgO1, tgO2, tgO3, tgF1, tgF2, tgF3, tgT2, tgT3, endO_s, endR_c0, endR_cj, endR_u0, endR_uj, sum_g, sset_gl, sset_gt, lset_gl, lset_gt, max_gl, max_gt, min_gl, min_gt, max_2, min_2, eq_nilL, ne_nilL, eq_nilT, ne_nilT, eq_gl, ne_gl, eq_gt, ne_gt, rngVN, rng3D, in_gl, in_gt, nin_gl, nin_gt, in_pl, in_pt, nin_pl, nin_pt, max_pl, max_pt, min_pl, min_pt, eq_pl, ne_pl, eq_pt, ne_pt, eq_pgl, ne_pgl, eq_gpl, ne_gpl, eq_pgt, ne_pgt, eq_gpt, ne_gpt, isn_b, sset_l, sset_t, lset_l, lset_t, all_tt, any_ff, Int.natCast_nonneg, Int.cast_ofNat_Int, Bool.decide_eq_false, List.length_range', List.isEmpty_nil, List.isEmpty_cons, not_true_eq_false, not_false_eq_true, Bool.true_eq_false, eq_self, Int.reduceToNat, Int.reduceSub, Int.reduceAdd, Int.reduceNeg, Int.reduceLT, Int.reduceLE, Int.reduceMul, Nat.reduceSub, Nat.reduceMul, Int.reduceEq, Int.reduceNe, KH.TI, KH.LI, List.take_zero, List.take_nil, defI, and_true, true_and, and_false, false_and, and_self, List.set_cons_zero, List.set_cons_succ, List.length_cons, List.length_nil, List.length_map, List.length_append, List.length_range, List.cons_append, List.nil_append, List.append_assoc, Nat.zero_add, Int.toNat_natCast, reduceIte, Bool.not_true, Bool.not_false, Bool.false_eq_true, decide_true, decide_false, Bool.true_and, Bool.and_true, Bool.false_and, Bool.and_false, Bool.true_or, Bool.false_or, Bool.or_true, Bool.or_false, Bool.decide_eq_true, decide_eq_true_eq, decide_eq_false_iff_not, decide_not, Bool.not_eq_true', Nat.reduceLeDiff, Nat.reduceAdd, Bool.not_not, Option.toList, tcons, List.take_succ_cons, List.map_id_fun', id_eq, List.map_id', List.isEmpty_map, nh _ c A gA, nh _ c B gB, e, r, q]

end KP

namespace KP
open PySem PySem.Spec PyProof.Rows L2 KH
abbrev nodD (c : Nat) (A n : List Int) : D := .tuple [.tuple (n.map .int), .list ((cntL c A n).map .int)]
theorem cnt_kid (c : Nat) (A n m : List Int) : ((cntL c A n).zip (cntL c A m)).map (fun p => p.1 + p.2) = cntL c A (n ++ m) := by
  unfold cntL
  rw [List.zip_map', List.map_map]
  refine List.map_congr_left fun t _ => ?_
  simp [cnt_app]
theorem fm1 {α β : Type} (f : α → β) : ∀ M : List α, (M.flatMap fun a => [f a]) = M.map f
  | [] => rfl
  | a :: M => by rw [List.flatMap_cons, List.map_cons, fm1 f M, List.singleton_append]
theorem fg0 (k : Nat) (c : Nat) (A n : List Int) (g : Nat) (h : HitsT c A) (fs : Option (List D)) (cs : CS) (x2 x3 : D) (acc : List D) (ha : acc.length + 30 ≤ 16000000) (M : List Int) (hM : ∀ a ∈ M, a ∈ A) (hn : n.length ≤ 1000) (hl : M.length ≤ 24) :
    forL (.nm 7) (evSs (run prg (k + 1)) prg.tab b9_f0) (M.map .int) [some (.int (c : Int)), some (TI A), some (cellD cs.length), some x3, some (.tuple (n.map .int)), some (.list ((cntL c A n).map .int)), some (.int (g : Int)), none, none, none, none, none] (cs ++ [some acc, fs]) =
      .ok (.nx [some (.int (c : Int)), some (TI A), some (cellD cs.length), some x3, some (.tuple (n.map .int)), some (.list ((cntL c A n).map .int)), some (.int (g : Int)), none, none, none, none, none]) (cs ++ [some (acc ++ M.map fun a => nodD c A (kid c g n a)), fs]) := by
  have h0 := h.c0
  have := for_app (tg := .nm 7) (body := evSs (run prg (k + 1)) prg.tab b9_f0) (fun (i : Int) => .int i) [some (.int (c : Int)), some (TI A), some (cellD cs.length), some x3, some (.tuple (n.map .int)), some (.list ((cntL c A n).map .int)), some (.int (g : Int)), none, none, none, none, none] (fun acc => cs ++ [some acc, fs]) 1 (fun a => [nodD c A (kid c g n a)]) M acc (by omega) fun a hm acc hacc => by
    refine ⟨by simp, ?_⟩
    have m : ∀ cs, Bop.mod.fn (.int ((g : Int) - a)) (.int (c : Int)) cs = .ok (.int (((g : Int) - a) % (c : Int))) cs := fun cs => mod_i cs _ _ (by omega)
    have e : ∀ cs, run prg (k + 1) 8 [.int (c : Int), TI A, .tuple [.int (((g : Int) - a) % (c : Int))]] cs = .ok (.list ((cntL c A [((g : Int) - a) % (c : Int)]).map .int)) cs := fun cs => fin k c A [((g : Int) - a) % (c : Int)] h.h h.c0 h.c1 cs
    have ad : ∀ b cs, Bop.add.fn (.tuple (n.map .int)) (.tuple [.int b]) cs = .ok (.tuple ((n ++ [b]).map .int)) cs := fun b cs => by
      rw [add_t _ _ _ (by simp; omega)]
      simp
    have z := cnt_kid c A n [((g : Int) - a) % (c : Int)]
    have l1 := cntL_len c A n
    have l2 := cntL_len c A [((g : Int) - a) % (c : Int)]
    have hc1 := h.c1
    unfold kid
    generalize ((g : Int) - a) % (c : Int) = b at *
    unfold b9_f0
    have z2 : ((cntL c A n).zip (cntL c A [b])).map (fun x => PyData.int (x.1 + x.2)) = (cntL c A (n ++ [b])).map .int := by
      rw [← z, List.map_map]
      rfl
    simp -implicitDefEqProofs (disch := (first | assumption | omega | (simp -implicitDefEqProofs only [all_tt, wd_non, wd_bl, wd_int, wd_str, wd_lst, wd_tup, List.all_map, List.all_cons, List.all_nil, List.all_append, Bool.and_true, Bool.and_self, Function.comp_def, List.length_map, List.length_append, List.length_cons, List.length_nil, List.length_range, List.all_eq_true, implies_true, lay_int, lays_ints, lays_nil, lays_cons, List.length_zip, List.length_drop, List.length_take, List.length_range', List.length_reverse, wd_int]; done) | (simp -implicitDefEqProofs only [all_tt, wd_non, wd_bl, wd_int, wd_str, wd_lst, wd_tup, List.all_map, List.all_cons, List.all_nil, List.all_append, Bool.and_true, Bool.and_self, Function.comp_def, List.length_map, List.length_append, List.length_cons, List.length_nil, List.length_range, List.all_eq_true, implies_true, lay_int, lays_ints, lays_nil, lays_cons, List.length_zip, List.length_drop, List.length_take, List.length_range', List.length_reverse, wd_int]; omega))) only [bd_ok, bd_exc, bd_stuck, bd_ite, ret_ok, stk_st, fetch_0, fetch_s, fetchC_0, fetchC_s, tst_bl, eE_var, eE_nev, eE_int, eE_bl, eE_non, eE_str, eE_con, boxR_f, boxR_tw, boxR_e, boxR_ite, eE_disp, eE_tup, eE_bin, eE_neg, eE_not, eE_and, eE_or, eE_one, eE_cmp, eE_chn, eE_ife, eE_call, eE_blt, eE_isi, eE_ix, intPart_i, eE_sl, eE_comp, eE_comp2, comp2L_fl, flR_comp, setTgL_nm, quietL_ok, eE_lrg1, eE_lrg2, eE_rep, eE_lsc, eE_app, eE_pop, eE_popAt, eE_idx, eE_sset, eE_lset, eE_rev, eEs_nil, eEs_cons, eI_seq, eI_rng1, eI_rng2, eI_rng3, eI_zip, eI_enm, seqR_nx, seqR_rt, seqR_exc, seqR_ite, eSs_nil, eSs_cons, eSs_frz, eSs_clr, eS_never, eS_set, eS_setT, eS_par, eS_setI, eS_aug, eS_drop, eS_doc, eS_pass, eS_retN, eS_raise, eS_ret, eS_iff, eS_forS, eS_wh, quiet_ok, quiet_ite, compL_none, compL_some, mapR_comp, mapR_ok, mapR_nil, mapR_cons, fltR_nil, fltR_cons, fltR_comp, fltR_ok, endR_nx, endR_exc, endR_keep, endR_rt, endR_int, endR_bl, endR_non, endR_ite, take_app, List.take_length, f_lt, f_gt, f_le, f_ge, eqv_int, eqv_strs, f_eqi, f_nei, f_is, f_isn, f_isb, isNon_n, isNon_b, isNon_i, isNon_s, isNon_l, isNon_t, not_b, neg_i, add_i, sub_i, len_t, len_l, abs_i, int_i, int_b, tup_t, tup_l, lst_t, lst_l, str_s, sum_l, all_l, any_l, all_nil, lit_l, lit_t, zip_l, zip_t, enm_l, cut_t, cut_l, lstOf_l, mtR_l, isi_n, isi_b, isi_i, isi_s, isi_l, isi_t, eqv_lints, eqv_tints, forL_nil, h_hole, h_var, h_int, h_bl, h_non, h_str, h_con, h_tup, h_disp, h_bin, h_neg, h_not, h_and, h_or, h_one, h_cmp, h_chn, h_ife, h_call, h_blt, h_isi, h_ix, h_sl, wipe_nil, wipe_cons, setAll_nil, setAll_cons, bool_and, bool_or, fitI_i, fitI_n, fitI_b, fitI_s, fitI_l, fitI_t, isT_t, isT_n, isT_b, isT_i, isT_s, isT_l, zallR_t, eSs_zall, free_0, free_s, done_nx, drop_m, take_m, rev_m, app_m, rev_t, rev_l, getC_0, getC_s, getC_aj, getC_a, setC_aj, setC_a, app_c, appR_s, pop_c, popR_s, set_c, setR_s, aug_c, augR_s, aug_i, lst_c, mt_o, mtO_s, slot_0, slot_s, frz_o, frzO_c, frzR_s, ix_ti, ix_li, ix_tl, ix_ll, ix_t0, ix_t1, ix_t2, ix_l0, ix_l1, ix_l2, ix_c, ixO_s, cutL_map, cutL_f, cutL_t, cutL_ft, pairsL_map, enumL_map, rng1N, rng2N, tg1, tg2, tg3, tgO1, tgO2, tgO3, tgF1, tgF2, tgF3, tgT2, tgT3, endO_s, endR_c0, endR_cj, endR_u0, endR_uj, sum_g, sset_gl, sset_gt, lset_gl, lset_gt, max_gl, max_gt, min_gl, min_gt, max_2, min_2, eq_nilL, ne_nilL, eq_nilT, ne_nilT, eq_gl, ne_gl, eq_gt, ne_gt, rngVN, rng3D, in_gl, in_gt, nin_gl, nin_gt, in_pl, in_pt, nin_pl, nin_pt, max_pl, max_pt, min_pl, min_pt, eq_pl, ne_pl, eq_pt, ne_pt, eq_pgl, ne_pgl, eq_gpl, ne_gpl, eq_pgt, ne_pgt, eq_gpt, ne_gpt, isn_b, sset_l, sset_t, lset_l, lset_t, all_tt, any_ff, Int.natCast_nonneg, Int.cast_ofNat_Int, Bool.decide_eq_false, List.length_range', List.isEmpty_nil, List.isEmpty_cons, not_true_eq_false, not_false_eq_true, Bool.true_eq_false, eq_self, Int.reduceToNat, Int.reduceSub, Int.reduceAdd, Int.reduceNeg, Int.reduceLT, Int.reduceLE, Int.reduceMul, Nat.reduceSub, Nat.reduceMul, Int.reduceEq, Int.reduceNe, KH.TI, KH.LI, List.take_zero, List.take_nil, defI, and_true, true_and, and_false, false_and, and_self, List.set_cons_zero, List.set_cons_succ, List.length_cons, List.length_nil, List.length_map, List.length_append, List.length_range, List.cons_append, List.nil_append, List.append_assoc, Nat.zero_add, Int.toNat_natCast, reduceIte, Bool.not_true, Bool.not_false, Bool.false_eq_true, decide_true, decide_false, Bool.true_and, Bool.and_true, Bool.false_and, Bool.and_false, Bool.true_or, Bool.false_or, Bool.or_true, Bool.or_false, Bool.decide_eq_true, decide_eq_true_eq, decide_eq_false_iff_not, decide_not, Bool.not_eq_true', Nat.reduceLeDiff, Nat.reduceAdd, Bool.not_not, Option.toList, tcons, List.take_succ_cons, List.map_id_fun', id_eq, List.map_id', List.isEmpty_map, m, e, ad, z2]
  rw [this, fm1]
/-- the loop's condition, its body, its slots, its store -/
abbrev whC (k : Nat) : KH.Env → M D := evE (run prg k) prg.tab (.cmp .ne (.var 2) (.disp false .nil))
abbrev whB (k : Nat) : KH.Env → M Fl := evSs (run prg k) prg.tab b9_f1
abbrev whE (c : Nat) (A : List Int) (L : Nat) : KH.Env := [some (.int (c : Int)), some (TI A), some (cellD L), some (cellD (L + 1)), none, none, none, none, none, none, none, none]
abbrev whS (c : Nat) (A : List Int) (cs : CS) (st found : List (List Int)) : CS := cs ++ [some (st.map (nodD c A)), some (found.map tupI)]
theorem nod_wd (c : Nat) (A : List Int) (l : List (List Int)) (k : Nat) : (l.map (nodD c A)).all (wdN (k + 2)) = true := by
  simp
theorem wh_c (k : Nat) (c : Nat) (A : List Int) (cs : CS) (st found : List (List Int)) : whC k (whE c A cs.length) (whS c A cs st found) = .ok (.bool (!st.isEmpty)) (whS c A cs st found) := by
  have ne : Cmp1.ne.fn (cellD cs.length) (.list []) (cs ++ [some (st.map (nodD c A)), some (found.map tupI)]) = .ok (.bool (!st.isEmpty)) (cs ++ [some (st.map (nodD c A)), some (found.map tupI)]) := by
    have d1 : drf (cellD cs.length) (cs ++ [some (st.map (nodD c A)), some (found.map tupI)]) = .list (st.map (nodD c A)) := by
      unfold drf
      rw [lst_c, getC_a, getC_0]
    show neD _ _ _ = _
    unfold neD
    rw [d1]
    have := ne_nilL (st.map (nodD c A)) (cs ++ [some (st.map (nodD c A)), some (found.map tupI)]) (nod_wd c A st 6)
    rw [show Cmp1.ne.fn (.list (st.map (nodD c A))) (.list []) = neD (.list (st.map (nodD c A))) (.list []) from rfl] at this
    unfold neD at this
    rw [List.isEmpty_map] at this
    exact this
  unfold whC whE whS
  simp -implicitDefEqProofs (disch := (first | assumption | omega | (simp -implicitDefEqProofs only [all_tt, wd_non, wd_bl, wd_int, wd_str, wd_lst, wd_tup, List.all_map, List.all_cons, List.all_nil, List.all_append, Bool.and_true, Bool.and_self, Function.comp_def, List.length_map, List.length_append, List.length_cons, List.length_nil, List.length_range, List.all_eq_true, implies_true, lay_int, lays_ints, lays_nil, lays_cons, List.length_zip, List.length_drop, List.length_take, List.length_range', List.length_reverse, wd_int]; done) | (simp -implicitDefEqProofs only [all_tt, wd_non, wd_bl, wd_int, wd_str, wd_lst, wd_tup, List.all_map, List.all_cons, List.all_nil, List.all_append, Bool.and_true, Bool.and_self, Function.comp_def, List.length_map, List.length_append, List.length_cons, List.length_nil, List.length_range, List.all_eq_true, implies_true, lay_int, lays_ints, lays_nil, lays_cons, List.length_zip, List.length_drop, List.length_take, List.length_range', List.length_reverse, wd_int]; omega))) only [bd_ok, bd_exc, bd_stuck, bd_ite, ret_ok, stk_st, fetch_0, fetch_s, fetchC_0, fetchC_s, tst_bl, eE_var, eE_nev, eE_int, eE_bl, eE_non, eE_str, eE_con, boxR_f, boxR_tw, boxR_e, boxR_ite, eE_disp, eE_tup, eE_bin, eE_neg, eE_not, eE_and, eE_or, eE_one, eE_cmp, eE_chn, eE_ife, eE_call, eE_blt, eE_isi, eE_ix, intPart_i, eE_sl, eE_comp, eE_comp2, comp2L_fl, flR_comp, setTgL_nm, quietL_ok, eE_lrg1, eE_lrg2, eE_rep, eE_lsc, eE_app, eE_pop, eE_popAt, eE_idx, eE_sset, eE_lset, eE_rev, eEs_nil, eEs_cons, eI_seq, eI_rng1, eI_rng2, eI_rng3, eI_zip, eI_enm, seqR_nx, seqR_rt, seqR_exc, seqR_ite, eSs_nil, eSs_cons, eSs_frz, eSs_clr, eS_never, eS_set, eS_setT, eS_par, eS_setI, eS_aug, eS_drop, eS_doc, eS_pass, eS_retN, eS_raise, eS_ret, eS_iff, eS_forS, eS_wh, quiet_ok, quiet_ite, compL_none, compL_some, mapR_comp, mapR_ok, mapR_nil, mapR_cons, fltR_nil, fltR_cons, fltR_comp, fltR_ok, endR_nx, endR_exc, endR_keep, endR_rt, endR_int, endR_bl, endR_non, endR_ite, take_app, List.take_length, f_lt, f_gt, f_le, f_ge, eqv_int, eqv_strs, f_eqi, f_nei, f_is, f_isn, f_isb, isNon_n, isNon_b, isNon_i, isNon_s, isNon_l, isNon_t, not_b, neg_i, add_i, sub_i, len_t, len_l, abs_i, int_i, int_b, tup_t, tup_l, lst_t, lst_l, str_s, sum_l, all_l, any_l, all_nil, lit_l, lit_t, zip_l, zip_t, enm_l, cut_t, cut_l, lstOf_l, mtR_l, isi_n, isi_b, isi_i, isi_s, isi_l, isi_t, eqv_lints, eqv_tints, forL_nil, h_hole, h_var, h_int, h_bl, h_non, h_str, h_con, h_tup, h_disp, h_bin, h_neg, h_not, h_and, h_or, h_one, h_cmp, h_chn, h_ife, h_call, h_blt, h_isi, h_ix, h_sl, wipe_nil, wipe_cons, setAll_nil, setAll_cons, bool_and, bool_or, fitI_i, fitI_n, fitI_b, fitI_s, fitI_l, fitI_t, isT_t, isT_n, isT_b, isT_i, isT_s, isT_l, zallR_t, eSs_zall, free_0, free_s, done_nx, drop_m, take_m, rev_m, app_m, rev_t, rev_l, getC_0, getC_s, getC_aj, getC_a, setC_aj, setC_a, app_c, appR_s, pop_c, popR_s, set_c, setR_s, aug_c, augR_s, aug_i, lst_c, mt_o, mtO_s, slot_0, slot_s, frz_o, frzO_c, frzR_s, ix_ti, ix_li, ix_tl, ix_ll, ix_t0, ix_t1, ix_t2, ix_l0, ix_l1, ix_l2, ix_c, ixO_s, cutL_map, cutL_f, cutL_t, cutL_ft, pairsL_map, enumL_map, rng1N, rng2N, tg1, tg2, tg3, tgO1, tgO2, tgO3, tgF1, tgF2, tgF3, tgT2, tgT3, endO_s, endR_c0, endR_cj, endR_u0, endR_uj, sum_g, sset_gl, sset_gt, lset_gl, lset_gt, max_gl, max_gt, min_gl, min_gt, max_2, min_2, eq_nilL, ne_nilL, eq_nilT, ne_nilT, eq_gl, ne_gl, eq_gt, ne_gt, rngVN, rng3D, in_gl, in_gt, nin_gl, nin_gt, in_pl, in_pt, nin_pl, nin_pt, max_pl, max_pt, min_pl, min_pt, eq_pl, ne_pl, eq_pt, ne_pt, eq_pgl, ne_pgl, eq_gpl, ne_gpl, eq_pgt, ne_pgt, eq_gpt, ne_gpt, isn_b, sset_l, sset_t, lset_l, lset_t, all_tt, any_ff, Int.natCast_nonneg, Int.cast_ofNat_Int, Bool.decide_eq_false, List.length_range', List.isEmpty_nil, List.isEmpty_cons, not_true_eq_false, not_false_eq_true, Bool.true_eq_false, eq_self, Int.reduceToNat, Int.reduceSub, Int.reduceAdd, Int.reduceNeg, Int.reduceLT, Int.reduceLE, Int.reduceMul, Nat.reduceSub, Nat.reduceMul, Int.reduceEq, Int.reduceNe, KH.TI, KH.LI, List.take_zero, List.take_nil, defI, and_true, true_and, and_false, false_and, and_self, List.set_cons_zero, List.set_cons_succ, List.length_cons, List.length_nil, List.length_map, List.length_append, List.length_range, List.cons_append, List.nil_append, List.append_assoc, Nat.zero_add, Int.toNat_natCast, reduceIte, Bool.not_true, Bool.not_false, Bool.false_eq_true, decide_true, decide_false, Bool.true_and, Bool.and_true, Bool.false_and, Bool.and_false, Bool.true_or, Bool.false_or, Bool.or_true, Bool.or_false, Bool.decide_eq_true, decide_eq_true_eq, decide_eq_false_iff_not, decide_not, Bool.not_eq_true', Nat.reduceLeDiff, Nat.reduceAdd, Bool.not_not, Option.toList, tcons, List.take_succ_cons, List.map_id_fun', id_eq, List.map_id', List.isEmpty_map, ne]
theorem wh_b (k : Nat) (c : Nat) (A n : List Int) (h : HitsT c A) (cs : CS) (st found : List (List Int)) (hn : n ≠ []) (hs : st.length ≤ 10000) (hf : found.length ≤ 10000) (hl : n.length ≤ 1000) :
    whB (k + 1) (whE c A cs.length) (whS c A cs (st ++ [n]) found) = .ok (.nx (whE c A cs.length)) (if Til c A n then whS c A cs st (found ++ [sortI n]) else if NoOv c A n then whS c A cs (st ++ A.map (kid c (gap c A n) n)) found else whS c A cs st found) := by
  have pop : ∀ j cs', popR j (some ((st ++ [n]).map (nodD c A))) cs' = .ok (nodD c A n) (cs'.set j (some (st.map (nodD c A)))) := fun j cs' => by
    rw [List.map_append, List.map_cons, List.map_nil, popR_s]
  have l0 : 0 < (cntL c A n).length := by rw [cntL_len]; exact h.c0
  have x1 := fun cs => max_pl cs (cntL c A n) l0
  have x2 := fun cs => min_pl cs (cntL c A n) l0
  have y1 := max_noov h.h h.c0 hn
  have sg : (found.map tupI).length < 16777216 := by rw [List.length_map]; omega
  have ap : found.map tupI ++ [tupI (sortI n)] = (found ++ [sortI n]).map tupI := by simp
  unfold whB whE whS
  unfold b9_f1
  by_cases q : NoOv c A n
  · have y2 := min_til h.c0 q
    have q' := q
    rw [y1] at q
    by_cases t : Til c A n
    · have t2 := y2.mp t
      simp -implicitDefEqProofs (disch := (first | assumption | omega | (simp -implicitDefEqProofs only [all_tt, wd_non, wd_bl, wd_int, wd_str, wd_lst, wd_tup, List.all_map, List.all_cons, List.all_nil, List.all_append, Bool.and_true, Bool.and_self, Function.comp_def, List.length_map, List.length_append, List.length_cons, List.length_nil, List.length_range, List.all_eq_true, implies_true, lay_int, lays_ints, lays_nil, lays_cons, List.length_zip, List.length_drop, List.length_take, List.length_range', List.length_reverse, wd_int]; done) | (simp -implicitDefEqProofs only [all_tt, wd_non, wd_bl, wd_int, wd_str, wd_lst, wd_tup, List.all_map, List.all_cons, List.all_nil, List.all_append, Bool.and_true, Bool.and_self, Function.comp_def, List.length_map, List.length_append, List.length_cons, List.length_nil, List.length_range, List.all_eq_true, implies_true, lay_int, lays_ints, lays_nil, lays_cons, List.length_zip, List.length_drop, List.length_take, List.length_range', List.length_reverse, wd_int]; omega))) only [bd_ok, bd_exc, bd_stuck, bd_ite, ret_ok, stk_st, fetch_0, fetch_s, fetchC_0, fetchC_s, tst_bl, eE_var, eE_nev, eE_int, eE_bl, eE_non, eE_str, eE_con, boxR_f, boxR_tw, boxR_e, boxR_ite, eE_disp, eE_tup, eE_bin, eE_neg, eE_not, eE_and, eE_or, eE_one, eE_cmp, eE_chn, eE_ife, eE_call, eE_blt, eE_isi, eE_ix, intPart_i, eE_sl, eE_comp, eE_comp2, comp2L_fl, flR_comp, setTgL_nm, quietL_ok, eE_lrg1, eE_lrg2, eE_rep, eE_lsc, eE_app, eE_pop, eE_popAt, eE_idx, eE_sset, eE_lset, eE_rev, eEs_nil, eEs_cons, eI_seq, eI_rng1, eI_rng2, eI_rng3, eI_zip, eI_enm, seqR_nx, seqR_rt, seqR_exc, seqR_ite, eSs_nil, eSs_cons, eSs_frz, eSs_clr, eS_never, eS_set, eS_setT, eS_par, eS_setI, eS_aug, eS_drop, eS_doc, eS_pass, eS_retN, eS_raise, eS_ret, eS_iff, eS_forS, eS_wh, quiet_ok, quiet_ite, compL_none, compL_some, mapR_comp, mapR_ok, mapR_nil, mapR_cons, fltR_nil, fltR_cons, fltR_comp, fltR_ok, endR_nx, endR_exc, endR_keep, endR_rt, endR_int, endR_bl, endR_non, endR_ite, take_app, List.take_length, f_lt, f_gt, f_le, f_ge, eqv_int, eqv_strs, f_eqi, f_nei, f_is, f_isn, f_isb, isNon_n, isNon_b, isNon_i, isNon_s, isNon_l, isNon_t, not_b, neg_i, add_i, sub_i, len_t, len_l, abs_i, int_i, int_b, tup_t, tup_l, lst_t, lst_l, str_s, sum_l, all_l, any_l, all_nil, lit_l, lit_t, zip_l, zip_t, enm_l, cut_t, cut_l, lstOf_l, mtR_l, isi_n, isi_b, isi_i, isi_s, isi_l, isi_t, eqv_lints, eqv_tints, forL_nil, h_hole, h_var, h_int, h_bl, h_non, h_str, h_con, h_tup, h_disp, h_bin, h_neg, h_not, h_and, h_or, h_one, h_cmp, h_chn, h_ife, h_call, h_blt, h_isi, h_ix, h_sl, wipe_nil, wipe_cons, setAll_nil, setAll_cons, bool_and, bool_or, fitI_i, fitI_n, fitI_b, fitI_s, fitI_l, fitI_t, isT_t, isT_n, isT_b, isT_i, isT_s, isT_l, zallR_t, eSs_zall, free_0, free_s, done_nx, drop_m, take_m, rev_m, app_m, rev_t, rev_l, getC_0, getC_s, getC_aj, getC_a, setC_aj, setC_a, app_c, appR_s, pop_c, popR_s, set_c, setR_s, aug_c, augR_s, aug_i, lst_c, mt_o, mtO_s, slot_0, slot_s, frz_o, frzO_c, frzR_s, ix_ti, ix_li, ix_tl, ix_ll, ix_t0, ix_t1, ix_t2, ix_l0, ix_l1, ix_l2, ix_c, ixO_s, cutL_map, cutL_f, cutL_t, cutL_ft, pairsL_map, enumL_map, rng1N, rng2N, tg1, tg2, tg3, tgO1, tgO2, tgO3, tgF1, tgF2, tgF3, tgT2, tgT3, endO_s, endR_c0, endR_cj, endR_u0, endR_uj, sum_g, sset_gl, sset_gt, lset_gl, lset_gt, max_gl, max_gt, min_gl, min_gt, max_2, min_2, eq_nilL, ne_nilL, eq_nilT, ne_nilT, eq_gl, ne_gl, eq_gt, ne_gt, rngVN, rng3D, in_gl, in_gt, nin_gl, nin_gt, in_pl, in_pt, nin_pl, nin_pt, max_pl, max_pt, min_pl, min_pt, eq_pl, ne_pl, eq_pt, ne_pt, eq_pgl, ne_pgl, eq_gpl, ne_gpl, eq_pgt, ne_pgt, eq_gpt, ne_gpt, isn_b, sset_l, sset_t, lset_l, lset_t, all_tt, any_ff, Int.natCast_nonneg, Int.cast_ofNat_Int, Bool.decide_eq_false, List.length_range', List.isEmpty_nil, List.isEmpty_cons, not_true_eq_false, not_false_eq_true, Bool.true_eq_false, eq_self, Int.reduceToNat, Int.reduceSub, Int.reduceAdd, Int.reduceNeg, Int.reduceLT, Int.reduceLE, Int.reduceMul, Nat.reduceSub, Nat.reduceMul, Int.reduceEq, Int.reduceNe, KH.TI, KH.LI, List.take_zero, List.take_nil, defI, and_true, true_and, and_false, false_and, and_self, List.set_cons_zero, List.set_cons_succ, List.length_cons, List.length_nil, List.length_map, List.length_append, List.length_range, List.cons_append, List.nil_append, List.append_assoc, Nat.zero_add, Int.toNat_natCast, reduceIte, Bool.not_true, Bool.not_false, Bool.false_eq_true, decide_true, decide_false, Bool.true_and, Bool.and_true, Bool.false_and, Bool.and_false, Bool.true_or, Bool.false_or, Bool.or_true, Bool.or_false, Bool.decide_eq_true, decide_eq_true_eq, decide_eq_false_iff_not, decide_not, Bool.not_eq_true', Nat.reduceLeDiff, Nat.reduceAdd, Bool.not_not, Option.toList, tcons, List.take_succ_cons, List.map_id_fun', id_eq, List.map_id', List.isEmpty_map, pop, x1, x2, q, t2, t, srt_t, ap]
    · have t2 : ¬ minL (cntL c A n) = 1 := fun e => t (y2.mpr e)
      have hg := gap_at (y1.mpr q) t
      have ix : ∀ cs, idxD (.list ((cntL c A n).map .int)) [.int 0] cs = .ok (.int (gap c A n : Nat)) cs := fun cs => idx_l cs hg.2.2
      have ap2 : st.map (nodD c A) ++ A.map (fun a => nodD c A (kid c (gap c A n) n a)) = (st ++ A.map (kid c (gap c A n) n)).map (nodD c A) := by simp
      have e0 := fg0 k c A n (gap c A n) h (some (found.map tupI)) cs (.list []) (cellD (cs.length + 1)) (st.map (nodD c A)) (by rw [List.length_map]; omega) A (fun a ha => ha) hl (Nat.le_trans (hits_len h.h).2 h.c1)
      rw [ap2] at e0
      simp -implicitDefEqProofs (disch := (first | assumption | omega | (simp -implicitDefEqProofs only [all_tt, wd_non, wd_bl, wd_int, wd_str, wd_lst, wd_tup, List.all_map, List.all_cons, List.all_nil, List.all_append, Bool.and_true, Bool.and_self, Function.comp_def, List.length_map, List.length_append, List.length_cons, List.length_nil, List.length_range, List.all_eq_true, implies_true, lay_int, lays_ints, lays_nil, lays_cons, List.length_zip, List.length_drop, List.length_take, List.length_range', List.length_reverse, wd_int]; done) | (simp -implicitDefEqProofs only [all_tt, wd_non, wd_bl, wd_int, wd_str, wd_lst, wd_tup, List.all_map, List.all_cons, List.all_nil, List.all_append, Bool.and_true, Bool.and_self, Function.comp_def, List.length_map, List.length_append, List.length_cons, List.length_nil, List.length_range, List.all_eq_true, implies_true, lay_int, lays_ints, lays_nil, lays_cons, List.length_zip, List.length_drop, List.length_take, List.length_range', List.length_reverse, wd_int]; omega))) only [bd_ok, bd_exc, bd_stuck, bd_ite, ret_ok, stk_st, fetch_0, fetch_s, fetchC_0, fetchC_s, tst_bl, eE_var, eE_nev, eE_int, eE_bl, eE_non, eE_str, eE_con, boxR_f, boxR_tw, boxR_e, boxR_ite, eE_disp, eE_tup, eE_bin, eE_neg, eE_not, eE_and, eE_or, eE_one, eE_cmp, eE_chn, eE_ife, eE_call, eE_blt, eE_isi, eE_ix, intPart_i, eE_sl, eE_comp, eE_comp2, comp2L_fl, flR_comp, setTgL_nm, quietL_ok, eE_lrg1, eE_lrg2, eE_rep, eE_lsc, eE_app, eE_pop, eE_popAt, eE_idx, eE_sset, eE_lset, eE_rev, eEs_nil, eEs_cons, eI_seq, eI_rng1, eI_rng2, eI_rng3, eI_zip, eI_enm, seqR_nx, seqR_rt, seqR_exc, seqR_ite, eSs_nil, eSs_cons, eSs_frz, eSs_clr, eS_never, eS_set, eS_setT, eS_par, eS_setI, eS_aug, eS_drop, eS_doc, eS_pass, eS_retN, eS_raise, eS_ret, eS_iff, eS_forS, eS_wh, quiet_ok, quiet_ite, compL_none, compL_some, mapR_comp, mapR_ok, mapR_nil, mapR_cons, fltR_nil, fltR_cons, fltR_comp, fltR_ok, endR_nx, endR_exc, endR_keep, endR_rt, endR_int, endR_bl, endR_non, endR_ite, take_app, List.take_length, f_lt, f_gt, f_le, f_ge, eqv_int, eqv_strs, f_eqi, f_nei, f_is, f_isn, f_isb, isNon_n, isNon_b, isNon_i, isNon_s, isNon_l, isNon_t, not_b, neg_i, add_i, sub_i, len_t, len_l, abs_i, int_i, int_b, tup_t, tup_l, lst_t, lst_l, str_s, sum_l, all_l, any_l, all_nil, lit_l, lit_t, zip_l, zip_t, enm_l, cut_t, cut_l, lstOf_l, mtR_l, isi_n, isi_b, isi_i, isi_s, isi_l, isi_t, eqv_lints, eqv_tints, forL_nil, h_hole, h_var, h_int, h_bl, h_non, h_str, h_con, h_tup, h_disp, h_bin, h_neg, h_not, h_and, h_or, h_one, h_cmp, h_chn, h_ife, h_call, h_blt, h_isi, h_ix, h_sl, wipe_nil, wipe_cons, setAll_nil, setAll_cons, bool_and, bool_or, fitI_i, fitI_n, fitI_b, fitI_s, fitI_l, fitI_t, isT_t, isT_n, isT_b, isT_i, isT_s, isT_l, zallR_t, eSs_zall, free_0, free_s, done_nx, drop_m, take_m, rev_m, app_m, rev_t, rev_l, getC_0, getC_s, getC_aj, getC_a, setC_aj, setC_a, app_c, appR_s, pop_c, popR_s, set_c, setR_s, aug_c, augR_s, aug_i, lst_c, mt_o, mtO_s, slot_0, slot_s, frz_o, frzO_c, frzR_s, ix_ti, ix_li, ix_tl, ix_ll, ix_t0, ix_t1, ix_t2, ix_l0, ix_l1, ix_l2, ix_c, ixO_s, cutL_map, cutL_f, cutL_t, cutL_ft, pairsL_map, enumL_map, rng1N, rng2N, tg1, tg2, tg3, tgO1, tgO2, tgO3, tgF1, tgF2, tgF3, tgT2, tgT3, endO_s, endR_c0, endR_cj, endR_u0, endR_uj, sum_g, sset_gl, sset_gt, lset_gl, lset_gt, max_gl, max_gt, min_gl, min_gt, max_2, min_2, eq_nilL, ne_nilL, eq_nilT, ne_nilT, eq_gl, ne_gl, eq_gt, ne_gt, rngVN, rng3D, in_gl, in_gt, nin_gl, nin_gt, in_pl, in_pt, nin_pl, nin_pt, max_pl, max_pt, min_pl, min_pt, eq_pl, ne_pl, eq_pt, ne_pt, eq_pgl, ne_pgl, eq_gpl, ne_gpl, eq_pgt, ne_pgt, eq_gpt, ne_gpt, isn_b, sset_l, sset_t, lset_l, lset_t, all_tt, any_ff, Int.natCast_nonneg, Int.cast_ofNat_Int, Bool.decide_eq_false, List.length_range', List.isEmpty_nil, List.isEmpty_cons, not_true_eq_false, not_false_eq_true, Bool.true_eq_false, eq_self, Int.reduceToNat, Int.reduceSub, Int.reduceAdd, Int.reduceNeg, Int.reduceLT, Int.reduceLE, Int.reduceMul, Nat.reduceSub, Nat.reduceMul, Int.reduceEq, Int.reduceNe, KH.TI, KH.LI, List.take_zero, List.take_nil, defI, and_true, true_and, and_false, false_and, and_self, List.set_cons_zero, List.set_cons_succ, List.length_cons, List.length_nil, List.length_map, List.length_append, List.length_range, List.cons_append, List.nil_append, List.append_assoc, Nat.zero_add, Int.toNat_natCast, reduceIte, Bool.not_true, Bool.not_false, Bool.false_eq_true, decide_true, decide_false, Bool.true_and, Bool.and_true, Bool.false_and, Bool.and_false, Bool.true_or, Bool.false_or, Bool.or_true, Bool.or_false, Bool.decide_eq_true, decide_eq_true_eq, decide_eq_false_iff_not, decide_not, Bool.not_eq_true', Nat.reduceLeDiff, Nat.reduceAdd, Bool.not_not, Option.toList, tcons, List.take_succ_cons, List.map_id_fun', id_eq, List.map_id', List.isEmpty_map, pop, x1, x2, q, q', t2, t, ix, e0]
  · have q2 : ¬ maxL (cntL c A n) = 1 := fun e => q (y1.mpr e)
    have t : ¬ Til c A n := fun t => q (til_noov t)
    simp -implicitDefEqProofs (disch := (first | assumption | omega | (simp -implicitDefEqProofs only [all_tt, wd_non, wd_bl, wd_int, wd_str, wd_lst, wd_tup, List.all_map, List.all_cons, List.all_nil, List.all_append, Bool.and_true, Bool.and_self, Function.comp_def, List.length_map, List.length_append, List.length_cons, List.length_nil, List.length_range, List.all_eq_true, implies_true, lay_int, lays_ints, lays_nil, lays_cons, List.length_zip, List.length_drop, List.length_take, List.length_range', List.length_reverse, wd_int]; done) | (simp -implicitDefEqProofs only [all_tt, wd_non, wd_bl, wd_int, wd_str, wd_lst, wd_tup, List.all_map, List.all_cons, List.all_nil, List.all_append, Bool.and_true, Bool.and_self, Function.comp_def, List.length_map, List.length_append, List.length_cons, List.length_nil, List.length_range, List.all_eq_true, implies_true, lay_int, lays_ints, lays_nil, lays_cons, List.length_zip, List.length_drop, List.length_take, List.length_range', List.length_reverse, wd_int]; omega))) only [bd_ok, bd_exc, bd_stuck, bd_ite, ret_ok, stk_st, fetch_0, fetch_s, fetchC_0, fetchC_s, tst_bl, eE_var, eE_nev, eE_int, eE_bl, eE_non, eE_str, eE_con, boxR_f, boxR_tw, boxR_e, boxR_ite, eE_disp, eE_tup, eE_bin, eE_neg, eE_not, eE_and, eE_or, eE_one, eE_cmp, eE_chn, eE_ife, eE_call, eE_blt, eE_isi, eE_ix, intPart_i, eE_sl, eE_comp, eE_comp2, comp2L_fl, flR_comp, setTgL_nm, quietL_ok, eE_lrg1, eE_lrg2, eE_rep, eE_lsc, eE_app, eE_pop, eE_popAt, eE_idx, eE_sset, eE_lset, eE_rev, eEs_nil, eEs_cons, eI_seq, eI_rng1, eI_rng2, eI_rng3, eI_zip, eI_enm, seqR_nx, seqR_rt, seqR_exc, seqR_ite, eSs_nil, eSs_cons, eSs_frz, eSs_clr, eS_never, eS_set, eS_setT, eS_par, eS_setI, eS_aug, eS_drop, eS_doc, eS_pass, eS_retN, eS_raise, eS_ret, eS_iff, eS_forS, eS_wh, quiet_ok, quiet_ite, compL_none, compL_some, mapR_comp, mapR_ok, mapR_nil, mapR_cons, fltR_nil, fltR_cons, fltR_comp, fltR_ok, endR_nx, endR_exc, endR_keep, endR_rt, endR_int, endR_bl, endR_non, endR_ite, take_app, List.take_length, f_lt, f_gt, f_le, f_ge, eqv_int, eqv_strs, f_eqi, f_nei, f_is, f_isn, f_isb, isNon_n, isNon_b, isNon_i, isNon_s, isNon_l, isNon_t, not_b, neg_i, add_i, sub_i, len_t, len_l, abs_i, int_i, int_b, tup_t, tup_l, lst_t, lst_l, str_s, sum_l, all_l, any_l, all_nil, lit_l, lit_t, zip_l, zip_t, enm_l, cut_t, cut_l, lstOf_l, mtR_l, isi_n, isi_b, isi_i, isi_s, isi_l, isi_t, eqv_lints, eqv_tints, forL_nil, h_hole, h_var, h_int, h_bl, h_non, h_str, h_con, h_tup, h_disp, h_bin, h_neg, h_not, h_and, h_or, h_one, h_cmp, h_chn, h_ife, h_call, h_blt, h_isi, h_ix, h_sl, wipe_nil, wipe_cons, setAll_nil, setAll_cons, bool_and, bool_or, fitI_i, fitI_n, fitI_b, fitI_s, fitI_l, fitI_t, isT_t, isT_n, isT_b, isT_i, isT_s, isT_l, zallR_t, eSs_zall, free_0, free_s, done_nx, drop_m, take_m, rev_m, app_m, rev_t, rev_l, getC_0, getC_s, getC_aj, getC_a, setC_aj, setC_a, app_c, appR_s, pop_c, popR_s, set_c, setR_s, aug_c, augR_s, aug_i, lst_c, mt_o, mtO_s, slot_0, slot_s, frz_o, frzO_c, frzR_s, ix_ti, ix_li, ix_tl, ix_ll, ix_t0, ix_t1, ix_t2, ix_l0, ix_l1, ix_l2, ix_c, ixO_s, cutL_map, cutL_f, cutL_t, cutL_ft, pairsL_map, enumL_map, rng1N, rng2N, tg1, tg2, tg3, tgO1, tgO2, tgO3, tgF1, tgF2, tgF3, tgT2, tgT3, endO_s, endR_c0, endR_cj, endR_u0, endR_uj, sum_g, sset_gl, sset_gt, lset_gl, lset_gt, max_gl, max_gt, min_gl, min_gt, max_2, min_2, eq_nilL, ne_nilL, eq_nilT, ne_nilT, eq_gl, ne_gl, eq_gt, ne_gt, rngVN, rng3D, in_gl, in_gt, nin_gl, nin_gt, in_pl, in_pt, nin_pl, nin_pt, max_pl, max_pt, min_pl, min_pt, eq_pl, ne_pl, eq_pt, ne_pt, eq_pgl, ne_pgl, eq_gpl, ne_gpl, eq_pgt, ne_pgt, eq_gpt, ne_gpt, isn_b, sset_l, sset_t, lset_l, lset_t, all_tt, any_ff, Int.natCast_nonneg, Int.cast_ofNat_Int, Bool.decide_eq_false, List.length_range', List.isEmpty_nil, List.isEmpty_cons, not_true_eq_false, not_false_eq_true, Bool.true_eq_false, eq_self, Int.reduceToNat, Int.reduceSub, Int.reduceAdd, Int.reduceNeg, Int.reduceLT, Int.reduceLE, Int.reduceMul, Nat.reduceSub, Nat.reduceMul, Int.reduceEq, Int.reduceNe, KH.TI, KH.LI, List.take_zero, List.take_nil, defI, and_true, true_and, and_false, false_and, and_self, List.set_cons_zero, List.set_cons_succ, List.length_cons, List.length_nil, List.length_map, List.length_append, List.length_range, List.cons_append, List.nil_append, List.append_assoc, Nat.zero_add, Int.toNat_natCast, reduceIte, Bool.not_true, Bool.not_false, Bool.false_eq_true, decide_true, decide_false, Bool.true_and, Bool.and_true, Bool.false_and, Bool.and_false, Bool.true_or, Bool.false_or, Bool.or_true, Bool.or_false, Bool.decide_eq_true, decide_eq_true_eq, decide_eq_false_iff_not, decide_not, Bool.not_eq_true', Nat.reduceLeDiff, Nat.reduceAdd, Bool.not_not, Option.toList, tcons, List.take_succ_cons, List.map_id_fun', id_eq, List.map_id', List.isEmpty_map, pop, x1, x2, q, q2, t]

end KP

namespace KP
open PySem PySem.Spec PyProof.Rows L2 KH
theorem wh_one (k : Nat) (c : Nat) (A n : List Int) (h : HitsT c A) (cs : CS) (st found : List (List Int)) (hn : n ≠ []) (hs : st.length ≤ 10000) (hf : found.length ≤ 10000) (hl : n.length ≤ 1000) (f : Nat) :
    whL (whC (k + 1)) (whB (k + 1)) (1 + f) (whE c A cs.length) (whS c A cs (st ++ [n]) found) = whL (whC (k + 1)) (whB (k + 1)) f (whE c A cs.length) (if Til c A n then whS c A cs st (found ++ [sortI n]) else if NoOv c A n then whS c A cs (st ++ A.map (kid c (gap c A n) n)) found else whS c A cs st found) := by
  rw [show 1 + f = f + 1 from Nat.add_comm .., wh_step, wh_c, bd_ok, show (!(st ++ [n]).isEmpty) = true by cases st <;> rfl]
  show seqR (whB (k + 1) (whE c A cs.length) (whS c A cs (st ++ [n]) found)) _ = _
  rw [wh_b k c A n h cs st found hn hs hf hl, seqR_nx]
theorem kid_ne (c g : Nat) (n : List Int) (a : Int) : kid c g n a ≠ [] := by unfold kid; simp
theorem kid_len (c g : Nat) (n : List Int) (a : Int) : (kid c g n a).length = n.length + 1 := by unfold kid; simp
theorem go_all (k : Nat) (c : Nat) (A : List Int) (h : HitsT c A) (cs : CS) : ∀ (r : Nat) (n : List Int) (st found : List (List Int)) (f : Nat), n ≠ [] → n.length + r ≤ 1000 → st.length + 24 * r ≤ 9000 → found.length + (lv c A r n).length ≤ 9000 → c < (n.length + r) * A.length →
    whL (whC (k + 1)) (whB (k + 1)) (sz c A r n + f) (whE c A cs.length) (whS c A cs (st ++ [n]) found) = whL (whC (k + 1)) (whB (k + 1)) f (whE c A cs.length) (whS c A cs st (found ++ lv c A r n))
  | 0, n, st, found, f, hn, h1, h2, h3, h4 => by
    have q : ¬ NoOv c A n := fun q => by
      have := (noov_len h.h h.c0 q).1
      rw [Nat.add_zero] at h4
      omega
    have t : ¬ Til c A n := fun t => q (til_noov t)
    unfold lv sz
    rw [wh_one k c A n h cs st found hn (by omega) (by omega) (by omega), if_neg t, if_neg q, List.append_nil]
  | r + 1, n, st, found, f, hn, h1, h2, h3, h4 => by
    by_cases t : Til c A n
    · unfold lv sz
      rw [if_pos t, if_pos t, wh_one k c A n h cs st found hn (by omega) (by omega) (by omega), if_pos t]
    · by_cases q : NoOv c A n
      · have ha := (hits_len h.h).2
        have hc := h.c1
        have e : ∀ N : List Int, (∀ a ∈ N, a ∈ A) → N.length ≤ 24 → ∀ (found : List (List Int)), found.length + (N.flatMap fun a => lv c A r (kid c (gap c A n) n a)).length ≤ 9000 →
            whL (whC (k + 1)) (whB (k + 1)) ((N.map fun a => sz c A r (kid c (gap c A n) n a)).sum + f) (whE c A cs.length) (whS c A cs (st ++ N.reverse.map (kid c (gap c A n) n)) found) =
              whL (whC (k + 1)) (whB (k + 1)) f (whE c A cs.length) (whS c A cs st (found ++ N.flatMap fun a => lv c A r (kid c (gap c A n) n a))) := by
          intro N
          induction N with
          | nil => intro _ _ found _; simp
          | cons a N ih =>
            intro hN hl found hf
            rw [List.flatMap_cons, List.length_append] at hf
            rw [List.length_cons] at hl
            rw [List.map_cons, List.sum_cons, List.reverse_cons, List.map_append, List.map_cons, List.map_nil, ← List.append_assoc, Nat.add_assoc,
              go_all k c A h cs r (kid c (gap c A n) n a) (st ++ N.reverse.map (kid c (gap c A n) n)) found _ (kid_ne c _ n a) (by rw [kid_len]; omega) (by rw [List.length_append, List.length_map, List.length_reverse]; omega) (by omega) (by rw [kid_len, show n.length + 1 + r = n.length + (r + 1) by omega]; exact h4),
              ih (fun x hx => hN x (List.mem_cons_of_mem _ hx)) (by omega) _ (by rw [List.length_append]; omega), List.flatMap_cons, List.append_assoc]
        have lvu : lv c A (r + 1) n = A.reverse.flatMap fun a => lv c A r (kid c (gap c A n) n a) := by
          rw [lv, if_neg t, if_pos q]
        have szu : sz c A (r + 1) n = 1 + (A.reverse.map fun a => sz c A r (kid c (gap c A n) n a)).sum := by
          rw [sz, if_neg t, if_pos q, List.map_reverse, List.sum_reverse]
        rw [lvu] at h3 ⊢
        have := e A.reverse (fun a ha => List.mem_reverse.mp ha) (by rw [List.length_reverse]; omega) found h3
        rw [List.reverse_reverse] at this
        rw [szu, Nat.add_assoc, wh_one k c A n h cs st found hn (by omega) (by omega) (by omega), if_neg t, if_pos q, this]
      · unfold lv sz
        rw [if_neg t, if_neg t, if_neg q, if_neg q, wh_one k c A n h cs st found hn (by omega) (by omega) (by omega), if_neg t, if_neg q, List.append_nil]

end KP

/-! k81: how many there are; the law's own search. -/
namespace KP
open KH
def W (k : Nat) : Nat → Nat
  | 0 => 1
  | r + 1 => 1 + k * W k r
theorem W_pos (k : Nat) : ∀ r, 1 ≤ W k r
  | 0 => Nat.le_refl _
  | r + 1 => Nat.le_add_right ..
theorem sum_le {α : Type} (f : α → Nat) (w : Nat) : ∀ l : List α, (∀ x ∈ l, f x ≤ w) → (l.map f).sum ≤ l.length * w
  | [], _ => by simp
  | x :: l, h => by
    rw [List.map_cons, List.sum_cons, List.length_cons, Nat.succ_mul]
    have := h x List.mem_cons_self
    have := sum_le f w l fun y hy => h y (List.mem_cons_of_mem _ hy)
    omega
theorem sz_le (c : Nat) (A : List Int) : ∀ (r : Nat) (n : List Int), sz c A r n ≤ W A.length r
  | 0, _ => Nat.le_refl _
  | r + 1, n => by
    unfold sz W
    split
    · exact Nat.le_add_right ..
    · split
      · have := sum_le (fun a => sz c A r (kid c (gap c A n) n a)) (W A.length r) A fun a _ => sz_le c A r _
        omega
      · exact Nat.le_add_right ..
theorem lv_le (c : Nat) (A : List Int) (h : A ≠ []) : ∀ (r : Nat) (n : List Int), (lv c A (r + 1) n).length ≤ A.length ^ r
  | 0, n => by
    unfold lv
    split
    · simp
    · split
      · rw [show (A.reverse.flatMap fun a => lv c A 0 (kid c (gap c A n) n a)) = [] by
          induction A.reverse with
          | nil => rfl
          | cons x l ih => rw [List.flatMap_cons, ih]; rfl]
        simp
      · simp
  | r + 1, n => by
    have hp := List.length_pos_iff.mpr h
    unfold lv
    split
    · exact Nat.pow_pos hp
    · split
      · have := fm_len (fun a => lv c A (r + 1) (kid c (gap c A n) n a)) (A.length ^ r) A.reverse fun a _ => lv_le c A h r _
        rw [List.length_reverse] at this
        rw [Nat.pow_succ, Nat.mul_comm]
        exact this
      · simp
theorem small_ok : ∀ c < 13, ∀ k < 13, 0 < k → k ≤ c → W k (c / k) ≤ 900 ∧ k ^ (c / k - 1) < 64 := by decide +kernel
/-! the law's search -/
def LFs (c : Nat) (A : List Int) : Nat → List (List Int)
  | 0 => [[0]]
  | s + 1 => (LFs c A s).flatMap fun own => ((List.range' ((own.getLastD 0) + 1).toNat (c - ((own.getLastD 0) + 1).toNat)).filter fun (t : Nat) => decide (maxL (cntL c A (own ++ [(t : Int)])) = 1)).map fun (t : Nat) => own ++ [(t : Int)]
structure Own (c : Nat) (A : List Int) (s : Nat) (B : List Int) : Prop where
  len : B.length = s + 1
  lt : B.Pairwise (· < ·)
  bd : ∀ x ∈ B, 0 ≤ x ∧ x < c
  z : (0 : Int) ∈ B
  no : NoOv c A B
theorem noov_one (c : Nat) (A : List Int) (b : Int) : NoOv c A [b] := fun t _ => by
  unfold cnt
  exact Nat.le_trans List.countP_le_length (by simp)
theorem lt_snoc (l : List Int) (t : Int) : (l ++ [t]).Pairwise (· < ·) ↔ l.Pairwise (· < ·) ∧ ∀ x ∈ l, x < t := by
  rw [List.pairwise_append]
  simp
theorem last_lt {l : List Int} (h : l.Pairwise (· < ·)) (hn : l ≠ []) (t : Int) : (∀ x ∈ l, x < t) ↔ l.getLastD 0 < t := by
  obtain ⟨m, z, rfl⟩ : ∃ m z, l = m ++ [z] := ⟨l.dropLast, l.getLast hn, (List.dropLast_concat_getLast hn).symm⟩
  have e : (m ++ [z]).getLastD 0 = z := by simp
  rw [e]
  obtain ⟨h1, h2⟩ := (lt_snoc m z).mp h
  constructor
  · intro q
    exact q z (by simp)
  · intro q x hx
    rcases List.mem_append.mp hx with hx | hx
    · have := h2 x hx; omega
    · rw [List.mem_singleton.mp hx]; exact q
theorem lfs_mem {c : Nat} {A : List Int} (h : Hits c A) (hc : 0 < c) : ∀ (s : Nat) (B : List Int), B ∈ LFs c A s ↔ Own c A s B
  | 0, B => by
    show B ∈ [[0]] ↔ _
    rw [List.mem_singleton]
    constructor
    · rintro rfl
      exact ⟨rfl, by simp, fun x hx => by rw [List.mem_singleton.mp hx]; omega, by simp, noov_one c A 0⟩
    · intro o
      match B, o.len, o.z with
      | [x], _, hz => rw [List.mem_singleton.mp hz]
  | s + 1, B => by
    rw [LFs, List.mem_flatMap]
    constructor
    · rintro ⟨own, ho, hB⟩
      have o := (lfs_mem h hc s own).mp ho
      have hn : own ≠ [] := fun e => by have := o.len; rw [e] at this; simp at this
      obtain ⟨t, ht, rfl⟩ := List.mem_map.mp hB
      obtain ⟨h1, h2⟩ := List.mem_filter.mp ht
      rw [List.mem_range'_1] at h1
      rw [decide_eq_true_iff, ← max_noov h hc (by simp)] at h2
      have hl : own.getLastD 0 < (t : Int) := by omega
      refine ⟨by simp [o.len], (lt_snoc own t).mpr ⟨o.lt, (last_lt o.lt hn t).mpr hl⟩, fun x hx => ?_, by simp [o.z], h2⟩
      rcases List.mem_append.mp hx with hx | hx
      · exact o.bd x hx
      · rw [List.mem_singleton.mp hx]; omega
    · intro o
      have hn : B ≠ [] := fun e => by have := o.len; rw [e] at this; simp at this
      obtain ⟨own, t, rfl⟩ : ∃ m z, B = m ++ [z] := ⟨B.dropLast, B.getLast hn, (List.dropLast_concat_getLast hn).symm⟩
      have hl : own.length = s + 1 := by have := o.len; simp at this; exact this
      have hon : own ≠ [] := fun e => by rw [e] at hl; simp at hl
      obtain ⟨l1, l2⟩ := (lt_snoc own t).mp o.lt
      have bt := o.bd t (by simp)
      have bo : ∀ x ∈ own, 0 ≤ x ∧ x < c := fun x hx => o.bd x (by simp [hx])
      have z : (0 : Int) ∈ own := by
        rcases List.mem_append.mp o.z with hz | hz
        · exact hz
        · have e := List.mem_singleton.mp hz
          obtain ⟨y, hy⟩ := List.exists_mem_of_ne_nil own hon
          have := l2 y hy
          have := bo y hy
          omega
      refine ⟨own, (lfs_mem h hc s own).mpr ⟨hl, l1, bo, z, fun u hu => ?_⟩, List.mem_map.mpr ⟨t.toNat, List.mem_filter.mpr ⟨?_, ?_⟩, by rw [Int.toNat_of_nonneg bt.1]⟩⟩
      · have := o.no u hu
        rw [cnt_app] at this
        omega
      · rw [List.mem_range'_1]
        have := (last_lt l1 hon t).mp l2
        omega
      · rw [Int.toNat_of_nonneg bt.1, decide_eq_true_iff, ← max_noov h hc (by simp)]
        exact o.no
end KP
namespace KP
open KH
/-- what the law finds -/
def LF (c : Nat) (A : List Int) : List (List Int) := if c / A.length * A.length = c then LFs c A (c / A.length - 1) else []
theorem lf_mem {c : Nat} {A : List Int} (h : Hits c A) (hc : 0 < c) (B : List Int) : B ∈ LF c A ↔ TilS c A B ∧ (0 : Int) ∈ B := by
  have hp := List.length_pos_iff.mpr h.one
  unfold LF
  by_cases e : c / A.length * A.length = c
  · rw [if_pos e, lfs_mem h hc]
    have m1 : 1 ≤ c / A.length := by
      rcases Nat.eq_zero_or_pos (c / A.length) with q | q
      · rw [q] at e; omega
      · exact q
    constructor
    · intro o
      refine ⟨⟨o.lt, o.bd, ?_⟩, o.z⟩
      refine (noov_len h hc o.no).2 ?_
      rw [o.len, show c / A.length - 1 + 1 = c / A.length by omega]
      exact e
    · rintro ⟨t, z⟩
      refine ⟨?_, t.lt, t.bd, z, til_noov t.til⟩
      have := til_len h hc t.til
      have : B.length = c / A.length := Nat.eq_of_mul_eq_mul_right hp (this.trans e.symm)
      omega
  · rw [if_neg e]
    refine ⟨fun q => (List.not_mem_nil q).elim, fun ⟨t, _⟩ => absurd ?_ e⟩
    have := til_len h hc t.til
    rw [← this, Nat.mul_div_cancel _ hp]
theorem cdT_snoc (l : List Int) (t : Int) : cdT (l ++ [t]) = cdT l * 1000 + t := by
  induction l with
  | nil => show TS.code 1000 [t] = TS.code 1000 [] * 1000 + t; unfold TS.code; unfold TS.code; simp
  | cons a l ih =>
    have e1 : ∀ z : List Int, cdT (a :: z) = a * 1000 ^ z.length + cdT z := fun z => by unfold cdT; rw [TS.code]
    rw [List.cons_append, e1, e1, ih, List.length_append, List.length_singleton, Int.pow_succ]
    rw [Int.add_mul, Int.mul_assoc]
    omega
theorem lfs_lt {c : Nat} {A : List Int} (h : Hits c A) (hc : 0 < c) (hc2 : c ≤ 900) : ∀ s : Nat, (LFs c A s).Pairwise fun p q => cdT p < cdT q
  | 0 => by show [[0]].Pairwise _; simp
  | s + 1 => by
    rw [LFs, List.pairwise_flatMap]
    constructor
    · intro own _
      rw [List.pairwise_map]
      refine List.Pairwise.filter _ ((List.pairwise_lt_range').imp fun {a b} hab => ?_)
      rw [cdT_snoc, cdT_snoc]
      omega
    · refine (lfs_lt h hc hc2 s).imp fun {p q} hpq => ?_
      intro x hx y hy
      obtain ⟨t, ht, rfl⟩ := List.mem_map.mp hx
      obtain ⟨u, hu, rfl⟩ := List.mem_map.mp hy
      have h1 := List.mem_range'_1.mp (List.mem_filter.mp ht).1
      have h2 := List.mem_range'_1.mp (List.mem_filter.mp hu).1
      rw [cdT_snoc, cdT_snoc]
      omega
theorem lf_lt {c : Nat} {A : List Int} (h : Hits c A) (hc : 0 < c) (hc2 : c ≤ 900) : (LF c A).Pairwise fun p q => cdT p < cdT q := by
  unfold LF
  split
  · exact lfs_lt h hc hc2 _
  · exact .nil
/-- the program's own list, sorted and each once, is the law's -/
theorem lv_lf {c : Nat} {A : List Int} (h : Hits c A) (hc : 0 < c) (hc2 : c ≤ 12) : ssetT (lv c A (c / A.length) [0]) = LF c A ∧ (lv c A (c / A.length) [0]).length < 64 ∧ sz c A (c / A.length) [0] ≤ 900 ∧ (∀ B ∈ lv c A (c / A.length) [0], B.length * A.length = c ∧ ∀ x ∈ B, 0 ≤ x ∧ x < c) := by
  have hp := List.length_pos_iff.mpr h.one
  have hl : A.length ≤ c := by
    have := nodup_le (n := A) (B := (List.range c).map fun (i : Nat) => (i : Int)) (h.lt.imp fun h => by omega) fun x hx => by
      have := h.bd x hx
      exact List.mem_map.mpr ⟨x.toNat, List.mem_range.mpr (by omega), by omega⟩
    simpa using this
  obtain ⟨s1, s2⟩ := small_ok c (by omega) A.length (by omega) hp hl
  have m1 : 1 ≤ c / A.length := Nat.div_pos hl hp
  have big : c < (([0] : List Int).length + c / A.length) * A.length := by
    have := Nat.lt_div_mul_add hp (a := c)
    rw [show ([0] : List Int).length = 1 from rfl, Nat.add_mul, Nat.one_mul]
    omega
  have mem : ∀ B, B ∈ lv c A (c / A.length) [0] ↔ TilS c A B ∧ (0 : Int) ∈ B := fun B => by
    rw [lv_mem h hc B _ [0] ⟨by simp, fun x hx => by rw [List.mem_singleton.mp hx]; omega⟩ big (.inl m1)]
    simp
  have fit : ∀ B ∈ lv c A (c / A.length) [0], FitT (c / A.length) B := fun B hB => by
    have t := ((mem B).mp hB).1
    have e := til_len h hc t.til
    refine ⟨?_, fun m hm => by have := t.bd m hm; omega⟩
    rw [← e, Nat.mul_div_cancel _ hp]
  refine ⟨risesT (ssetT_lt fit) (lf_lt h hc (by omega)) fun z => ?_, ?_, ?_, fun B hB => ?_⟩
  · rw [ssetT_mem, mem, lf_mem h hc]
  · have := lv_le c A h.one (c / A.length - 1) [0]
    rw [show c / A.length - 1 + 1 = c / A.length by omega] at this
    omega
  · exact Nat.le_trans (sz_le c A _ _) s1
  · have t := ((mem B).mp hB).1
    exact ⟨til_len h hc t.til, t.bd⟩
end KP

/-! k81: periods. -/
namespace KP
open KH
def trn (c : Nat) (A : List Int) (t : Int) : List Int := sortI (A.map fun a => (a + t) % (c : Int))
def pl (c : Nat) (A : List Int) : List Nat := (List.range' 1 c).filter fun (t : Nat) => decide (trn c A (t : Int) = A)
def per (c : Nat) (A : List Int) : Nat := (pl c A).headD 0
theorem pl_mem {c : Nat} {A : List Int} (h : Hits c A) (hc : 0 < c) : c ∈ pl c A := by
  unfold pl
  rw [List.mem_filter, List.mem_range'_1, decide_eq_true_iff]
  refine ⟨by omega, ?_⟩
  unfold trn
  have : (A.map fun a => (a + (c : Int)) % (c : Int)) = A := by
    conv => rhs; rw [← List.map_id A]
    refine List.map_congr_left fun a ha => ?_
    have := h.bd a ha
    rw [Int.add_emod_right, Int.emod_eq_of_lt this.1 this.2]
    rfl
  rw [this, sortI_id h.lt]
theorem pl_cons {c : Nat} {A : List Int} (h : Hits c A) (hc : 0 < c) : ∃ l, pl c A = per c A :: l ∧ (∀ x ∈ l, per c A < x) ∧ 1 ≤ per c A ∧ per c A ≤ c := by
  have hm := pl_mem h hc
  have pw : (pl c A).Pairwise (· < ·) := (List.pairwise_lt_range' ..).filter _
  have bd : ∀ x ∈ pl c A, 1 ≤ x ∧ x ≤ c := fun x hx => by
    have := List.mem_range'_1.mp (List.mem_filter.mp hx).1
    omega
  unfold per
  cases e : pl c A with
  | nil => rw [e] at hm; cases hm
  | cons x l =>
    rw [e] at pw bd
    exact ⟨l, rfl, (List.pairwise_cons.mp pw).1, bd x List.mem_cons_self⟩
theorem per_min {c : Nat} {A : List Int} (h : Hits c A) (hc : 0 < c) : minL ((pl c A).map fun (t : Nat) => (t : Int)) = (per c A : Nat) := by
  obtain ⟨l, e, h1, -⟩ := pl_cons h hc
  rw [e, List.map_cons]
  refine minL_eq List.mem_cons_self fun x hx => ?_
  rcases List.mem_cons.mp hx with rfl | hx
  · exact Int.le_refl _
  · obtain ⟨y, hy, rfl⟩ := List.mem_map.mp hx
    have := h1 y hy
    omega
/-- the greatest common one, found by trying -/
theorem gcd_max {c a b : Nat} (ha : 1 ≤ a) (ha2 : a ≤ c) (hb : 1 ≤ b) : maxL (((List.range' 1 c).filter fun w => decide (a % w = 0) && decide (b % w = 0)).map fun (t : Nat) => (t : Int)) = (Nat.gcd a b : Nat) := by
  have d1 := Nat.gcd_dvd_left a b
  have d2 := Nat.gcd_dvd_right a b
  have p := Nat.gcd_pos_of_pos_left b (show 0 < a by omega)
  have le := Nat.le_of_dvd (by omega) d1
  refine maxL_eq (List.mem_map.mpr ⟨Nat.gcd a b, List.mem_filter.mpr ⟨List.mem_range'_1.mpr (by omega), ?_⟩, rfl⟩) fun x hx => ?_
  · simp [Nat.mod_eq_zero_of_dvd d1, Nat.mod_eq_zero_of_dvd d2]
  · obtain ⟨y, hy, rfl⟩ := List.mem_map.mp hx
    have := (List.mem_filter.mp hy).2
    rw [Bool.and_eq_true, decide_eq_true_iff, decide_eq_true_iff] at this
    have := Nat.le_of_dvd p (Nat.dvd_gcd (Nat.dvd_of_mod_eq_zero this.1) (Nat.dvd_of_mod_eq_zero this.2))
    omega
end KP

namespace KP
open PySem PySem.Spec PyProof.Rows L2 KH
theorem tupsOf_map : ∀ l : List (List Int), tupsOf (l.map tupI) = some l
  | [] => rfl
  | x :: l => by
    show (match intsOf (x.map PyData.int), tupsOf (l.map tupI) with | some ns, some l => some (ns :: l) | _, _ => none) = _
    rw [intsOf_map, tupsOf_map l]
theorem sset_tups (l : List (List Int)) (h : l = [] ∨ fitsT l = true) (cs : CS) : ssetD [.list (l.map tupI)] cs = .ok (.list ((ssetT l).map tupI)) cs := by
  cases l with
  | nil => exact sset_l cs [] (by simp)
  | cons x l =>
    rcases h with h | h
    · cases h
    · have e : (seqOf (.list ((x :: l).map tupI)) cs).bind intsOf = none := rfl
      have e2 : (lstOf (.list ((x :: l).map tupI)) cs).bind tupsOf = some (x :: l) := tupsOf_map (x :: l)
      unfold ssetD
      simp only [e, e2]
      unfold ssetTD
      rw [if_pos h]
theorem fii (k : Nat) (c : Nat) (A : List Int) (h : HitsT c A) (hc : c ≤ 12) (cs : CS) : run prg (k + 3) 9 [.int (c : Int), TI A] cs = .ok (.list ((LF c A).map tupI)) cs := by
  obtain ⟨p1, p2, p3, p4⟩ := lv_lf h.h h.c0 hc
  have hp := List.length_pos_iff.mpr h.h.one
  have hl := (hits_len h.h).2
  have big : c < (([0] : List Int).length + c / A.length) * A.length := by
    have := Nat.lt_div_mul_add hp (a := c)
    rw [show ([0] : List Int).length = 1 from rfl, Nat.add_mul, Nat.one_mul]
    omega
  have r12 : c / A.length ≤ 12 := Nat.le_trans (Nat.div_le_self _ _) hc
  obtain ⟨f, hf⟩ : ∃ f, 1000 = sz c A (c / A.length) [0] + (f + 1) := ⟨999 - sz c A (c / A.length) [0], by omega⟩
  have g := go_all (k + 1) c A h cs (c / A.length) [0] [] [] (f + 1) (by simp) (by simp; omega) (by simp; omega) (by simp; omega) big
  have z : whL (whC (k + 2)) (whB (k + 2)) (f + 1) (whE c A cs.length) (whS c A cs [] ([] ++ lv c A (c / A.length) [0])) = .ok (.nx (whE c A cs.length)) (whS c A cs [] (lv c A (c / A.length) [0])) := by
    rw [wh_step, wh_c, bd_ok, List.nil_append]
    rfl
  have g : whL (whC (k + 2)) (whB (k + 2)) 1000 (whE c A cs.length) (whS c A cs [[0]] []) = .ok (.nx (whE c A cs.length)) (whS c A cs [] (lv c A (c / A.length) [0])) := by
    rw [← hf] at g
    exact g.trans z
  have e0 : ∀ cs, run prg (k + 2) 8 [.int (c : Int), TI A, .tuple [.int 0]] cs = .ok (.list ((cntL c A [0]).map .int)) cs := fun cs => fin (k + 1) c A [0] h.h h.c0 h.c1 cs
  have fit : lv c A (c / A.length) [0] = [] ∨ fitsT (lv c A (c / A.length) [0]) = true := by
    generalize lv c A (c / A.length) [0] = L at *
    cases L with
    | nil => exact .inl rfl
    | cons x l =>
      refine .inr ?_
      have len : ∀ B ∈ x :: l, B.length = x.length := fun B hB => Nat.eq_of_mul_eq_mul_right hp ((p4 B hB).1.trans (p4 x List.mem_cons_self).1.symm)
      have pos : 1 ≤ x.length := by
        have := (p4 x List.mem_cons_self).1
        rcases Nat.eq_zero_or_pos x.length with q | q
        · rw [q] at this; have := h.c0; omega
        · exact q
      unfold fitsT
      have al : ((x :: l).all fun B => decide (B.length = ((x :: l).headD []).length) && decide (1 ≤ B.length) && B.all fun m => decide (0 ≤ m) && decide (m < 1000)) = true := by
        rw [List.all_eq_true]
        intro B hB
        have a3 : (B.all fun m => decide (0 ≤ m) && decide (m < 1000)) = true := by
          rw [List.all_eq_true]
          intro m hm
          have := (p4 B hB).2 m hm
          rw [Bool.and_eq_true, decide_eq_true_iff, decide_eq_true_iff]
          omega
        rw [a3, Bool.and_true, Bool.and_eq_true, decide_eq_true_iff, decide_eq_true_iff]
        exact ⟨len B hB, by rw [len B hB]; exact pos⟩
      rw [al, Bool.and_true, List.isEmpty_cons, Bool.not_false, Bool.true_and, decide_eq_true_iff]
      exact p2
  have ss := sset_tups _ fit
  rw [p1] at ss
  have wf : ((lv c A (c / A.length) [0]).map tupI).all (wdN 8) = true := by simp
  unfold whC whB whE whS at g
  rw [show [[(0 : Int)]].map (nodD c A) = [.tuple [.tuple [.int 0], .list ((cntL c A [0]).map .int)]] from rfl, show ([] : List (List Int)).map tupI = [] from rfl, show ([] : List (List Int)).map (nodD c A) = [] from rfl] at g
  rw [r_fillings_in]
  unfold b9
  simp -implicitDefEqProofs (disch := (first | assumption | omega | (simp -implicitDefEqProofs only [all_tt, wd_non, wd_bl, wd_int, wd_str, wd_lst, wd_tup, List.all_map, List.all_cons, List.all_nil, List.all_append, Bool.and_true, Bool.and_self, Function.comp_def, List.length_map, List.length_append, List.length_cons, List.length_nil, List.length_range, List.all_eq_true, implies_true, lay_int, lays_ints, lays_nil, lays_cons, List.length_zip, List.length_drop, List.length_take, List.length_range', List.length_reverse, wd_int]; done) | (simp -implicitDefEqProofs only [all_tt, wd_non, wd_bl, wd_int, wd_str, wd_lst, wd_tup, List.all_map, List.all_cons, List.all_nil, List.all_append, Bool.and_true, Bool.and_self, Function.comp_def, List.length_map, List.length_append, List.length_cons, List.length_nil, List.length_range, List.all_eq_true, implies_true, lay_int, lays_ints, lays_nil, lays_cons, List.length_zip, List.length_drop, List.length_take, List.length_range', List.length_reverse, wd_int]; omega))) only [bd_ok, bd_exc, bd_stuck, bd_ite, ret_ok, stk_st, fetch_0, fetch_s, fetchC_0, fetchC_s, tst_bl, eE_var, eE_nev, eE_int, eE_bl, eE_non, eE_str, eE_con, boxR_f, boxR_tw, boxR_e, boxR_ite, eE_disp, eE_tup, eE_bin, eE_neg, eE_not, eE_and, eE_or, eE_one, eE_cmp, eE_chn, eE_ife, eE_call, eE_blt, eE_isi, eE_ix, intPart_i, eE_sl, eE_comp, eE_comp2, comp2L_fl, flR_comp, setTgL_nm, quietL_ok, eE_lrg1, eE_lrg2, eE_rep, eE_lsc, eE_app, eE_pop, eE_popAt, eE_idx, eE_sset, eE_lset, eE_rev, eEs_nil, eEs_cons, eI_seq, eI_rng1, eI_rng2, eI_rng3, eI_zip, eI_enm, seqR_nx, seqR_rt, seqR_exc, seqR_ite, eSs_nil, eSs_cons, eSs_frz, eSs_clr, eS_never, eS_set, eS_setT, eS_par, eS_setI, eS_aug, eS_drop, eS_doc, eS_pass, eS_retN, eS_raise, eS_ret, eS_iff, eS_forS, eS_wh, quiet_ok, quiet_ite, compL_none, compL_some, mapR_comp, mapR_ok, mapR_nil, mapR_cons, fltR_nil, fltR_cons, fltR_comp, fltR_ok, endR_nx, endR_exc, endR_keep, endR_rt, endR_int, endR_bl, endR_non, endR_ite, take_app, List.take_length, f_lt, f_gt, f_le, f_ge, eqv_int, eqv_strs, f_eqi, f_nei, f_is, f_isn, f_isb, isNon_n, isNon_b, isNon_i, isNon_s, isNon_l, isNon_t, not_b, neg_i, add_i, sub_i, len_t, len_l, abs_i, int_i, int_b, tup_t, tup_l, lst_t, lst_l, str_s, sum_l, all_l, any_l, all_nil, lit_l, lit_t, zip_l, zip_t, enm_l, cut_t, cut_l, lstOf_l, mtR_l, isi_n, isi_b, isi_i, isi_s, isi_l, isi_t, eqv_lints, eqv_tints, forL_nil, h_hole, h_var, h_int, h_bl, h_non, h_str, h_con, h_tup, h_disp, h_bin, h_neg, h_not, h_and, h_or, h_one, h_cmp, h_chn, h_ife, h_call, h_blt, h_isi, h_ix, h_sl, wipe_nil, wipe_cons, setAll_nil, setAll_cons, bool_and, bool_or, fitI_i, fitI_n, fitI_b, fitI_s, fitI_l, fitI_t, isT_t, isT_n, isT_b, isT_i, isT_s, isT_l, zallR_t, eSs_zall, free_0, free_s, done_nx, drop_m, take_m, rev_m, app_m, rev_t, rev_l, getC_0, getC_s, getC_aj, getC_a, setC_aj, setC_a, app_c, appR_s, pop_c, popR_s, set_c, setR_s, aug_c, augR_s, aug_i, lst_c, mt_o, mtO_s, slot_0, slot_s, frz_o, frzO_c, frzR_s, ix_ti, ix_li, ix_tl, ix_ll, ix_t0, ix_t1, ix_t2, ix_l0, ix_l1, ix_l2, ix_c, ixO_s, cutL_map, cutL_f, cutL_t, cutL_ft, pairsL_map, enumL_map, rng1N, rng2N, tg1, tg2, tg3, tgO1, tgO2, tgO3, tgF1, tgF2, tgF3, tgT2, tgT3, endO_s, endR_c0, endR_cj, endR_u0, endR_uj, sum_g, sset_gl, sset_gt, lset_gl, lset_gt, max_gl, max_gt, min_gl, min_gt, max_2, min_2, eq_nilL, ne_nilL, eq_nilT, ne_nilT, eq_gl, ne_gl, eq_gt, ne_gt, rngVN, rng3D, in_gl, in_gt, nin_gl, nin_gt, in_pl, in_pt, nin_pl, nin_pt, max_pl, max_pt, min_pl, min_pt, eq_pl, ne_pl, eq_pt, ne_pt, eq_pgl, ne_pgl, eq_gpl, ne_gpl, eq_pgt, ne_pgt, eq_gpt, ne_gpt, isn_b, sset_l, sset_t, lset_l, lset_t, all_tt, any_ff, Int.natCast_nonneg, Int.cast_ofNat_Int, Bool.decide_eq_false, List.length_range', List.isEmpty_nil, List.isEmpty_cons, not_true_eq_false, not_false_eq_true, Bool.true_eq_false, eq_self, Int.reduceToNat, Int.reduceSub, Int.reduceAdd, Int.reduceNeg, Int.reduceLT, Int.reduceLE, Int.reduceMul, Nat.reduceSub, Nat.reduceMul, Int.reduceEq, Int.reduceNe, KH.TI, KH.LI, List.take_zero, List.take_nil, defI, and_true, true_and, and_false, false_and, and_self, List.set_cons_zero, List.set_cons_succ, List.length_cons, List.length_nil, List.length_map, List.length_append, List.length_range, List.cons_append, List.nil_append, List.append_assoc, Nat.zero_add, Int.toNat_natCast, reduceIte, Bool.not_true, Bool.not_false, Bool.false_eq_true, decide_true, decide_false, Bool.true_and, Bool.and_true, Bool.false_and, Bool.and_false, Bool.true_or, Bool.false_or, Bool.or_true, Bool.or_false, Bool.decide_eq_true, decide_eq_true_eq, decide_eq_false_iff_not, decide_not, Bool.not_eq_true', Nat.reduceLeDiff, Nat.reduceAdd, Bool.not_not, Option.toList, tcons, List.take_succ_cons, List.map_id_fun', id_eq, List.map_id', List.isEmpty_map, e0, g, ss]

end KP

namespace KP
open PySem PySem.Spec PyProof.Rows L2 KH
theorem fio (k : Nat) (c : Nat) (A : List Int) (h : HitsT c A) (hc : c ≤ 12) (cs : CS) : run prg (k + 5) 12 [.int (c : Int), TI A] cs = .ok (.tuple ((LF c A).map tupI)) cs := by
  have e := fun cs => fii (k + 1) c A h hc cs
  rw [r_fillings_of]
  unfold b12
  simp -implicitDefEqProofs (disch := (first | assumption | omega | (simp -implicitDefEqProofs only [all_tt, wd_non, wd_bl, wd_int, wd_str, wd_lst, wd_tup, List.all_map, List.all_cons, List.all_nil, List.all_append, Bool.and_true, Bool.and_self, Function.comp_def, List.length_map, List.length_append, List.length_cons, List.length_nil, List.length_range, List.all_eq_true, implies_true, lay_int, lays_ints, lays_nil, lays_cons, List.length_zip, List.length_drop, List.length_take, List.length_range', List.length_reverse, wd_int]; done) | (simp -implicitDefEqProofs only [all_tt, wd_non, wd_bl, wd_int, wd_str, wd_lst, wd_tup, List.all_map, List.all_cons, List.all_nil, List.all_append, Bool.and_true, Bool.and_self, Function.comp_def, List.length_map, List.length_append, List.length_cons, List.length_nil, List.length_range, List.all_eq_true, implies_true, lay_int, lays_ints, lays_nil, lays_cons, List.length_zip, List.length_drop, List.length_take, List.length_range', List.length_reverse, wd_int]; omega))) only [bd_ok, bd_exc, bd_stuck, bd_ite, ret_ok, stk_st, fetch_0, fetch_s, fetchC_0, fetchC_s, tst_bl, eE_var, eE_nev, eE_int, eE_bl, eE_non, eE_str, eE_con, boxR_f, boxR_tw, boxR_e, boxR_ite, eE_disp, eE_tup, eE_bin, eE_neg, eE_not, eE_and, eE_or, eE_one, eE_cmp, eE_chn, eE_ife, eE_call, eE_blt, eE_isi, eE_ix, intPart_i, eE_sl, eE_comp, eE_comp2, comp2L_fl, flR_comp, setTgL_nm, quietL_ok, eE_lrg1, eE_lrg2, eE_rep, eE_lsc, eE_app, eE_pop, eE_popAt, eE_idx, eE_sset, eE_lset, eE_rev, eEs_nil, eEs_cons, eI_seq, eI_rng1, eI_rng2, eI_rng3, eI_zip, eI_enm, seqR_nx, seqR_rt, seqR_exc, seqR_ite, eSs_nil, eSs_cons, eSs_frz, eSs_clr, eS_never, eS_set, eS_setT, eS_par, eS_setI, eS_aug, eS_drop, eS_doc, eS_pass, eS_retN, eS_raise, eS_ret, eS_iff, eS_forS, eS_wh, quiet_ok, quiet_ite, compL_none, compL_some, mapR_comp, mapR_ok, mapR_nil, mapR_cons, fltR_nil, fltR_cons, fltR_comp, fltR_ok, endR_nx, endR_exc, endR_keep, endR_rt, endR_int, endR_bl, endR_non, endR_ite, take_app, List.take_length, f_lt, f_gt, f_le, f_ge, eqv_int, eqv_strs, f_eqi, f_nei, f_is, f_isn, f_isb, isNon_n, isNon_b, isNon_i, isNon_s, isNon_l, isNon_t, not_b, neg_i, add_i, sub_i, len_t, len_l, abs_i, int_i, int_b, tup_t, tup_l, lst_t, lst_l, str_s, sum_l, all_l, any_l, all_nil, lit_l, lit_t, zip_l, zip_t, enm_l, cut_t, cut_l, lstOf_l, mtR_l, isi_n, isi_b, isi_i, isi_s, isi_l, isi_t, eqv_lints, eqv_tints, forL_nil, h_hole, h_var, h_int, h_bl, h_non, h_str, h_con, h_tup, h_disp, h_bin, h_neg, h_not, h_and, h_or, h_one, h_cmp, h_chn, h_ife, h_call, h_blt, h_isi, h_ix, h_sl, wipe_nil, wipe_cons, setAll_nil, setAll_cons, bool_and, bool_or, fitI_i, fitI_n, fitI_b, fitI_s, fitI_l, fitI_t, isT_t, isT_n, isT_b, isT_i, isT_s, isT_l, zallR_t, eSs_zall, free_0, free_s, done_nx, drop_m, take_m, rev_m, app_m, rev_t, rev_l, getC_0, getC_s, getC_aj, getC_a, setC_aj, setC_a, app_c, appR_s, pop_c, popR_s, set_c, setR_s, aug_c, augR_s, aug_i, lst_c, mt_o, mtO_s, slot_0, slot_s, frz_o, frzO_c, frzR_s, ix_ti, ix_li, ix_tl, ix_ll, ix_t0, ix_t1, ix_t2, ix_l0, ix_l1, ix_l2, ix_c, ixO_s, cutL_map, cutL_f, cutL_t, cutL_ft, pairsL_map, enumL_map, rng1N, rng2N, tg1, tg2, tg3, tgO1, tgO2, tgO3, tgF1, tgF2, tgF3, tgT2, tgT3, endO_s, endR_c0, endR_cj, endR_u0, endR_uj, sum_g, sset_gl, sset_gt, lset_gl, lset_gt, max_gl, max_gt, min_gl, min_gt, max_2, min_2, eq_nilL, ne_nilL, eq_nilT, ne_nilT, eq_gl, ne_gl, eq_gt, ne_gt, rngVN, rng3D, in_gl, in_gt, nin_gl, nin_gt, in_pl, in_pt, nin_pl, nin_pt, max_pl, max_pt, min_pl, min_pt, eq_pl, ne_pl, eq_pt, ne_pt, eq_pgl, ne_pgl, eq_gpl, ne_gpl, eq_pgt, ne_pgt, eq_gpt, ne_gpt, isn_b, sset_l, sset_t, lset_l, lset_t, all_tt, any_ff, Int.natCast_nonneg, Int.cast_ofNat_Int, Bool.decide_eq_false, List.length_range', List.isEmpty_nil, List.isEmpty_cons, not_true_eq_false, not_false_eq_true, Bool.true_eq_false, eq_self, Int.reduceToNat, Int.reduceSub, Int.reduceAdd, Int.reduceNeg, Int.reduceLT, Int.reduceLE, Int.reduceMul, Nat.reduceSub, Nat.reduceMul, Int.reduceEq, Int.reduceNe, KH.TI, KH.LI, List.take_zero, List.take_nil, defI, and_true, true_and, and_false, false_and, and_self, List.set_cons_zero, List.set_cons_succ, List.length_cons, List.length_nil, List.length_map, List.length_append, List.length_range, List.cons_append, List.nil_append, List.append_assoc, Nat.zero_add, Int.toNat_natCast, reduceIte, Bool.not_true, Bool.not_false, Bool.false_eq_true, decide_true, decide_false, Bool.true_and, Bool.and_true, Bool.false_and, Bool.and_false, Bool.true_or, Bool.false_or, Bool.or_true, Bool.or_false, Bool.decide_eq_true, decide_eq_true_eq, decide_eq_false_iff_not, decide_not, Bool.not_eq_true', Nat.reduceLeDiff, Nat.reduceAdd, Bool.not_not, Option.toList, tcons, List.take_succ_cons, List.map_id_fun', id_eq, List.map_id', List.isEmpty_map, nh _ c A h, e]
theorem hco (k : Nat) (c : Nat) (A B : List Int) (gA : HitsT c A) (gB : HitsT c B) (cs : CS) : run prg (k + 5) 13 [.int (c : Int), TI A, TI B] cs = .ok (.tuple ((cntL c A B).map .int)) cs := by
  have e := fun cs => fin (k + 3) c A B gA.h gA.c0 gA.c1 cs
  rw [r_hit_counts]
  unfold b13
  simp -implicitDefEqProofs (disch := (first | assumption | omega | (simp -implicitDefEqProofs only [all_tt, wd_non, wd_bl, wd_int, wd_str, wd_lst, wd_tup, List.all_map, List.all_cons, List.all_nil, List.all_append, Bool.and_true, Bool.and_self, Function.comp_def, List.length_map, List.length_append, List.length_cons, List.length_nil, List.length_range, List.all_eq_true, implies_true, lay_int, lays_ints, lays_nil, lays_cons, List.length_zip, List.length_drop, List.length_take, List.length_range', List.length_reverse, wd_int]; done) | (simp -implicitDefEqProofs only [all_tt, wd_non, wd_bl, wd_int, wd_str, wd_lst, wd_tup, List.all_map, List.all_cons, List.all_nil, List.all_append, Bool.and_true, Bool.and_self, Function.comp_def, List.length_map, List.length_append, List.length_cons, List.length_nil, List.length_range, List.all_eq_true, implies_true, lay_int, lays_ints, lays_nil, lays_cons, List.length_zip, List.length_drop, List.length_take, List.length_range', List.length_reverse, wd_int]; omega))) only [bd_ok, bd_exc, bd_stuck, bd_ite, ret_ok, stk_st, fetch_0, fetch_s, fetchC_0, fetchC_s, tst_bl, eE_var, eE_nev, eE_int, eE_bl, eE_non, eE_str, eE_con, boxR_f, boxR_tw, boxR_e, boxR_ite, eE_disp, eE_tup, eE_bin, eE_neg, eE_not, eE_and, eE_or, eE_one, eE_cmp, eE_chn, eE_ife, eE_call, eE_blt, eE_isi, eE_ix, intPart_i, eE_sl, eE_comp, eE_comp2, comp2L_fl, flR_comp, setTgL_nm, quietL_ok, eE_lrg1, eE_lrg2, eE_rep, eE_lsc, eE_app, eE_pop, eE_popAt, eE_idx, eE_sset, eE_lset, eE_rev, eEs_nil, eEs_cons, eI_seq, eI_rng1, eI_rng2, eI_rng3, eI_zip, eI_enm, seqR_nx, seqR_rt, seqR_exc, seqR_ite, eSs_nil, eSs_cons, eSs_frz, eSs_clr, eS_never, eS_set, eS_setT, eS_par, eS_setI, eS_aug, eS_drop, eS_doc, eS_pass, eS_retN, eS_raise, eS_ret, eS_iff, eS_forS, eS_wh, quiet_ok, quiet_ite, compL_none, compL_some, mapR_comp, mapR_ok, mapR_nil, mapR_cons, fltR_nil, fltR_cons, fltR_comp, fltR_ok, endR_nx, endR_exc, endR_keep, endR_rt, endR_int, endR_bl, endR_non, endR_ite, take_app, List.take_length, f_lt, f_gt, f_le, f_ge, eqv_int, eqv_strs, f_eqi, f_nei, f_is, f_isn, f_isb, isNon_n, isNon_b, isNon_i, isNon_s, isNon_l, isNon_t, not_b, neg_i, add_i, sub_i, len_t, len_l, abs_i, int_i, int_b, tup_t, tup_l, lst_t, lst_l, str_s, sum_l, all_l, any_l, all_nil, lit_l, lit_t, zip_l, zip_t, enm_l, cut_t, cut_l, lstOf_l, mtR_l, isi_n, isi_b, isi_i, isi_s, isi_l, isi_t, eqv_lints, eqv_tints, forL_nil, h_hole, h_var, h_int, h_bl, h_non, h_str, h_con, h_tup, h_disp, h_bin, h_neg, h_not, h_and, h_or, h_one, h_cmp, h_chn, h_ife, h_call, h_blt, h_isi, h_ix, h_sl, wipe_nil, wipe_cons, setAll_nil, setAll_cons, bool_and, bool_or, fitI_i, fitI_n, fitI_b, fitI_s, fitI_l, fitI_t, isT_t, isT_n, isT_b, isT_i, isT_s, isT_l, zallR_t, eSs_zall, free_0, free_s, done_nx, drop_m, take_m, rev_m, app_m, rev_t, rev_l, getC_0, getC_s, getC_aj, getC_a, setC_aj, setC_a, app_c, appR_s, pop_c, popR_s, set_c, setR_s, aug_c, augR_s, aug_i, lst_c, mt_o, mtO_s, slot_0, slot_s, frz_o, frzO_c, frzR_s, ix_ti, ix_li, ix_tl, ix_ll, ix_t0, ix_t1, ix_t2, ix_l0, ix_l1, ix_l2, ix_c, ixO_s, cutL_map, cutL_f, cutL_t, cutL_ft, pairsL_map, enumL_map, rng1N, rng2N, tg1, tg2, tg3, tgO1, tgO2, tgO3, tgF1, tgF2, tgF3, tgT2, tgT3, endO_s, endR_c0, endR_cj, endR_u0, endR_uj, sum_g, sset_gl, sset_gt, lset_gl, lset_gt, max_gl, max_gt, min_gl, min_gt, max_2, min_2, eq_nilL, ne_nilL, eq_nilT, ne_nilT, eq_gl, ne_gl, eq_gt, ne_gt, rngVN, rng3D, in_gl, in_gt, nin_gl, nin_gt, in_pl, in_pt, nin_pl, nin_pt, max_pl, max_pt, min_pl, min_pt, eq_pl, ne_pl, eq_pt, ne_pt, eq_pgl, ne_pgl, eq_gpl, ne_gpl, eq_pgt, ne_pgt, eq_gpt, ne_gpt, isn_b, sset_l, sset_t, lset_l, lset_t, all_tt, any_ff, Int.natCast_nonneg, Int.cast_ofNat_Int, Bool.decide_eq_false, List.length_range', List.isEmpty_nil, List.isEmpty_cons, not_true_eq_false, not_false_eq_true, Bool.true_eq_false, eq_self, Int.reduceToNat, Int.reduceSub, Int.reduceAdd, Int.reduceNeg, Int.reduceLT, Int.reduceLE, Int.reduceMul, Nat.reduceSub, Nat.reduceMul, Int.reduceEq, Int.reduceNe, KH.TI, KH.LI, List.take_zero, List.take_nil, defI, and_true, true_and, and_false, false_and, and_self, List.set_cons_zero, List.set_cons_succ, List.length_cons, List.length_nil, List.length_map, List.length_append, List.length_range, List.cons_append, List.nil_append, List.append_assoc, Nat.zero_add, Int.toNat_natCast, reduceIte, Bool.not_true, Bool.not_false, Bool.false_eq_true, decide_true, decide_false, Bool.true_and, Bool.and_true, Bool.false_and, Bool.and_false, Bool.true_or, Bool.false_or, Bool.or_true, Bool.or_false, Bool.decide_eq_true, decide_eq_true_eq, decide_eq_false_iff_not, decide_not, Bool.not_eq_true', Nat.reduceLeDiff, Nat.reduceAdd, Bool.not_not, Option.toList, tcons, List.take_succ_cons, List.map_id_fun', id_eq, List.map_id', List.isEmpty_map, nh _ c A gA, nh _ c B gB, e]
theorem modR (c : Nat) (hc : 0 < c) (f : Int → Int) (A : List Int) (cs : CS) : mapR (fun (a : Int) c2 => quiet (Bop.mod.fn (.int (f a)) (.int (c : Int)) c2)) A cs = .ok ((A.map fun a => f a % (c : Int)).map .int) cs := by
  rw [List.map_map]
  refine mapR_in _ fun a _ => ?_
  rw [mod_i cs _ _ (by omega)]
  rfl
theorem tho (k : Nat) (c : Nat) (A : List Int) (h : HitsT c A) (t : Int) (h0 : -96 ≤ t) (h1 : t ≤ 96) (cs : CS) : run prg (k + 5) 14 [.int (c : Int), TI A, .int t] cs = .ok (TI (trn c A t)) cs := by
  have m := modR c h.c0 (fun a => a + t) A
  rw [r_turned_hits]
  unfold b14 trn
  simp -implicitDefEqProofs (disch := (first | assumption | omega | (simp -implicitDefEqProofs only [all_tt, wd_non, wd_bl, wd_int, wd_str, wd_lst, wd_tup, List.all_map, List.all_cons, List.all_nil, List.all_append, Bool.and_true, Bool.and_self, Function.comp_def, List.length_map, List.length_append, List.length_cons, List.length_nil, List.length_range, List.all_eq_true, implies_true, lay_int, lays_ints, lays_nil, lays_cons, List.length_zip, List.length_drop, List.length_take, List.length_range', List.length_reverse, wd_int]; done) | (simp -implicitDefEqProofs only [all_tt, wd_non, wd_bl, wd_int, wd_str, wd_lst, wd_tup, List.all_map, List.all_cons, List.all_nil, List.all_append, Bool.and_true, Bool.and_self, Function.comp_def, List.length_map, List.length_append, List.length_cons, List.length_nil, List.length_range, List.all_eq_true, implies_true, lay_int, lays_ints, lays_nil, lays_cons, List.length_zip, List.length_drop, List.length_take, List.length_range', List.length_reverse, wd_int]; omega))) only [bd_ok, bd_exc, bd_stuck, bd_ite, ret_ok, stk_st, fetch_0, fetch_s, fetchC_0, fetchC_s, tst_bl, eE_var, eE_nev, eE_int, eE_bl, eE_non, eE_str, eE_con, boxR_f, boxR_tw, boxR_e, boxR_ite, eE_disp, eE_tup, eE_bin, eE_neg, eE_not, eE_and, eE_or, eE_one, eE_cmp, eE_chn, eE_ife, eE_call, eE_blt, eE_isi, eE_ix, intPart_i, eE_sl, eE_comp, eE_comp2, comp2L_fl, flR_comp, setTgL_nm, quietL_ok, eE_lrg1, eE_lrg2, eE_rep, eE_lsc, eE_app, eE_pop, eE_popAt, eE_idx, eE_sset, eE_lset, eE_rev, eEs_nil, eEs_cons, eI_seq, eI_rng1, eI_rng2, eI_rng3, eI_zip, eI_enm, seqR_nx, seqR_rt, seqR_exc, seqR_ite, eSs_nil, eSs_cons, eSs_frz, eSs_clr, eS_never, eS_set, eS_setT, eS_par, eS_setI, eS_aug, eS_drop, eS_doc, eS_pass, eS_retN, eS_raise, eS_ret, eS_iff, eS_forS, eS_wh, quiet_ok, quiet_ite, compL_none, compL_some, mapR_comp, mapR_ok, mapR_nil, mapR_cons, fltR_nil, fltR_cons, fltR_comp, fltR_ok, endR_nx, endR_exc, endR_keep, endR_rt, endR_int, endR_bl, endR_non, endR_ite, take_app, List.take_length, f_lt, f_gt, f_le, f_ge, eqv_int, eqv_strs, f_eqi, f_nei, f_is, f_isn, f_isb, isNon_n, isNon_b, isNon_i, isNon_s, isNon_l, isNon_t, not_b, neg_i, add_i, sub_i, len_t, len_l, abs_i, int_i, int_b, tup_t, tup_l, lst_t, lst_l, str_s, sum_l, all_l, any_l, all_nil, lit_l, lit_t, zip_l, zip_t, enm_l, cut_t, cut_l, lstOf_l, mtR_l, isi_n, isi_b, isi_i, isi_s, isi_l, isi_t, eqv_lints, eqv_tints, forL_nil, h_hole, h_var, h_int, h_bl, h_non, h_str, h_con, h_tup, h_disp, h_bin, h_neg, h_not, h_and, h_or, h_one, h_cmp, h_chn, h_ife, h_call, h_blt, h_isi, h_ix, h_sl, wipe_nil, wipe_cons, setAll_nil, setAll_cons, bool_and, bool_or, fitI_i, fitI_n, fitI_b, fitI_s, fitI_l, fitI_t, isT_t, isT_n, isT_b, isT_i, isT_s, isT_l, zallR_t, eSs_zall, free_0, free_s, done_nx, drop_m, take_m, rev_m, app_m, rev_t, rev_l, getC_0, getC_s, getC_aj, getC_a, setC_aj, setC_a, app_c, appR_s, pop_c, popR_s, set_c, setR_s, aug_c, augR_s, aug_i, lst_c, mt_o, mtO_s, slot_0, slot_s, frz_o, frzO_c, frzR_s, ix_ti, ix_li, ix_tl, ix_ll, ix_t0, ix_t1, ix_t2, ix_l0, ix_l1, ix_l2, ix_c, ixO_s, cutL_map, cutL_f, cutL_t, cutL_ft, pairsL_map, enumL_map, rng1N, rng2N, tg1, tg2, tg3, tgO1, tgO2, tgO3, tgF1, tgF2, tgF3, tgT2, tgT3, endO_s, endR_c0, endR_cj, endR_u0, endR_uj, sum_g, sset_gl, sset_gt, lset_gl, lset_gt, max_gl, max_gt, min_gl, min_gt, max_2, min_2, eq_nilL, ne_nilL, eq_nilT, ne_nilT, eq_gl, ne_gl, eq_gt, ne_gt, rngVN, rng3D, in_gl, in_gt, nin_gl, nin_gt, in_pl, in_pt, nin_pl, nin_pt, max_pl, max_pt, min_pl, min_pt, eq_pl, ne_pl, eq_pt, ne_pt, eq_pgl, ne_pgl, eq_gpl, ne_gpl, eq_pgt, ne_pgt, eq_gpt, ne_gpt, isn_b, sset_l, sset_t, lset_l, lset_t, all_tt, any_ff, Int.natCast_nonneg, Int.cast_ofNat_Int, Bool.decide_eq_false, List.length_range', List.isEmpty_nil, List.isEmpty_cons, not_true_eq_false, not_false_eq_true, Bool.true_eq_false, eq_self, Int.reduceToNat, Int.reduceSub, Int.reduceAdd, Int.reduceNeg, Int.reduceLT, Int.reduceLE, Int.reduceMul, Nat.reduceSub, Nat.reduceMul, Int.reduceEq, Int.reduceNe, KH.TI, KH.LI, List.take_zero, List.take_nil, defI, and_true, true_and, and_false, false_and, and_self, List.set_cons_zero, List.set_cons_succ, List.length_cons, List.length_nil, List.length_map, List.length_append, List.length_range, List.cons_append, List.nil_append, List.append_assoc, Nat.zero_add, Int.toNat_natCast, reduceIte, Bool.not_true, Bool.not_false, Bool.false_eq_true, decide_true, decide_false, Bool.true_and, Bool.and_true, Bool.false_and, Bool.and_false, Bool.true_or, Bool.false_or, Bool.or_true, Bool.or_false, Bool.decide_eq_true, decide_eq_true_eq, decide_eq_false_iff_not, decide_not, Bool.not_eq_true', Nat.reduceLeDiff, Nat.reduceAdd, Bool.not_not, Option.toList, tcons, List.take_succ_cons, List.map_id_fun', id_eq, List.map_id', List.isEmpty_map, nh _ c A h, nn, m, srt_l]
/-- times a number -/
def tms (c : Nat) (A : List Int) (t : Int) : List Int := ssetL (A.map fun a => (a * t) % (c : Int))
theorem tmo (k : Nat) (c : Nat) (A : List Int) (h : HitsT c A) (t : Int) (h0 : 0 ≤ t) (h1 : t ≤ 96) (cs : CS) : run prg (k + 5) 15 [.int (c : Int), TI A, .int t] cs = .ok (if (tms c A t).length = A.length then TI (tms c A t) else .none) cs := by
  have hc := h.c0
  have hc1 := h.c1
  have m : ∀ cs, mapR (fun (a : Int) c2 => quiet ((Bop.mul.fn (.int a) (.int t) c2).bd fun x c3 => Bop.mod.fn x (.int (c : Int)) c3)) A cs = .ok ((A.map fun a => (a * t) % (c : Int)).map .int) cs := fun cs => by
    rw [List.map_map]
    refine mapR_in _ fun a ha => ?_
    have := h.h.bd a ha
    rw [mul_r _ _ _ (by omega) (by omega), bd_ok, mod_i _ _ _ (by omega)]
    rfl
  have hl := Nat.le_trans (hits_len h.h).2 h.c1
  have l64 : (A.map fun a => (a * t) % (c : Int)).length < 64 := by rw [List.length_map]; omega
  have sl := fun cs => sset_l cs (A.map fun a => (a * t) % (c : Int)) l64
  rw [r_times_hits]
  unfold b15 tms
  generalize (A.map fun a => (a * t) % (c : Int)) = M at *
  by_cases q : (ssetL M).length = A.length
  · simp -implicitDefEqProofs (disch := (first | assumption | omega | (simp -implicitDefEqProofs only [all_tt, wd_non, wd_bl, wd_int, wd_str, wd_lst, wd_tup, List.all_map, List.all_cons, List.all_nil, List.all_append, Bool.and_true, Bool.and_self, Function.comp_def, List.length_map, List.length_append, List.length_cons, List.length_nil, List.length_range, List.all_eq_true, implies_true, lay_int, lays_ints, lays_nil, lays_cons, List.length_zip, List.length_drop, List.length_take, List.length_range', List.length_reverse, wd_int]; done) | (simp -implicitDefEqProofs only [all_tt, wd_non, wd_bl, wd_int, wd_str, wd_lst, wd_tup, List.all_map, List.all_cons, List.all_nil, List.all_append, Bool.and_true, Bool.and_self, Function.comp_def, List.length_map, List.length_append, List.length_cons, List.length_nil, List.length_range, List.all_eq_true, implies_true, lay_int, lays_ints, lays_nil, lays_cons, List.length_zip, List.length_drop, List.length_take, List.length_range', List.length_reverse, wd_int]; omega))) only [bd_ok, bd_exc, bd_stuck, bd_ite, ret_ok, stk_st, fetch_0, fetch_s, fetchC_0, fetchC_s, tst_bl, eE_var, eE_nev, eE_int, eE_bl, eE_non, eE_str, eE_con, boxR_f, boxR_tw, boxR_e, boxR_ite, eE_disp, eE_tup, eE_bin, eE_neg, eE_not, eE_and, eE_or, eE_one, eE_cmp, eE_chn, eE_ife, eE_call, eE_blt, eE_isi, eE_ix, intPart_i, eE_sl, eE_comp, eE_comp2, comp2L_fl, flR_comp, setTgL_nm, quietL_ok, eE_lrg1, eE_lrg2, eE_rep, eE_lsc, eE_app, eE_pop, eE_popAt, eE_idx, eE_sset, eE_lset, eE_rev, eEs_nil, eEs_cons, eI_seq, eI_rng1, eI_rng2, eI_rng3, eI_zip, eI_enm, seqR_nx, seqR_rt, seqR_exc, seqR_ite, eSs_nil, eSs_cons, eSs_frz, eSs_clr, eS_never, eS_set, eS_setT, eS_par, eS_setI, eS_aug, eS_drop, eS_doc, eS_pass, eS_retN, eS_raise, eS_ret, eS_iff, eS_forS, eS_wh, quiet_ok, quiet_ite, compL_none, compL_some, mapR_comp, mapR_ok, mapR_nil, mapR_cons, fltR_nil, fltR_cons, fltR_comp, fltR_ok, endR_nx, endR_exc, endR_keep, endR_rt, endR_int, endR_bl, endR_non, endR_ite, take_app, List.take_length, f_lt, f_gt, f_le, f_ge, eqv_int, eqv_strs, f_eqi, f_nei, f_is, f_isn, f_isb, isNon_n, isNon_b, isNon_i, isNon_s, isNon_l, isNon_t, not_b, neg_i, add_i, sub_i, len_t, len_l, abs_i, int_i, int_b, tup_t, tup_l, lst_t, lst_l, str_s, sum_l, all_l, any_l, all_nil, lit_l, lit_t, zip_l, zip_t, enm_l, cut_t, cut_l, lstOf_l, mtR_l, isi_n, isi_b, isi_i, isi_s, isi_l, isi_t, eqv_lints, eqv_tints, forL_nil, h_hole, h_var, h_int, h_bl, h_non, h_str, h_con, h_tup, h_disp, h_bin, h_neg, h_not, h_and, h_or, h_one, h_cmp, h_chn, h_ife, h_call, h_blt, h_isi, h_ix, h_sl, wipe_nil, wipe_cons, setAll_nil, setAll_cons, bool_and, bool_or, fitI_i, fitI_n, fitI_b, fitI_s, fitI_l, fitI_t, isT_t, isT_n, isT_b, isT_i, isT_s, isT_l, zallR_t, eSs_zall, free_0, free_s, done_nx, drop_m, take_m, rev_m, app_m, rev_t, rev_l, getC_0, getC_s, getC_aj, getC_a, setC_aj, setC_a, app_c, appR_s, pop_c, popR_s, set_c, setR_s, aug_c, augR_s, aug_i, lst_c, mt_o, mtO_s, slot_0, slot_s, frz_o, frzO_c, frzR_s, ix_ti, ix_li, ix_tl, ix_ll, ix_t0, ix_t1, ix_t2, ix_l0, ix_l1, ix_l2, ix_c, ixO_s, cutL_map, cutL_f, cutL_t, cutL_ft, pairsL_map, enumL_map, rng1N, rng2N, tg1, tg2, tg3, tgO1, tgO2, tgO3, tgF1, tgF2, tgF3, tgT2, tgT3, endO_s, endR_c0, endR_cj, endR_u0, endR_uj, sum_g, sset_gl, sset_gt, lset_gl, lset_gt, max_gl, max_gt, min_gl, min_gt, max_2, min_2, eq_nilL, ne_nilL, eq_nilT, ne_nilT, eq_gl, ne_gl, eq_gt, ne_gt, rngVN, rng3D, in_gl, in_gt, nin_gl, nin_gt, in_pl, in_pt, nin_pl, nin_pt, max_pl, max_pt, min_pl, min_pt, eq_pl, ne_pl, eq_pt, ne_pt, eq_pgl, ne_pgl, eq_gpl, ne_gpl, eq_pgt, ne_pgt, eq_gpt, ne_gpt, isn_b, sset_l, sset_t, lset_l, lset_t, all_tt, any_ff, Int.natCast_nonneg, Int.cast_ofNat_Int, Bool.decide_eq_false, List.length_range', List.isEmpty_nil, List.isEmpty_cons, not_true_eq_false, not_false_eq_true, Bool.true_eq_false, eq_self, Int.reduceToNat, Int.reduceSub, Int.reduceAdd, Int.reduceNeg, Int.reduceLT, Int.reduceLE, Int.reduceMul, Nat.reduceSub, Nat.reduceMul, Int.reduceEq, Int.reduceNe, KH.TI, KH.LI, List.take_zero, List.take_nil, defI, and_true, true_and, and_false, false_and, and_self, List.set_cons_zero, List.set_cons_succ, List.length_cons, List.length_nil, List.length_map, List.length_append, List.length_range, List.cons_append, List.nil_append, List.append_assoc, Nat.zero_add, Int.toNat_natCast, reduceIte, Bool.not_true, Bool.not_false, Bool.false_eq_true, decide_true, decide_false, Bool.true_and, Bool.and_true, Bool.false_and, Bool.and_false, Bool.true_or, Bool.false_or, Bool.or_true, Bool.or_false, Bool.decide_eq_true, decide_eq_true_eq, decide_eq_false_iff_not, decide_not, Bool.not_eq_true', Nat.reduceLeDiff, Nat.reduceAdd, Bool.not_not, Option.toList, tcons, List.take_succ_cons, List.map_id_fun', id_eq, List.map_id', List.isEmpty_map, nh _ c A h, nn, m, sl, q]
  · have q2 : ¬ ((ssetL M).length : Int) = (A.length : Int) := by omega
    simp -implicitDefEqProofs (disch := (first | assumption | omega | (simp -implicitDefEqProofs only [all_tt, wd_non, wd_bl, wd_int, wd_str, wd_lst, wd_tup, List.all_map, List.all_cons, List.all_nil, List.all_append, Bool.and_true, Bool.and_self, Function.comp_def, List.length_map, List.length_append, List.length_cons, List.length_nil, List.length_range, List.all_eq_true, implies_true, lay_int, lays_ints, lays_nil, lays_cons, List.length_zip, List.length_drop, List.length_take, List.length_range', List.length_reverse, wd_int]; done) | (simp -implicitDefEqProofs only [all_tt, wd_non, wd_bl, wd_int, wd_str, wd_lst, wd_tup, List.all_map, List.all_cons, List.all_nil, List.all_append, Bool.and_true, Bool.and_self, Function.comp_def, List.length_map, List.length_append, List.length_cons, List.length_nil, List.length_range, List.all_eq_true, implies_true, lay_int, lays_ints, lays_nil, lays_cons, List.length_zip, List.length_drop, List.length_take, List.length_range', List.length_reverse, wd_int]; omega))) only [bd_ok, bd_exc, bd_stuck, bd_ite, ret_ok, stk_st, fetch_0, fetch_s, fetchC_0, fetchC_s, tst_bl, eE_var, eE_nev, eE_int, eE_bl, eE_non, eE_str, eE_con, boxR_f, boxR_tw, boxR_e, boxR_ite, eE_disp, eE_tup, eE_bin, eE_neg, eE_not, eE_and, eE_or, eE_one, eE_cmp, eE_chn, eE_ife, eE_call, eE_blt, eE_isi, eE_ix, intPart_i, eE_sl, eE_comp, eE_comp2, comp2L_fl, flR_comp, setTgL_nm, quietL_ok, eE_lrg1, eE_lrg2, eE_rep, eE_lsc, eE_app, eE_pop, eE_popAt, eE_idx, eE_sset, eE_lset, eE_rev, eEs_nil, eEs_cons, eI_seq, eI_rng1, eI_rng2, eI_rng3, eI_zip, eI_enm, seqR_nx, seqR_rt, seqR_exc, seqR_ite, eSs_nil, eSs_cons, eSs_frz, eSs_clr, eS_never, eS_set, eS_setT, eS_par, eS_setI, eS_aug, eS_drop, eS_doc, eS_pass, eS_retN, eS_raise, eS_ret, eS_iff, eS_forS, eS_wh, quiet_ok, quiet_ite, compL_none, compL_some, mapR_comp, mapR_ok, mapR_nil, mapR_cons, fltR_nil, fltR_cons, fltR_comp, fltR_ok, endR_nx, endR_exc, endR_keep, endR_rt, endR_int, endR_bl, endR_non, endR_ite, take_app, List.take_length, f_lt, f_gt, f_le, f_ge, eqv_int, eqv_strs, f_eqi, f_nei, f_is, f_isn, f_isb, isNon_n, isNon_b, isNon_i, isNon_s, isNon_l, isNon_t, not_b, neg_i, add_i, sub_i, len_t, len_l, abs_i, int_i, int_b, tup_t, tup_l, lst_t, lst_l, str_s, sum_l, all_l, any_l, all_nil, lit_l, lit_t, zip_l, zip_t, enm_l, cut_t, cut_l, lstOf_l, mtR_l, isi_n, isi_b, isi_i, isi_s, isi_l, isi_t, eqv_lints, eqv_tints, forL_nil, h_hole, h_var, h_int, h_bl, h_non, h_str, h_con, h_tup, h_disp, h_bin, h_neg, h_not, h_and, h_or, h_one, h_cmp, h_chn, h_ife, h_call, h_blt, h_isi, h_ix, h_sl, wipe_nil, wipe_cons, setAll_nil, setAll_cons, bool_and, bool_or, fitI_i, fitI_n, fitI_b, fitI_s, fitI_l, fitI_t, isT_t, isT_n, isT_b, isT_i, isT_s, isT_l, zallR_t, eSs_zall, free_0, free_s, done_nx, drop_m, take_m, rev_m, app_m, rev_t, rev_l, getC_0, getC_s, getC_aj, getC_a, setC_aj, setC_a, app_c, appR_s, pop_c, popR_s, set_c, setR_s, aug_c, augR_s, aug_i, lst_c, mt_o, mtO_s, slot_0, slot_s, frz_o, frzO_c, frzR_s, ix_ti, ix_li, ix_tl, ix_ll, ix_t0, ix_t1, ix_t2, ix_l0, ix_l1, ix_l2, ix_c, ixO_s, cutL_map, cutL_f, cutL_t, cutL_ft, pairsL_map, enumL_map, rng1N, rng2N, tg1, tg2, tg3, tgO1, tgO2, tgO3, tgF1, tgF2, tgF3, tgT2, tgT3, endO_s, endR_c0, endR_cj, endR_u0, endR_uj, sum_g, sset_gl, sset_gt, lset_gl, lset_gt, max_gl, max_gt, min_gl, min_gt, max_2, min_2, eq_nilL, ne_nilL, eq_nilT, ne_nilT, eq_gl, ne_gl, eq_gt, ne_gt, rngVN, rng3D, in_gl, in_gt, nin_gl, nin_gt, in_pl, in_pt, nin_pl, nin_pt, max_pl, max_pt, min_pl, min_pt, eq_pl, ne_pl, eq_pt, ne_pt, eq_pgl, ne_pgl, eq_gpl, ne_gpl, eq_pgt, ne_pgt, eq_gpt, ne_gpt, isn_b, sset_l, sset_t, lset_l, lset_t, all_tt, any_ff, Int.natCast_nonneg, Int.cast_ofNat_Int, Bool.decide_eq_false, List.length_range', List.isEmpty_nil, List.isEmpty_cons, not_true_eq_false, not_false_eq_true, Bool.true_eq_false, eq_self, Int.reduceToNat, Int.reduceSub, Int.reduceAdd, Int.reduceNeg, Int.reduceLT, Int.reduceLE, Int.reduceMul, Nat.reduceSub, Nat.reduceMul, Int.reduceEq, Int.reduceNe, KH.TI, KH.LI, List.take_zero, List.take_nil, defI, and_true, true_and, and_false, false_and, and_self, List.set_cons_zero, List.set_cons_succ, List.length_cons, List.length_nil, List.length_map, List.length_append, List.length_range, List.cons_append, List.nil_append, List.append_assoc, Nat.zero_add, Int.toNat_natCast, reduceIte, Bool.not_true, Bool.not_false, Bool.false_eq_true, decide_true, decide_false, Bool.true_and, Bool.and_true, Bool.false_and, Bool.and_false, Bool.true_or, Bool.false_or, Bool.or_true, Bool.or_false, Bool.decide_eq_true, decide_eq_true_eq, decide_eq_false_iff_not, decide_not, Bool.not_eq_true', Nat.reduceLeDiff, Nat.reduceAdd, Bool.not_not, Option.toList, tcons, List.take_succ_cons, List.map_id_fun', id_eq, List.map_id', List.isEmpty_map, nh _ c A h, nn, m, sl, q, q2]
theorem eho (k : Nat) (c m : Nat) (h0 : 1 ≤ m) (h1 : m ≤ c) (hc : c ≤ 24) (cs : CS) : run prg (k + 4) 17 [.int (c : Int), .int (m : Int)] cs = .ok (.tuple ((List.range m).map fun (i : Nat) => .int ((c : Int) * (i : Int) / (m : Int)))) cs := by
  have e : ∀ cs, mapR (fun (x : Nat) c2 => quiet ((Bop.mul.fn (.int (c : Int)) (.int (x : Int)) c2).bd fun x c3 => Bop.fdiv.fn x (.int (m : Int)) c3)) (List.range m) cs = .ok ((List.range m).map fun (i : Nat) => .int ((c : Int) * (i : Int) / (m : Int))) cs := fun cs => by
    refine mapR_in _ fun i _ => ?_
    rw [mul_l _ _ _ (by omega) (by omega), bd_ok, fdiv_i _ _ _ (by omega) (by omega)]
    rfl
  rw [r_even_hits]
  unfold b17
  simp -implicitDefEqProofs (disch := (first | assumption | omega | (simp -implicitDefEqProofs only [all_tt, wd_non, wd_bl, wd_int, wd_str, wd_lst, wd_tup, List.all_map, List.all_cons, List.all_nil, List.all_append, Bool.and_true, Bool.and_self, Function.comp_def, List.length_map, List.length_append, List.length_cons, List.length_nil, List.length_range, List.all_eq_true, implies_true, lay_int, lays_ints, lays_nil, lays_cons, List.length_zip, List.length_drop, List.length_take, List.length_range', List.length_reverse, wd_int]; done) | (simp -implicitDefEqProofs only [all_tt, wd_non, wd_bl, wd_int, wd_str, wd_lst, wd_tup, List.all_map, List.all_cons, List.all_nil, List.all_append, Bool.and_true, Bool.and_self, Function.comp_def, List.length_map, List.length_append, List.length_cons, List.length_nil, List.length_range, List.all_eq_true, implies_true, lay_int, lays_ints, lays_nil, lays_cons, List.length_zip, List.length_drop, List.length_take, List.length_range', List.length_reverse, wd_int]; omega))) only [bd_ok, bd_exc, bd_stuck, bd_ite, ret_ok, stk_st, fetch_0, fetch_s, fetchC_0, fetchC_s, tst_bl, eE_var, eE_nev, eE_int, eE_bl, eE_non, eE_str, eE_con, boxR_f, boxR_tw, boxR_e, boxR_ite, eE_disp, eE_tup, eE_bin, eE_neg, eE_not, eE_and, eE_or, eE_one, eE_cmp, eE_chn, eE_ife, eE_call, eE_blt, eE_isi, eE_ix, intPart_i, eE_sl, eE_comp, eE_comp2, comp2L_fl, flR_comp, setTgL_nm, quietL_ok, eE_lrg1, eE_lrg2, eE_rep, eE_lsc, eE_app, eE_pop, eE_popAt, eE_idx, eE_sset, eE_lset, eE_rev, eEs_nil, eEs_cons, eI_seq, eI_rng1, eI_rng2, eI_rng3, eI_zip, eI_enm, seqR_nx, seqR_rt, seqR_exc, seqR_ite, eSs_nil, eSs_cons, eSs_frz, eSs_clr, eS_never, eS_set, eS_setT, eS_par, eS_setI, eS_aug, eS_drop, eS_doc, eS_pass, eS_retN, eS_raise, eS_ret, eS_iff, eS_forS, eS_wh, quiet_ok, quiet_ite, compL_none, compL_some, mapR_comp, mapR_ok, mapR_nil, mapR_cons, fltR_nil, fltR_cons, fltR_comp, fltR_ok, endR_nx, endR_exc, endR_keep, endR_rt, endR_int, endR_bl, endR_non, endR_ite, take_app, List.take_length, f_lt, f_gt, f_le, f_ge, eqv_int, eqv_strs, f_eqi, f_nei, f_is, f_isn, f_isb, isNon_n, isNon_b, isNon_i, isNon_s, isNon_l, isNon_t, not_b, neg_i, add_i, sub_i, len_t, len_l, abs_i, int_i, int_b, tup_t, tup_l, lst_t, lst_l, str_s, sum_l, all_l, any_l, all_nil, lit_l, lit_t, zip_l, zip_t, enm_l, cut_t, cut_l, lstOf_l, mtR_l, isi_n, isi_b, isi_i, isi_s, isi_l, isi_t, eqv_lints, eqv_tints, forL_nil, h_hole, h_var, h_int, h_bl, h_non, h_str, h_con, h_tup, h_disp, h_bin, h_neg, h_not, h_and, h_or, h_one, h_cmp, h_chn, h_ife, h_call, h_blt, h_isi, h_ix, h_sl, wipe_nil, wipe_cons, setAll_nil, setAll_cons, bool_and, bool_or, fitI_i, fitI_n, fitI_b, fitI_s, fitI_l, fitI_t, isT_t, isT_n, isT_b, isT_i, isT_s, isT_l, zallR_t, eSs_zall, free_0, free_s, done_nx, drop_m, take_m, rev_m, app_m, rev_t, rev_l, getC_0, getC_s, getC_aj, getC_a, setC_aj, setC_a, app_c, appR_s, pop_c, popR_s, set_c, setR_s, aug_c, augR_s, aug_i, lst_c, mt_o, mtO_s, slot_0, slot_s, frz_o, frzO_c, frzR_s, ix_ti, ix_li, ix_tl, ix_ll, ix_t0, ix_t1, ix_t2, ix_l0, ix_l1, ix_l2, ix_c, ixO_s, cutL_map, cutL_f, cutL_t, cutL_ft, pairsL_map, enumL_map, rng1N, rng2N, tg1, tg2, tg3, tgO1, tgO2, tgO3, tgF1, tgF2, tgF3, tgT2, tgT3, endO_s, endR_c0, endR_cj, endR_u0, endR_uj, sum_g, sset_gl, sset_gt, lset_gl, lset_gt, max_gl, max_gt, min_gl, min_gt, max_2, min_2, eq_nilL, ne_nilL, eq_nilT, ne_nilT, eq_gl, ne_gl, eq_gt, ne_gt, rngVN, rng3D, in_gl, in_gt, nin_gl, nin_gt, in_pl, in_pt, nin_pl, nin_pt, max_pl, max_pt, min_pl, min_pt, eq_pl, ne_pl, eq_pt, ne_pt, eq_pgl, ne_pgl, eq_gpl, ne_gpl, eq_pgt, ne_pgt, eq_gpt, ne_gpt, isn_b, sset_l, sset_t, lset_l, lset_t, all_tt, any_ff, Int.natCast_nonneg, Int.cast_ofNat_Int, Bool.decide_eq_false, List.length_range', List.isEmpty_nil, List.isEmpty_cons, not_true_eq_false, not_false_eq_true, Bool.true_eq_false, eq_self, Int.reduceToNat, Int.reduceSub, Int.reduceAdd, Int.reduceNeg, Int.reduceLT, Int.reduceLE, Int.reduceMul, Nat.reduceSub, Nat.reduceMul, Int.reduceEq, Int.reduceNe, KH.TI, KH.LI, List.take_zero, List.take_nil, defI, and_true, true_and, and_false, false_and, and_self, List.set_cons_zero, List.set_cons_succ, List.length_cons, List.length_nil, List.length_map, List.length_append, List.length_range, List.cons_append, List.nil_append, List.append_assoc, Nat.zero_add, Int.toNat_natCast, reduceIte, Bool.not_true, Bool.not_false, Bool.false_eq_true, decide_true, decide_false, Bool.true_and, Bool.and_true, Bool.false_and, Bool.and_false, Bool.true_or, Bool.false_or, Bool.or_true, Bool.or_false, Bool.decide_eq_true, decide_eq_true_eq, decide_eq_false_iff_not, decide_not, Bool.not_eq_true', Nat.reduceLeDiff, Nat.reduceAdd, Bool.not_not, Option.toList, tcons, List.take_succ_cons, List.map_id_fun', id_eq, List.map_id', List.isEmpty_map, nn, e]
theorem lho (k : Nat) (c : Nat) (A B : List Int) (hc : 0 < c) (hc2 : c ≤ 24) (hB : B.length ≤ 1000) (cs : CS) : run prg (k + 1) 25 [.int (c : Int), TI A, TI B] cs = .ok (.list ((cntL c A B).map .int)) cs := by
  have := for_app (tg := .nm 4) (body := evSs (run prg k) prg.tab b25_f0) (fun (i : Nat) => .int (i : Int)) [some (.int (c : Int)), some (TI A), some (TI B), some (cellD cs.length), none, none] (fun acc => cs ++ [some acc]) 1 (fun t => [.int ((cnt c A B (t : Nat) : Nat) : Int)]) (List.range c) [] (by simp; omega) fun t ht acc hacc => by
    refine ⟨by simp, ?_⟩
    have q : ∀ cs, fltR (fun (b : Int) c2 => (quiet ((Bop.mod.fn (.int ((t : Int) - b)) (.int (c : Int)) c2).bd fun x c2 => Cmp1.in_.fn x (TI A) c2)).bd fun b c2 => tst b (.ok (some (.int 1)) c2) (.ok none c2)) B cs = .ok ((B.filter fun b => decide (((t : Int) - b) % (c : Int) ∈ A)).map fun _ => .int 1) cs := fun cs => by
      refine fltR_in _ _ fun b _ => ?_
      rw [mod_i cs _ _ (by omega)]
      simp -implicitDefEqProofs (disch := (first | assumption | omega | (simp -implicitDefEqProofs only [all_tt, wd_non, wd_bl, wd_int, wd_str, wd_lst, wd_tup, List.all_map, List.all_cons, List.all_nil, List.all_append, Bool.and_true, Bool.and_self, Function.comp_def, List.length_map, List.length_append, List.length_cons, List.length_nil, List.length_range, List.all_eq_true, implies_true, lay_int, lays_ints, lays_nil, lays_cons, List.length_zip, List.length_drop, List.length_take, List.length_range', List.length_reverse, wd_int]; done) | (simp -implicitDefEqProofs only [all_tt, wd_non, wd_bl, wd_int, wd_str, wd_lst, wd_tup, List.all_map, List.all_cons, List.all_nil, List.all_append, Bool.and_true, Bool.and_self, Function.comp_def, List.length_map, List.length_append, List.length_cons, List.length_nil, List.length_range, List.all_eq_true, implies_true, lay_int, lays_ints, lays_nil, lays_cons, List.length_zip, List.length_drop, List.length_take, List.length_range', List.length_reverse, wd_int]; omega))) only [bd_ok, bd_exc, bd_stuck, bd_ite, ret_ok, stk_st, fetch_0, fetch_s, fetchC_0, fetchC_s, tst_bl, eE_var, eE_nev, eE_int, eE_bl, eE_non, eE_str, eE_con, boxR_f, boxR_tw, boxR_e, boxR_ite, eE_disp, eE_tup, eE_bin, eE_neg, eE_not, eE_and, eE_or, eE_one, eE_cmp, eE_chn, eE_ife, eE_call, eE_blt, eE_isi, eE_ix, intPart_i, eE_sl, eE_comp, eE_comp2, comp2L_fl, flR_comp, setTgL_nm, quietL_ok, eE_lrg1, eE_lrg2, eE_rep, eE_lsc, eE_app, eE_pop, eE_popAt, eE_idx, eE_sset, eE_lset, eE_rev, eEs_nil, eEs_cons, eI_seq, eI_rng1, eI_rng2, eI_rng3, eI_zip, eI_enm, seqR_nx, seqR_rt, seqR_exc, seqR_ite, eSs_nil, eSs_cons, eSs_frz, eSs_clr, eS_never, eS_set, eS_setT, eS_par, eS_setI, eS_aug, eS_drop, eS_doc, eS_pass, eS_retN, eS_raise, eS_ret, eS_iff, eS_forS, eS_wh, quiet_ok, quiet_ite, compL_none, compL_some, mapR_comp, mapR_ok, mapR_nil, mapR_cons, fltR_nil, fltR_cons, fltR_comp, fltR_ok, endR_nx, endR_exc, endR_keep, endR_rt, endR_int, endR_bl, endR_non, endR_ite, take_app, List.take_length, f_lt, f_gt, f_le, f_ge, eqv_int, eqv_strs, f_eqi, f_nei, f_is, f_isn, f_isb, isNon_n, isNon_b, isNon_i, isNon_s, isNon_l, isNon_t, not_b, neg_i, add_i, sub_i, len_t, len_l, abs_i, int_i, int_b, tup_t, tup_l, lst_t, lst_l, str_s, sum_l, all_l, any_l, all_nil, lit_l, lit_t, zip_l, zip_t, enm_l, cut_t, cut_l, lstOf_l, mtR_l, isi_n, isi_b, isi_i, isi_s, isi_l, isi_t, eqv_lints, eqv_tints, forL_nil, h_hole, h_var, h_int, h_bl, h_non, h_str, h_con, h_tup, h_disp, h_bin, h_neg, h_not, h_and, h_or, h_one, h_cmp, h_chn, h_ife, h_call, h_blt, h_isi, h_ix, h_sl, wipe_nil, wipe_cons, setAll_nil, setAll_cons, bool_and, bool_or, fitI_i, fitI_n, fitI_b, fitI_s, fitI_l, fitI_t, isT_t, isT_n, isT_b, isT_i, isT_s, isT_l, zallR_t, eSs_zall, free_0, free_s, done_nx, drop_m, take_m, rev_m, app_m, rev_t, rev_l, getC_0, getC_s, getC_aj, getC_a, setC_aj, setC_a, app_c, appR_s, pop_c, popR_s, set_c, setR_s, aug_c, augR_s, aug_i, lst_c, mt_o, mtO_s, slot_0, slot_s, frz_o, frzO_c, frzR_s, ix_ti, ix_li, ix_tl, ix_ll, ix_t0, ix_t1, ix_t2, ix_l0, ix_l1, ix_l2, ix_c, ixO_s, cutL_map, cutL_f, cutL_t, cutL_ft, pairsL_map, enumL_map, rng1N, rng2N, tg1, tg2, tg3, tgO1, tgO2, tgO3, tgF1, tgF2, tgF3, tgT2, tgT3, endO_s, endR_c0, endR_cj, endR_u0, endR_uj, sum_g, sset_gl, sset_gt, lset_gl, lset_gt, max_gl, max_gt, min_gl, min_gt, max_2, min_2, eq_nilL, ne_nilL, eq_nilT, ne_nilT, eq_gl, ne_gl, eq_gt, ne_gt, rngVN, rng3D, in_gl, in_gt, nin_gl, nin_gt, in_pl, in_pt, nin_pl, nin_pt, max_pl, max_pt, min_pl, min_pt, eq_pl, ne_pl, eq_pt, ne_pt, eq_pgl, ne_pgl, eq_gpl, ne_gpl, eq_pgt, ne_pgt, eq_gpt, ne_gpt, isn_b, sset_l, sset_t, lset_l, lset_t, all_tt, any_ff, Int.natCast_nonneg, Int.cast_ofNat_Int, Bool.decide_eq_false, List.length_range', List.isEmpty_nil, List.isEmpty_cons, not_true_eq_false, not_false_eq_true, Bool.true_eq_false, eq_self, Int.reduceToNat, Int.reduceSub, Int.reduceAdd, Int.reduceNeg, Int.reduceLT, Int.reduceLE, Int.reduceMul, Nat.reduceSub, Nat.reduceMul, Int.reduceEq, Int.reduceNe, KH.TI, KH.LI, List.take_zero, List.take_nil, defI, and_true, true_and, and_false, false_and, and_self, List.set_cons_zero, List.set_cons_succ, List.length_cons, List.length_nil, List.length_map, List.length_append, List.length_range, List.cons_append, List.nil_append, List.append_assoc, Nat.zero_add, Int.toNat_natCast, reduceIte, Bool.not_true, Bool.not_false, Bool.false_eq_true, decide_true, decide_false, Bool.true_and, Bool.and_true, Bool.false_and, Bool.and_false, Bool.true_or, Bool.false_or, Bool.or_true, Bool.or_false, Bool.decide_eq_true, decide_eq_true_eq, decide_eq_false_iff_not, decide_not, Bool.not_eq_true', Nat.reduceLeDiff, Nat.reduceAdd, Bool.not_not, Option.toList, tcons, List.take_succ_cons, List.map_id_fun', id_eq, List.map_id', List.isEmpty_map]
      split <;> rfl
    unfold b25_f0
    unfold cnt
    rw [List.countP_eq_length_filter]
    simp -implicitDefEqProofs (disch := (first | assumption | omega | (simp -implicitDefEqProofs only [all_tt, wd_non, wd_bl, wd_int, wd_str, wd_lst, wd_tup, List.all_map, List.all_cons, List.all_nil, List.all_append, Bool.and_true, Bool.and_self, Function.comp_def, List.length_map, List.length_append, List.length_cons, List.length_nil, List.length_range, List.all_eq_true, implies_true, lay_int, lays_ints, lays_nil, lays_cons, List.length_zip, List.length_drop, List.length_take, List.length_range', List.length_reverse, wd_int]; done) | (simp -implicitDefEqProofs only [all_tt, wd_non, wd_bl, wd_int, wd_str, wd_lst, wd_tup, List.all_map, List.all_cons, List.all_nil, List.all_append, Bool.and_true, Bool.and_self, Function.comp_def, List.length_map, List.length_append, List.length_cons, List.length_nil, List.length_range, List.all_eq_true, implies_true, lay_int, lays_ints, lays_nil, lays_cons, List.length_zip, List.length_drop, List.length_take, List.length_range', List.length_reverse, wd_int]; omega))) only [bd_ok, bd_exc, bd_stuck, bd_ite, ret_ok, stk_st, fetch_0, fetch_s, fetchC_0, fetchC_s, tst_bl, eE_var, eE_nev, eE_int, eE_bl, eE_non, eE_str, eE_con, boxR_f, boxR_tw, boxR_e, boxR_ite, eE_disp, eE_tup, eE_bin, eE_neg, eE_not, eE_and, eE_or, eE_one, eE_cmp, eE_chn, eE_ife, eE_call, eE_blt, eE_isi, eE_ix, intPart_i, eE_sl, eE_comp, eE_comp2, comp2L_fl, flR_comp, setTgL_nm, quietL_ok, eE_lrg1, eE_lrg2, eE_rep, eE_lsc, eE_app, eE_pop, eE_popAt, eE_idx, eE_sset, eE_lset, eE_rev, eEs_nil, eEs_cons, eI_seq, eI_rng1, eI_rng2, eI_rng3, eI_zip, eI_enm, seqR_nx, seqR_rt, seqR_exc, seqR_ite, eSs_nil, eSs_cons, eSs_frz, eSs_clr, eS_never, eS_set, eS_setT, eS_par, eS_setI, eS_aug, eS_drop, eS_doc, eS_pass, eS_retN, eS_raise, eS_ret, eS_iff, eS_forS, eS_wh, quiet_ok, quiet_ite, compL_none, compL_some, mapR_comp, mapR_ok, mapR_nil, mapR_cons, fltR_nil, fltR_cons, fltR_comp, fltR_ok, endR_nx, endR_exc, endR_keep, endR_rt, endR_int, endR_bl, endR_non, endR_ite, take_app, List.take_length, f_lt, f_gt, f_le, f_ge, eqv_int, eqv_strs, f_eqi, f_nei, f_is, f_isn, f_isb, isNon_n, isNon_b, isNon_i, isNon_s, isNon_l, isNon_t, not_b, neg_i, add_i, sub_i, len_t, len_l, abs_i, int_i, int_b, tup_t, tup_l, lst_t, lst_l, str_s, sum_l, all_l, any_l, all_nil, lit_l, lit_t, zip_l, zip_t, enm_l, cut_t, cut_l, lstOf_l, mtR_l, isi_n, isi_b, isi_i, isi_s, isi_l, isi_t, eqv_lints, eqv_tints, forL_nil, h_hole, h_var, h_int, h_bl, h_non, h_str, h_con, h_tup, h_disp, h_bin, h_neg, h_not, h_and, h_or, h_one, h_cmp, h_chn, h_ife, h_call, h_blt, h_isi, h_ix, h_sl, wipe_nil, wipe_cons, setAll_nil, setAll_cons, bool_and, bool_or, fitI_i, fitI_n, fitI_b, fitI_s, fitI_l, fitI_t, isT_t, isT_n, isT_b, isT_i, isT_s, isT_l, zallR_t, eSs_zall, free_0, free_s, done_nx, drop_m, take_m, rev_m, app_m, rev_t, rev_l, getC_0, getC_s, getC_aj, getC_a, setC_aj, setC_a, app_c, appR_s, pop_c, popR_s, set_c, setR_s, aug_c, augR_s, aug_i, lst_c, mt_o, mtO_s, slot_0, slot_s, frz_o, frzO_c, frzR_s, ix_ti, ix_li, ix_tl, ix_ll, ix_t0, ix_t1, ix_t2, ix_l0, ix_l1, ix_l2, ix_c, ixO_s, cutL_map, cutL_f, cutL_t, cutL_ft, pairsL_map, enumL_map, rng1N, rng2N, tg1, tg2, tg3, tgO1, tgO2, tgO3, tgF1, tgF2, tgF3, tgT2, tgT3, endO_s, endR_c0, endR_cj, endR_u0, endR_uj, sum_g, sset_gl, sset_gt, lset_gl, lset_gt, max_gl, max_gt, min_gl, min_gt, max_2, min_2, eq_nilL, ne_nilL, eq_nilT, ne_nilT, eq_gl, ne_gl, eq_gt, ne_gt, rngVN, rng3D, in_gl, in_gt, nin_gl, nin_gt, in_pl, in_pt, nin_pl, nin_pt, max_pl, max_pt, min_pl, min_pt, eq_pl, ne_pl, eq_pt, ne_pt, eq_pgl, ne_pgl, eq_gpl, ne_gpl, eq_pgt, ne_pgt, eq_gpt, ne_gpt, isn_b, sset_l, sset_t, lset_l, lset_t, all_tt, any_ff, Int.natCast_nonneg, Int.cast_ofNat_Int, Bool.decide_eq_false, List.length_range', List.isEmpty_nil, List.isEmpty_cons, not_true_eq_false, not_false_eq_true, Bool.true_eq_false, eq_self, Int.reduceToNat, Int.reduceSub, Int.reduceAdd, Int.reduceNeg, Int.reduceLT, Int.reduceLE, Int.reduceMul, Nat.reduceSub, Nat.reduceMul, Int.reduceEq, Int.reduceNe, KH.TI, KH.LI, List.take_zero, List.take_nil, defI, and_true, true_and, and_false, false_and, and_self, List.set_cons_zero, List.set_cons_succ, List.length_cons, List.length_nil, List.length_map, List.length_append, List.length_range, List.cons_append, List.nil_append, List.append_assoc, Nat.zero_add, Int.toNat_natCast, reduceIte, Bool.not_true, Bool.not_false, Bool.false_eq_true, decide_true, decide_false, Bool.true_and, Bool.and_true, Bool.false_and, Bool.and_false, Bool.true_or, Bool.false_or, Bool.or_true, Bool.or_false, Bool.decide_eq_true, decide_eq_true_eq, decide_eq_false_iff_not, decide_not, Bool.not_eq_true', Nat.reduceLeDiff, Nat.reduceAdd, Bool.not_not, Option.toList, tcons, List.take_succ_cons, List.map_id_fun', id_eq, List.map_id', List.isEmpty_map, q]
  have q2 : (List.range c).flatMap (fun (t : Nat) => [PyData.int ((cnt c A B (t : Nat) : Nat) : Int)]) = (cntL c A B).map .int := by
    rw [fm1]
    unfold cntL
    rw [List.map_map]
    rfl
  rw [List.nil_append, q2] at this
  rw [r__law_hit]
  unfold b25
  simp -implicitDefEqProofs (disch := (first | assumption | omega | (simp -implicitDefEqProofs only [all_tt, wd_non, wd_bl, wd_int, wd_str, wd_lst, wd_tup, List.all_map, List.all_cons, List.all_nil, List.all_append, Bool.and_true, Bool.and_self, Function.comp_def, List.length_map, List.length_append, List.length_cons, List.length_nil, List.length_range, List.all_eq_true, implies_true, lay_int, lays_ints, lays_nil, lays_cons, List.length_zip, List.length_drop, List.length_take, List.length_range', List.length_reverse, wd_int]; done) | (simp -implicitDefEqProofs only [all_tt, wd_non, wd_bl, wd_int, wd_str, wd_lst, wd_tup, List.all_map, List.all_cons, List.all_nil, List.all_append, Bool.and_true, Bool.and_self, Function.comp_def, List.length_map, List.length_append, List.length_cons, List.length_nil, List.length_range, List.all_eq_true, implies_true, lay_int, lays_ints, lays_nil, lays_cons, List.length_zip, List.length_drop, List.length_take, List.length_range', List.length_reverse, wd_int]; omega))) only [bd_ok, bd_exc, bd_stuck, bd_ite, ret_ok, stk_st, fetch_0, fetch_s, fetchC_0, fetchC_s, tst_bl, eE_var, eE_nev, eE_int, eE_bl, eE_non, eE_str, eE_con, boxR_f, boxR_tw, boxR_e, boxR_ite, eE_disp, eE_tup, eE_bin, eE_neg, eE_not, eE_and, eE_or, eE_one, eE_cmp, eE_chn, eE_ife, eE_call, eE_blt, eE_isi, eE_ix, intPart_i, eE_sl, eE_comp, eE_comp2, comp2L_fl, flR_comp, setTgL_nm, quietL_ok, eE_lrg1, eE_lrg2, eE_rep, eE_lsc, eE_app, eE_pop, eE_popAt, eE_idx, eE_sset, eE_lset, eE_rev, eEs_nil, eEs_cons, eI_seq, eI_rng1, eI_rng2, eI_rng3, eI_zip, eI_enm, seqR_nx, seqR_rt, seqR_exc, seqR_ite, eSs_nil, eSs_cons, eSs_frz, eSs_clr, eS_never, eS_set, eS_setT, eS_par, eS_setI, eS_aug, eS_drop, eS_doc, eS_pass, eS_retN, eS_raise, eS_ret, eS_iff, eS_forS, eS_wh, quiet_ok, quiet_ite, compL_none, compL_some, mapR_comp, mapR_ok, mapR_nil, mapR_cons, fltR_nil, fltR_cons, fltR_comp, fltR_ok, endR_nx, endR_exc, endR_keep, endR_rt, endR_int, endR_bl, endR_non, endR_ite, take_app, List.take_length, f_lt, f_gt, f_le, f_ge, eqv_int, eqv_strs, f_eqi, f_nei, f_is, f_isn, f_isb, isNon_n, isNon_b, isNon_i, isNon_s, isNon_l, isNon_t, not_b, neg_i, add_i, sub_i, len_t, len_l, abs_i, int_i, int_b, tup_t, tup_l, lst_t, lst_l, str_s, sum_l, all_l, any_l, all_nil, lit_l, lit_t, zip_l, zip_t, enm_l, cut_t, cut_l, lstOf_l, mtR_l, isi_n, isi_b, isi_i, isi_s, isi_l, isi_t, eqv_lints, eqv_tints, forL_nil, h_hole, h_var, h_int, h_bl, h_non, h_str, h_con, h_tup, h_disp, h_bin, h_neg, h_not, h_and, h_or, h_one, h_cmp, h_chn, h_ife, h_call, h_blt, h_isi, h_ix, h_sl, wipe_nil, wipe_cons, setAll_nil, setAll_cons, bool_and, bool_or, fitI_i, fitI_n, fitI_b, fitI_s, fitI_l, fitI_t, isT_t, isT_n, isT_b, isT_i, isT_s, isT_l, zallR_t, eSs_zall, free_0, free_s, done_nx, drop_m, take_m, rev_m, app_m, rev_t, rev_l, getC_0, getC_s, getC_aj, getC_a, setC_aj, setC_a, app_c, appR_s, pop_c, popR_s, set_c, setR_s, aug_c, augR_s, aug_i, lst_c, mt_o, mtO_s, slot_0, slot_s, frz_o, frzO_c, frzR_s, ix_ti, ix_li, ix_tl, ix_ll, ix_t0, ix_t1, ix_t2, ix_l0, ix_l1, ix_l2, ix_c, ixO_s, cutL_map, cutL_f, cutL_t, cutL_ft, pairsL_map, enumL_map, rng1N, rng2N, tg1, tg2, tg3, tgO1, tgO2, tgO3, tgF1, tgF2, tgF3, tgT2, tgT3, endO_s, endR_c0, endR_cj, endR_u0, endR_uj, sum_g, sset_gl, sset_gt, lset_gl, lset_gt, max_gl, max_gt, min_gl, min_gt, max_2, min_2, eq_nilL, ne_nilL, eq_nilT, ne_nilT, eq_gl, ne_gl, eq_gt, ne_gt, rngVN, rng3D, in_gl, in_gt, nin_gl, nin_gt, in_pl, in_pt, nin_pl, nin_pt, max_pl, max_pt, min_pl, min_pt, eq_pl, ne_pl, eq_pt, ne_pt, eq_pgl, ne_pgl, eq_gpl, ne_gpl, eq_pgt, ne_pgt, eq_gpt, ne_gpt, isn_b, sset_l, sset_t, lset_l, lset_t, all_tt, any_ff, Int.natCast_nonneg, Int.cast_ofNat_Int, Bool.decide_eq_false, List.length_range', List.isEmpty_nil, List.isEmpty_cons, not_true_eq_false, not_false_eq_true, Bool.true_eq_false, eq_self, Int.reduceToNat, Int.reduceSub, Int.reduceAdd, Int.reduceNeg, Int.reduceLT, Int.reduceLE, Int.reduceMul, Nat.reduceSub, Nat.reduceMul, Int.reduceEq, Int.reduceNe, KH.TI, KH.LI, List.take_zero, List.take_nil, defI, and_true, true_and, and_false, false_and, and_self, List.set_cons_zero, List.set_cons_succ, List.length_cons, List.length_nil, List.length_map, List.length_append, List.length_range, List.cons_append, List.nil_append, List.append_assoc, Nat.zero_add, Int.toNat_natCast, reduceIte, Bool.not_true, Bool.not_false, Bool.false_eq_true, decide_true, decide_false, Bool.true_and, Bool.and_true, Bool.false_and, Bool.and_false, Bool.true_or, Bool.false_or, Bool.or_true, Bool.or_false, Bool.decide_eq_true, decide_eq_true_eq, decide_eq_false_iff_not, decide_not, Bool.not_eq_true', Nat.reduceLeDiff, Nat.reduceAdd, Bool.not_not, Option.toList, tcons, List.take_succ_cons, List.map_id_fun', id_eq, List.map_id', List.isEmpty_map, this]

end KP

/-! k81: not too many in the law's search. -/
namespace KP
open KH
def wt (c : Nat) (own : List Int) : Nat := 2 ^ (c - 1 - (own.getLastD 0).toNat)
theorem pow_sum (c : Nat) : ∀ (n a : Nat), a + n = c → ((List.range' a n).map fun t => 2 ^ (c - 1 - t)).sum + 1 ≤ 2 ^ n
  | 0, a, _ => by simp
  | n + 1, a, h => by
    have ih := pow_sum c n (a + 1) (by omega)
    rw [List.range'_succ, List.map_cons, List.sum_cons, show c - 1 - a = n by omega, Nat.pow_succ]
    omega
theorem flt_sum {α : Type} (p : α → Bool) (f : α → Nat) : ∀ l : List α, ((l.filter p).map f).sum ≤ (l.map f).sum
  | [] => Nat.le_refl _
  | x :: l => by
    have := flt_sum p f l
    rw [List.filter_cons]
    split <;> simp only [List.map_cons, List.sum_cons] <;> omega
theorem kids_wt (c : Nat) (own : List Int) (p : Nat → Bool) (h0 : 0 ≤ own.getLastD 0) (h1 : own.getLastD 0 < c) : ((((List.range' ((own.getLastD 0) + 1).toNat (c - ((own.getLastD 0) + 1).toNat)).filter p).map fun (t : Nat) => own ++ [(t : Int)]).map (wt c)).sum ≤ wt c own := by
  rw [List.map_map]
  have e : (wt c ∘ fun (t : Nat) => own ++ [(t : Int)]) = fun t => 2 ^ (c - 1 - t) := by
    funext t
    simp [wt]
  rw [e]
  have a := flt_sum p (fun t => 2 ^ (c - 1 - t)) (List.range' ((own.getLastD 0) + 1).toNat (c - ((own.getLastD 0) + 1).toNat))
  have b := pow_sum c (c - ((own.getLastD 0) + 1).toNat) ((own.getLastD 0) + 1).toNat (by omega)
  unfold wt
  rw [show c - 1 - (own.getLastD 0).toNat = c - ((own.getLastD 0) + 1).toNat by omega]
  omega
theorem fm_sum {α β : Type} (f : α → List β) (g : β → Nat) (w : α → Nat) : ∀ l : List α, (∀ x ∈ l, ((f x).map g).sum ≤ w x) → ((l.flatMap f).map g).sum ≤ (l.map w).sum
  | [], _ => Nat.le_refl _
  | x :: l, h => by
    have h1 := h x List.mem_cons_self
    have h2 := fm_sum f g w l fun y hy => h y (List.mem_cons_of_mem _ hy)
    rw [List.flatMap_cons, List.map_append, List.sum_append, List.map_cons, List.sum_cons]
    omega
theorem len_sum {α : Type} (g : α → Nat) : ∀ l : List α, (∀ x ∈ l, 1 ≤ g x) → l.length ≤ (l.map g).sum
  | [], _ => Nat.le_refl _
  | x :: l, h => by
    have h1 := h x List.mem_cons_self
    have h2 := len_sum g l fun y hy => h y (List.mem_cons_of_mem _ hy)
    rw [List.length_cons, List.map_cons, List.sum_cons]
    omega
theorem own_last {c : Nat} {A own : List Int} {s : Nat} (o : Own c A s own) : own ≠ [] ∧ 0 ≤ own.getLastD 0 ∧ own.getLastD 0 < c := by
  have hn : own ≠ [] := fun e => by have := o.len; rw [e] at this; simp at this
  have hm : own.getLastD 0 ∈ own := by
    cases own with
    | nil => exact absurd rfl hn
    | cons x l => exact List.getLast_mem _
  exact ⟨hn, o.bd _ hm⟩
theorem lfs_wt {c : Nat} {A : List Int} (h : Hits c A) (hc : 0 < c) : ∀ s, ((LFs c A s).map (wt c)).sum ≤ 2 ^ (c - 1)
  | 0 => by show ([[(0 : Int)]].map (wt c)).sum ≤ _; simp [wt]
  | s + 1 => by
    rw [LFs]
    refine Nat.le_trans (fm_sum _ (wt c) (wt c) _ fun own ho => ?_) (lfs_wt h hc s)
    obtain ⟨-, h0, h1⟩ := own_last ((lfs_mem h hc s own).mp ho)
    exact kids_wt c own _ h0 h1
theorem lfs_len {c : Nat} {A : List Int} (h : Hits c A) (hc : 0 < c) (hc2 : c ≤ 12) (s : Nat) : (LFs c A s).length ≤ 2048 := by
  have a := len_sum (wt c) (LFs c A s) fun x _ => Nat.pow_pos (by omega)
  have b := lfs_wt h hc s
  have : 2 ^ (c - 1) ≤ 2 ^ 11 := Nat.pow_le_pow_right (by omega) (by omega)
  omega
end KP

namespace KP
open PySem PySem.Spec PyProof.Rows L2 KH
theorem perR (c : Nat) (A : List Int) (hc : 0 < c) (cs : CS) : fltR (fun (t : Nat) c1 => (quiet ((((boxR false (mapR (fun (a : Int) c2 => quiet (Bop.mod.fn (.int (a + (t : Int))) (.int (c : Int)) c2)) A c1)).bd fun x c => .ok [x] c).bd fun xs c => Blt.sorted.fn xs c).bd fun x c2 => Cmp1.eq.fn x (.list (A.map .int)) c2)).bd fun b c => tst b (.ok (some (.int (t : Int))) c) (.ok none c)) (List.range' 1 c) cs = .ok ((pl c A).map fun (t : Nat) => .int (t : Int)) cs := by
  refine fltR_in (fun (t : Nat) => decide (trn c A (t : Int) = A)) _ fun t _ => ?_
  have m := modR c hc (fun a => a + (t : Int)) A
  unfold trn
  simp -implicitDefEqProofs (disch := (first | assumption | omega | (simp -implicitDefEqProofs only [all_tt, wd_non, wd_bl, wd_int, wd_str, wd_lst, wd_tup, List.all_map, List.all_cons, List.all_nil, List.all_append, Bool.and_true, Bool.and_self, Function.comp_def, List.length_map, List.length_append, List.length_cons, List.length_nil, List.length_range, List.all_eq_true, implies_true, lay_int, lays_ints, lays_nil, lays_cons, List.length_zip, List.length_drop, List.length_take, List.length_range', List.length_reverse, wd_int]; done) | (simp -implicitDefEqProofs only [all_tt, wd_non, wd_bl, wd_int, wd_str, wd_lst, wd_tup, List.all_map, List.all_cons, List.all_nil, List.all_append, Bool.and_true, Bool.and_self, Function.comp_def, List.length_map, List.length_append, List.length_cons, List.length_nil, List.length_range, List.all_eq_true, implies_true, lay_int, lays_ints, lays_nil, lays_cons, List.length_zip, List.length_drop, List.length_take, List.length_range', List.length_reverse, wd_int]; omega))) only [bd_ok, bd_exc, bd_stuck, bd_ite, ret_ok, stk_st, fetch_0, fetch_s, fetchC_0, fetchC_s, tst_bl, eE_var, eE_nev, eE_int, eE_bl, eE_non, eE_str, eE_con, boxR_f, boxR_tw, boxR_e, boxR_ite, eE_disp, eE_tup, eE_bin, eE_neg, eE_not, eE_and, eE_or, eE_one, eE_cmp, eE_chn, eE_ife, eE_call, eE_blt, eE_isi, eE_ix, intPart_i, eE_sl, eE_comp, eE_comp2, comp2L_fl, flR_comp, setTgL_nm, quietL_ok, eE_lrg1, eE_lrg2, eE_rep, eE_lsc, eE_app, eE_pop, eE_popAt, eE_idx, eE_sset, eE_lset, eE_rev, eEs_nil, eEs_cons, eI_seq, eI_rng1, eI_rng2, eI_rng3, eI_zip, eI_enm, seqR_nx, seqR_rt, seqR_exc, seqR_ite, eSs_nil, eSs_cons, eSs_frz, eSs_clr, eS_never, eS_set, eS_setT, eS_par, eS_setI, eS_aug, eS_drop, eS_doc, eS_pass, eS_retN, eS_raise, eS_ret, eS_iff, eS_forS, eS_wh, quiet_ok, quiet_ite, compL_none, compL_some, mapR_comp, mapR_ok, mapR_nil, mapR_cons, fltR_nil, fltR_cons, fltR_comp, fltR_ok, endR_nx, endR_exc, endR_keep, endR_rt, endR_int, endR_bl, endR_non, endR_ite, take_app, List.take_length, f_lt, f_gt, f_le, f_ge, eqv_int, eqv_strs, f_eqi, f_nei, f_is, f_isn, f_isb, isNon_n, isNon_b, isNon_i, isNon_s, isNon_l, isNon_t, not_b, neg_i, add_i, sub_i, len_t, len_l, abs_i, int_i, int_b, tup_t, tup_l, lst_t, lst_l, str_s, sum_l, all_l, any_l, all_nil, lit_l, lit_t, zip_l, zip_t, enm_l, cut_t, cut_l, lstOf_l, mtR_l, isi_n, isi_b, isi_i, isi_s, isi_l, isi_t, eqv_lints, eqv_tints, forL_nil, h_hole, h_var, h_int, h_bl, h_non, h_str, h_con, h_tup, h_disp, h_bin, h_neg, h_not, h_and, h_or, h_one, h_cmp, h_chn, h_ife, h_call, h_blt, h_isi, h_ix, h_sl, wipe_nil, wipe_cons, setAll_nil, setAll_cons, bool_and, bool_or, fitI_i, fitI_n, fitI_b, fitI_s, fitI_l, fitI_t, isT_t, isT_n, isT_b, isT_i, isT_s, isT_l, zallR_t, eSs_zall, free_0, free_s, done_nx, drop_m, take_m, rev_m, app_m, rev_t, rev_l, getC_0, getC_s, getC_aj, getC_a, setC_aj, setC_a, app_c, appR_s, pop_c, popR_s, set_c, setR_s, aug_c, augR_s, aug_i, lst_c, mt_o, mtO_s, slot_0, slot_s, frz_o, frzO_c, frzR_s, ix_ti, ix_li, ix_tl, ix_ll, ix_t0, ix_t1, ix_t2, ix_l0, ix_l1, ix_l2, ix_c, ixO_s, cutL_map, cutL_f, cutL_t, cutL_ft, pairsL_map, enumL_map, rng1N, rng2N, tg1, tg2, tg3, tgO1, tgO2, tgO3, tgF1, tgF2, tgF3, tgT2, tgT3, endO_s, endR_c0, endR_cj, endR_u0, endR_uj, sum_g, sset_gl, sset_gt, lset_gl, lset_gt, max_gl, max_gt, min_gl, min_gt, max_2, min_2, eq_nilL, ne_nilL, eq_nilT, ne_nilT, eq_gl, ne_gl, eq_gt, ne_gt, rngVN, rng3D, in_gl, in_gt, nin_gl, nin_gt, in_pl, in_pt, nin_pl, nin_pt, max_pl, max_pt, min_pl, min_pt, eq_pl, ne_pl, eq_pt, ne_pt, eq_pgl, ne_pgl, eq_gpl, ne_gpl, eq_pgt, ne_pgt, eq_gpt, ne_gpt, isn_b, sset_l, sset_t, lset_l, lset_t, all_tt, any_ff, Int.natCast_nonneg, Int.cast_ofNat_Int, Bool.decide_eq_false, List.length_range', List.isEmpty_nil, List.isEmpty_cons, not_true_eq_false, not_false_eq_true, Bool.true_eq_false, eq_self, Int.reduceToNat, Int.reduceSub, Int.reduceAdd, Int.reduceNeg, Int.reduceLT, Int.reduceLE, Int.reduceMul, Nat.reduceSub, Nat.reduceMul, Int.reduceEq, Int.reduceNe, KH.TI, KH.LI, List.take_zero, List.take_nil, defI, and_true, true_and, and_false, false_and, and_self, List.set_cons_zero, List.set_cons_succ, List.length_cons, List.length_nil, List.length_map, List.length_append, List.length_range, List.cons_append, List.nil_append, List.append_assoc, Nat.zero_add, Int.toNat_natCast, reduceIte, Bool.not_true, Bool.not_false, Bool.false_eq_true, decide_true, decide_false, Bool.true_and, Bool.and_true, Bool.false_and, Bool.and_false, Bool.true_or, Bool.false_or, Bool.or_true, Bool.or_false, Bool.decide_eq_true, decide_eq_true_eq, decide_eq_false_iff_not, decide_not, Bool.not_eq_true', Nat.reduceLeDiff, Nat.reduceAdd, Bool.not_not, Option.toList, tcons, List.take_succ_cons, List.map_id_fun', id_eq, List.map_id', List.isEmpty_map, m, srt_l]
  split <;> rfl
theorem hpo (k : Nat) (c : Nat) (A : List Int) (h : HitsT c A) (cs : CS) : run prg (k + 5) 16 [.int (c : Int), TI A] cs = .ok (.int (per c A : Nat)) cs := by
  have p := perR c A h.c0
  have rg : ∀ cs, range2D [.int 1, .int ((c : Int) + 1)] cs = .ok ((List.range' 1 c).map fun (i : Nat) => .int (i : Int)) cs := fun cs => by
    have h1 := h.c1
    rw [rng2N _ _ _ (by omega) (by omega) (by omega) (by omega), show ((c : Int) + 1 - 1).toNat = c by omega]
    rfl
  have l0 : 0 < ((pl c A).map fun (t : Nat) => (t : Int)).length := by
    rw [List.length_map]
    exact List.length_pos_of_mem (pl_mem h.h h.c0)
  have mn := fun cs => min_pl cs ((pl c A).map fun (t : Nat) => (t : Int)) l0
  rw [per_min h.h h.c0, List.map_map] at mn
  have mn : ∀ cs, Blt.min.fn [.list ((pl c A).map fun (t : Nat) => .int (t : Int))] cs = .ok (.int (per c A : Nat)) cs := mn
  rw [r_hit_period]
  unfold b16
  simp -implicitDefEqProofs (disch := (first | assumption | omega | (simp -implicitDefEqProofs only [all_tt, wd_non, wd_bl, wd_int, wd_str, wd_lst, wd_tup, List.all_map, List.all_cons, List.all_nil, List.all_append, Bool.and_true, Bool.and_self, Function.comp_def, List.length_map, List.length_append, List.length_cons, List.length_nil, List.length_range, List.all_eq_true, implies_true, lay_int, lays_ints, lays_nil, lays_cons, List.length_zip, List.length_drop, List.length_take, List.length_range', List.length_reverse, wd_int]; done) | (simp -implicitDefEqProofs only [all_tt, wd_non, wd_bl, wd_int, wd_str, wd_lst, wd_tup, List.all_map, List.all_cons, List.all_nil, List.all_append, Bool.and_true, Bool.and_self, Function.comp_def, List.length_map, List.length_append, List.length_cons, List.length_nil, List.length_range, List.all_eq_true, implies_true, lay_int, lays_ints, lays_nil, lays_cons, List.length_zip, List.length_drop, List.length_take, List.length_range', List.length_reverse, wd_int]; omega))) only [bd_ok, bd_exc, bd_stuck, bd_ite, ret_ok, stk_st, fetch_0, fetch_s, fetchC_0, fetchC_s, tst_bl, eE_var, eE_nev, eE_int, eE_bl, eE_non, eE_str, eE_con, boxR_f, boxR_tw, boxR_e, boxR_ite, eE_disp, eE_tup, eE_bin, eE_neg, eE_not, eE_and, eE_or, eE_one, eE_cmp, eE_chn, eE_ife, eE_call, eE_blt, eE_isi, eE_ix, intPart_i, eE_sl, eE_comp, eE_comp2, comp2L_fl, flR_comp, setTgL_nm, quietL_ok, eE_lrg1, eE_lrg2, eE_rep, eE_lsc, eE_app, eE_pop, eE_popAt, eE_idx, eE_sset, eE_lset, eE_rev, eEs_nil, eEs_cons, eI_seq, eI_rng1, eI_rng2, eI_rng3, eI_zip, eI_enm, seqR_nx, seqR_rt, seqR_exc, seqR_ite, eSs_nil, eSs_cons, eSs_frz, eSs_clr, eS_never, eS_set, eS_setT, eS_par, eS_setI, eS_aug, eS_drop, eS_doc, eS_pass, eS_retN, eS_raise, eS_ret, eS_iff, eS_forS, eS_wh, quiet_ok, quiet_ite, compL_none, compL_some, mapR_comp, mapR_ok, mapR_nil, mapR_cons, fltR_nil, fltR_cons, fltR_comp, fltR_ok, endR_nx, endR_exc, endR_keep, endR_rt, endR_int, endR_bl, endR_non, endR_ite, take_app, List.take_length, f_lt, f_gt, f_le, f_ge, eqv_int, eqv_strs, f_eqi, f_nei, f_is, f_isn, f_isb, isNon_n, isNon_b, isNon_i, isNon_s, isNon_l, isNon_t, not_b, neg_i, add_i, sub_i, len_t, len_l, abs_i, int_i, int_b, tup_t, tup_l, lst_t, lst_l, str_s, sum_l, all_l, any_l, all_nil, lit_l, lit_t, zip_l, zip_t, enm_l, cut_t, cut_l, lstOf_l, mtR_l, isi_n, isi_b, isi_i, isi_s, isi_l, isi_t, eqv_lints, eqv_tints, forL_nil, h_hole, h_var, h_int, h_bl, h_non, h_str, h_con, h_tup, h_disp, h_bin, h_neg, h_not, h_and, h_or, h_one, h_cmp, h_chn, h_ife, h_call, h_blt, h_isi, h_ix, h_sl, wipe_nil, wipe_cons, setAll_nil, setAll_cons, bool_and, bool_or, fitI_i, fitI_n, fitI_b, fitI_s, fitI_l, fitI_t, isT_t, isT_n, isT_b, isT_i, isT_s, isT_l, zallR_t, eSs_zall, free_0, free_s, done_nx, drop_m, take_m, rev_m, app_m, rev_t, rev_l, getC_0, getC_s, getC_aj, getC_a, setC_aj, setC_a, app_c, appR_s, pop_c, popR_s, set_c, setR_s, aug_c, augR_s, aug_i, lst_c, mt_o, mtO_s, slot_0, slot_s, frz_o, frzO_c, frzR_s, ix_ti, ix_li, ix_tl, ix_ll, ix_t0, ix_t1, ix_t2, ix_l0, ix_l1, ix_l2, ix_c, ixO_s, cutL_map, cutL_f, cutL_t, cutL_ft, pairsL_map, enumL_map, rng1N, rng2N, tg1, tg2, tg3, tgO1, tgO2, tgO3, tgF1, tgF2, tgF3, tgT2, tgT3, endO_s, endR_c0, endR_cj, endR_u0, endR_uj, sum_g, sset_gl, sset_gt, lset_gl, lset_gt, max_gl, max_gt, min_gl, min_gt, max_2, min_2, eq_nilL, ne_nilL, eq_nilT, ne_nilT, eq_gl, ne_gl, eq_gt, ne_gt, rngVN, rng3D, in_gl, in_gt, nin_gl, nin_gt, in_pl, in_pt, nin_pl, nin_pt, max_pl, max_pt, min_pl, min_pt, eq_pl, ne_pl, eq_pt, ne_pt, eq_pgl, ne_pgl, eq_gpl, ne_gpl, eq_pgt, ne_pgt, eq_gpt, ne_gpt, isn_b, sset_l, sset_t, lset_l, lset_t, all_tt, any_ff, Int.natCast_nonneg, Int.cast_ofNat_Int, Bool.decide_eq_false, List.length_range', List.isEmpty_nil, List.isEmpty_cons, not_true_eq_false, not_false_eq_true, Bool.true_eq_false, eq_self, Int.reduceToNat, Int.reduceSub, Int.reduceAdd, Int.reduceNeg, Int.reduceLT, Int.reduceLE, Int.reduceMul, Nat.reduceSub, Nat.reduceMul, Int.reduceEq, Int.reduceNe, KH.TI, KH.LI, List.take_zero, List.take_nil, defI, and_true, true_and, and_false, false_and, and_self, List.set_cons_zero, List.set_cons_succ, List.length_cons, List.length_nil, List.length_map, List.length_append, List.length_range, List.cons_append, List.nil_append, List.append_assoc, Nat.zero_add, Int.toNat_natCast, reduceIte, Bool.not_true, Bool.not_false, Bool.false_eq_true, decide_true, decide_false, Bool.true_and, Bool.and_true, Bool.false_and, Bool.and_false, Bool.true_or, Bool.false_or, Bool.or_true, Bool.or_false, Bool.decide_eq_true, decide_eq_true_eq, decide_eq_false_iff_not, decide_not, Bool.not_eq_true', Nat.reduceLeDiff, Nat.reduceAdd, Bool.not_not, Option.toList, tcons, List.take_succ_cons, List.map_id_fun', id_eq, List.map_id', List.isEmpty_map, nh _ c A h, rg, p, mn]

end KP

namespace KP
open PySem PySem.Spec PyProof.Rows L2 KH
theorem euc (k : Nat) : ∀ (n b a : Nat) (cs : CS), b < n → whL (evE (run prg k) prg.tab (.cmp .gt (.var 1) (.int 0))) (evSs (run prg k) prg.tab b4_f0) n [some (.int (a : Int)), some (.int (b : Int))] cs = .ok (.nx [some (.int (Nat.gcd a b : Nat)), some (.int 0)]) cs
  | 0, b, a, cs, h => by omega
  | n + 1, b, a, cs, h => by
    rw [wh_step]
    have c : ∀ cs, evE (run prg k) prg.tab (.cmp .gt (.var 1) (.int 0)) [some (.int (a : Int)), some (.int (b : Int))] cs = .ok (.bool (decide ((b : Int) > 0))) cs := fun cs => by
      simp -implicitDefEqProofs (disch := (first | assumption | omega | (simp -implicitDefEqProofs only [all_tt, wd_non, wd_bl, wd_int, wd_str, wd_lst, wd_tup, List.all_map, List.all_cons, List.all_nil, List.all_append, Bool.and_true, Bool.and_self, Function.comp_def, List.length_map, List.length_append, List.length_cons, List.length_nil, List.length_range, List.all_eq_true, implies_true, lay_int, lays_ints, lays_nil, lays_cons, List.length_zip, List.length_drop, List.length_take, List.length_range', List.length_reverse, wd_int]; done) | (simp -implicitDefEqProofs only [all_tt, wd_non, wd_bl, wd_int, wd_str, wd_lst, wd_tup, List.all_map, List.all_cons, List.all_nil, List.all_append, Bool.and_true, Bool.and_self, Function.comp_def, List.length_map, List.length_append, List.length_cons, List.length_nil, List.length_range, List.all_eq_true, implies_true, lay_int, lays_ints, lays_nil, lays_cons, List.length_zip, List.length_drop, List.length_take, List.length_range', List.length_reverse, wd_int]; omega))) only [bd_ok, bd_exc, bd_stuck, bd_ite, ret_ok, stk_st, fetch_0, fetch_s, fetchC_0, fetchC_s, tst_bl, eE_var, eE_nev, eE_int, eE_bl, eE_non, eE_str, eE_con, boxR_f, boxR_tw, boxR_e, boxR_ite, eE_disp, eE_tup, eE_bin, eE_neg, eE_not, eE_and, eE_or, eE_one, eE_cmp, eE_chn, eE_ife, eE_call, eE_blt, eE_isi, eE_ix, intPart_i, eE_sl, eE_comp, eE_comp2, comp2L_fl, flR_comp, setTgL_nm, quietL_ok, eE_lrg1, eE_lrg2, eE_rep, eE_lsc, eE_app, eE_pop, eE_popAt, eE_idx, eE_sset, eE_lset, eE_rev, eEs_nil, eEs_cons, eI_seq, eI_rng1, eI_rng2, eI_rng3, eI_zip, eI_enm, seqR_nx, seqR_rt, seqR_exc, seqR_ite, eSs_nil, eSs_cons, eSs_frz, eSs_clr, eS_never, eS_set, eS_setT, eS_par, eS_setI, eS_aug, eS_drop, eS_doc, eS_pass, eS_retN, eS_raise, eS_ret, eS_iff, eS_forS, eS_wh, quiet_ok, quiet_ite, compL_none, compL_some, mapR_comp, mapR_ok, mapR_nil, mapR_cons, fltR_nil, fltR_cons, fltR_comp, fltR_ok, endR_nx, endR_exc, endR_keep, endR_rt, endR_int, endR_bl, endR_non, endR_ite, take_app, List.take_length, f_lt, f_gt, f_le, f_ge, eqv_int, eqv_strs, f_eqi, f_nei, f_is, f_isn, f_isb, isNon_n, isNon_b, isNon_i, isNon_s, isNon_l, isNon_t, not_b, neg_i, add_i, sub_i, len_t, len_l, abs_i, int_i, int_b, tup_t, tup_l, lst_t, lst_l, str_s, sum_l, all_l, any_l, all_nil, lit_l, lit_t, zip_l, zip_t, enm_l, cut_t, cut_l, lstOf_l, mtR_l, isi_n, isi_b, isi_i, isi_s, isi_l, isi_t, eqv_lints, eqv_tints, forL_nil, h_hole, h_var, h_int, h_bl, h_non, h_str, h_con, h_tup, h_disp, h_bin, h_neg, h_not, h_and, h_or, h_one, h_cmp, h_chn, h_ife, h_call, h_blt, h_isi, h_ix, h_sl, wipe_nil, wipe_cons, setAll_nil, setAll_cons, bool_and, bool_or, fitI_i, fitI_n, fitI_b, fitI_s, fitI_l, fitI_t, isT_t, isT_n, isT_b, isT_i, isT_s, isT_l, zallR_t, eSs_zall, free_0, free_s, done_nx, drop_m, take_m, rev_m, app_m, rev_t, rev_l, getC_0, getC_s, getC_aj, getC_a, setC_aj, setC_a, app_c, appR_s, pop_c, popR_s, set_c, setR_s, aug_c, augR_s, aug_i, lst_c, mt_o, mtO_s, slot_0, slot_s, frz_o, frzO_c, frzR_s, ix_ti, ix_li, ix_tl, ix_ll, ix_t0, ix_t1, ix_t2, ix_l0, ix_l1, ix_l2, ix_c, ixO_s, cutL_map, cutL_f, cutL_t, cutL_ft, pairsL_map, enumL_map, rng1N, rng2N, tg1, tg2, tg3, tgO1, tgO2, tgO3, tgF1, tgF2, tgF3, tgT2, tgT3, endO_s, endR_c0, endR_cj, endR_u0, endR_uj, sum_g, sset_gl, sset_gt, lset_gl, lset_gt, max_gl, max_gt, min_gl, min_gt, max_2, min_2, eq_nilL, ne_nilL, eq_nilT, ne_nilT, eq_gl, ne_gl, eq_gt, ne_gt, rngVN, rng3D, in_gl, in_gt, nin_gl, nin_gt, in_pl, in_pt, nin_pl, nin_pt, max_pl, max_pt, min_pl, min_pt, eq_pl, ne_pl, eq_pt, ne_pt, eq_pgl, ne_pgl, eq_gpl, ne_gpl, eq_pgt, ne_pgt, eq_gpt, ne_gpt, isn_b, sset_l, sset_t, lset_l, lset_t, all_tt, any_ff, Int.natCast_nonneg, Int.cast_ofNat_Int, Bool.decide_eq_false, List.length_range', List.isEmpty_nil, List.isEmpty_cons, not_true_eq_false, not_false_eq_true, Bool.true_eq_false, eq_self, Int.reduceToNat, Int.reduceSub, Int.reduceAdd, Int.reduceNeg, Int.reduceLT, Int.reduceLE, Int.reduceMul, Nat.reduceSub, Nat.reduceMul, Int.reduceEq, Int.reduceNe, KH.TI, KH.LI, List.take_zero, List.take_nil, defI, and_true, true_and, and_false, false_and, and_self, List.set_cons_zero, List.set_cons_succ, List.length_cons, List.length_nil, List.length_map, List.length_append, List.length_range, List.cons_append, List.nil_append, List.append_assoc, Nat.zero_add, Int.toNat_natCast, reduceIte, Bool.not_true, Bool.not_false, Bool.false_eq_true, decide_true, decide_false, Bool.true_and, Bool.and_true, Bool.false_and, Bool.and_false, Bool.true_or, Bool.false_or, Bool.or_true, Bool.or_false, Bool.decide_eq_true, decide_eq_true_eq, decide_eq_false_iff_not, decide_not, Bool.not_eq_true', Nat.reduceLeDiff, Nat.reduceAdd, Bool.not_not, Option.toList, tcons, List.take_succ_cons, List.map_id_fun', id_eq, List.map_id', List.isEmpty_map]
    rw [c, bd_ok]
    by_cases hb : 0 < b
    · have hb' : (b : Int) > 0 := by omega
      rw [decide_eq_true hb']
      have m : ∀ cs, Bop.mod.fn (.int (a : Int)) (.int (b : Int)) cs = .ok (.int ((a % b : Nat) : Int)) cs := fun cs => by
        rw [mod_i _ _ _ (by omega), Int.natCast_emod]
      have e : evSs (run prg k) prg.tab b4_f0 [some (.int (a : Int)), some (.int (b : Int))] cs = .ok (.nx [some (.int (b : Int)), some (.int ((a % b : Nat) : Int))]) cs := by
        unfold b4_f0
        simp -implicitDefEqProofs (disch := (first | assumption | omega | (simp -implicitDefEqProofs only [all_tt, wd_non, wd_bl, wd_int, wd_str, wd_lst, wd_tup, List.all_map, List.all_cons, List.all_nil, List.all_append, Bool.and_true, Bool.and_self, Function.comp_def, List.length_map, List.length_append, List.length_cons, List.length_nil, List.length_range, List.all_eq_true, implies_true, lay_int, lays_ints, lays_nil, lays_cons, List.length_zip, List.length_drop, List.length_take, List.length_range', List.length_reverse, wd_int]; done) | (simp -implicitDefEqProofs only [all_tt, wd_non, wd_bl, wd_int, wd_str, wd_lst, wd_tup, List.all_map, List.all_cons, List.all_nil, List.all_append, Bool.and_true, Bool.and_self, Function.comp_def, List.length_map, List.length_append, List.length_cons, List.length_nil, List.length_range, List.all_eq_true, implies_true, lay_int, lays_ints, lays_nil, lays_cons, List.length_zip, List.length_drop, List.length_take, List.length_range', List.length_reverse, wd_int]; omega))) only [bd_ok, bd_exc, bd_stuck, bd_ite, ret_ok, stk_st, fetch_0, fetch_s, fetchC_0, fetchC_s, tst_bl, eE_var, eE_nev, eE_int, eE_bl, eE_non, eE_str, eE_con, boxR_f, boxR_tw, boxR_e, boxR_ite, eE_disp, eE_tup, eE_bin, eE_neg, eE_not, eE_and, eE_or, eE_one, eE_cmp, eE_chn, eE_ife, eE_call, eE_blt, eE_isi, eE_ix, intPart_i, eE_sl, eE_comp, eE_comp2, comp2L_fl, flR_comp, setTgL_nm, quietL_ok, eE_lrg1, eE_lrg2, eE_rep, eE_lsc, eE_app, eE_pop, eE_popAt, eE_idx, eE_sset, eE_lset, eE_rev, eEs_nil, eEs_cons, eI_seq, eI_rng1, eI_rng2, eI_rng3, eI_zip, eI_enm, seqR_nx, seqR_rt, seqR_exc, seqR_ite, eSs_nil, eSs_cons, eSs_frz, eSs_clr, eS_never, eS_set, eS_setT, eS_par, eS_setI, eS_aug, eS_drop, eS_doc, eS_pass, eS_retN, eS_raise, eS_ret, eS_iff, eS_forS, eS_wh, quiet_ok, quiet_ite, compL_none, compL_some, mapR_comp, mapR_ok, mapR_nil, mapR_cons, fltR_nil, fltR_cons, fltR_comp, fltR_ok, endR_nx, endR_exc, endR_keep, endR_rt, endR_int, endR_bl, endR_non, endR_ite, take_app, List.take_length, f_lt, f_gt, f_le, f_ge, eqv_int, eqv_strs, f_eqi, f_nei, f_is, f_isn, f_isb, isNon_n, isNon_b, isNon_i, isNon_s, isNon_l, isNon_t, not_b, neg_i, add_i, sub_i, len_t, len_l, abs_i, int_i, int_b, tup_t, tup_l, lst_t, lst_l, str_s, sum_l, all_l, any_l, all_nil, lit_l, lit_t, zip_l, zip_t, enm_l, cut_t, cut_l, lstOf_l, mtR_l, isi_n, isi_b, isi_i, isi_s, isi_l, isi_t, eqv_lints, eqv_tints, forL_nil, h_hole, h_var, h_int, h_bl, h_non, h_str, h_con, h_tup, h_disp, h_bin, h_neg, h_not, h_and, h_or, h_one, h_cmp, h_chn, h_ife, h_call, h_blt, h_isi, h_ix, h_sl, wipe_nil, wipe_cons, setAll_nil, setAll_cons, bool_and, bool_or, fitI_i, fitI_n, fitI_b, fitI_s, fitI_l, fitI_t, isT_t, isT_n, isT_b, isT_i, isT_s, isT_l, zallR_t, eSs_zall, free_0, free_s, done_nx, drop_m, take_m, rev_m, app_m, rev_t, rev_l, getC_0, getC_s, getC_aj, getC_a, setC_aj, setC_a, app_c, appR_s, pop_c, popR_s, set_c, setR_s, aug_c, augR_s, aug_i, lst_c, mt_o, mtO_s, slot_0, slot_s, frz_o, frzO_c, frzR_s, ix_ti, ix_li, ix_tl, ix_ll, ix_t0, ix_t1, ix_t2, ix_l0, ix_l1, ix_l2, ix_c, ixO_s, cutL_map, cutL_f, cutL_t, cutL_ft, pairsL_map, enumL_map, rng1N, rng2N, tg1, tg2, tg3, tgO1, tgO2, tgO3, tgF1, tgF2, tgF3, tgT2, tgT3, endO_s, endR_c0, endR_cj, endR_u0, endR_uj, sum_g, sset_gl, sset_gt, lset_gl, lset_gt, max_gl, max_gt, min_gl, min_gt, max_2, min_2, eq_nilL, ne_nilL, eq_nilT, ne_nilT, eq_gl, ne_gl, eq_gt, ne_gt, rngVN, rng3D, in_gl, in_gt, nin_gl, nin_gt, in_pl, in_pt, nin_pl, nin_pt, max_pl, max_pt, min_pl, min_pt, eq_pl, ne_pl, eq_pt, ne_pt, eq_pgl, ne_pgl, eq_gpl, ne_gpl, eq_pgt, ne_pgt, eq_gpt, ne_gpt, isn_b, sset_l, sset_t, lset_l, lset_t, all_tt, any_ff, Int.natCast_nonneg, Int.cast_ofNat_Int, Bool.decide_eq_false, List.length_range', List.isEmpty_nil, List.isEmpty_cons, not_true_eq_false, not_false_eq_true, Bool.true_eq_false, eq_self, Int.reduceToNat, Int.reduceSub, Int.reduceAdd, Int.reduceNeg, Int.reduceLT, Int.reduceLE, Int.reduceMul, Nat.reduceSub, Nat.reduceMul, Int.reduceEq, Int.reduceNe, KH.TI, KH.LI, List.take_zero, List.take_nil, defI, and_true, true_and, and_false, false_and, and_self, List.set_cons_zero, List.set_cons_succ, List.length_cons, List.length_nil, List.length_map, List.length_append, List.length_range, List.cons_append, List.nil_append, List.append_assoc, Nat.zero_add, Int.toNat_natCast, reduceIte, Bool.not_true, Bool.not_false, Bool.false_eq_true, decide_true, decide_false, Bool.true_and, Bool.and_true, Bool.false_and, Bool.and_false, Bool.true_or, Bool.false_or, Bool.or_true, Bool.or_false, Bool.decide_eq_true, decide_eq_true_eq, decide_eq_false_iff_not, decide_not, Bool.not_eq_true', Nat.reduceLeDiff, Nat.reduceAdd, Bool.not_not, Option.toList, tcons, List.take_succ_cons, List.map_id_fun', id_eq, List.map_id', List.isEmpty_map, m]
      show seqR (evSs (run prg k) prg.tab b4_f0 [some (.int (a : Int)), some (.int (b : Int))] cs) _ = _
      rw [e, seqR_nx, euc k n (a % b) b cs (by have := Nat.mod_lt a hb; omega), Nat.gcd_comm a b, Nat.gcd_rec b a, Nat.gcd_comm b (a % b)]
    · have hb' : ¬ (b : Int) > 0 := by omega
      have b0 : b = 0 := by omega
      subst b0
      rw [decide_eq_false hb', Nat.gcd_zero_right]
      rfl
theorem dvo (k : Nat) (a b : Nat) (h : b < 1000) (cs : CS) : run prg (k + 1) 4 [.int (a : Int), .int (b : Int)] cs = .ok (.int (Nat.gcd a b : Nat)) cs := by
  have e := euc k 1000 b a cs h
  rw [r_divisor_in]
  unfold b4
  simp -implicitDefEqProofs (disch := (first | assumption | omega | (simp -implicitDefEqProofs only [all_tt, wd_non, wd_bl, wd_int, wd_str, wd_lst, wd_tup, List.all_map, List.all_cons, List.all_nil, List.all_append, Bool.and_true, Bool.and_self, Function.comp_def, List.length_map, List.length_append, List.length_cons, List.length_nil, List.length_range, List.all_eq_true, implies_true, lay_int, lays_ints, lays_nil, lays_cons, List.length_zip, List.length_drop, List.length_take, List.length_range', List.length_reverse, wd_int]; done) | (simp -implicitDefEqProofs only [all_tt, wd_non, wd_bl, wd_int, wd_str, wd_lst, wd_tup, List.all_map, List.all_cons, List.all_nil, List.all_append, Bool.and_true, Bool.and_self, Function.comp_def, List.length_map, List.length_append, List.length_cons, List.length_nil, List.length_range, List.all_eq_true, implies_true, lay_int, lays_ints, lays_nil, lays_cons, List.length_zip, List.length_drop, List.length_take, List.length_range', List.length_reverse, wd_int]; omega))) only [bd_ok, bd_exc, bd_stuck, bd_ite, ret_ok, stk_st, fetch_0, fetch_s, fetchC_0, fetchC_s, tst_bl, eE_var, eE_nev, eE_int, eE_bl, eE_non, eE_str, eE_con, boxR_f, boxR_tw, boxR_e, boxR_ite, eE_disp, eE_tup, eE_bin, eE_neg, eE_not, eE_and, eE_or, eE_one, eE_cmp, eE_chn, eE_ife, eE_call, eE_blt, eE_isi, eE_ix, intPart_i, eE_sl, eE_comp, eE_comp2, comp2L_fl, flR_comp, setTgL_nm, quietL_ok, eE_lrg1, eE_lrg2, eE_rep, eE_lsc, eE_app, eE_pop, eE_popAt, eE_idx, eE_sset, eE_lset, eE_rev, eEs_nil, eEs_cons, eI_seq, eI_rng1, eI_rng2, eI_rng3, eI_zip, eI_enm, seqR_nx, seqR_rt, seqR_exc, seqR_ite, eSs_nil, eSs_cons, eSs_frz, eSs_clr, eS_never, eS_set, eS_setT, eS_par, eS_setI, eS_aug, eS_drop, eS_doc, eS_pass, eS_retN, eS_raise, eS_ret, eS_iff, eS_forS, eS_wh, quiet_ok, quiet_ite, compL_none, compL_some, mapR_comp, mapR_ok, mapR_nil, mapR_cons, fltR_nil, fltR_cons, fltR_comp, fltR_ok, endR_nx, endR_exc, endR_keep, endR_rt, endR_int, endR_bl, endR_non, endR_ite, take_app, List.take_length, f_lt, f_gt, f_le, f_ge, eqv_int, eqv_strs, f_eqi, f_nei, f_is, f_isn, f_isb, isNon_n, isNon_b, isNon_i, isNon_s, isNon_l, isNon_t, not_b, neg_i, add_i, sub_i, len_t, len_l, abs_i, int_i, int_b, tup_t, tup_l, lst_t, lst_l, str_s, sum_l, all_l, any_l, all_nil, lit_l, lit_t, zip_l, zip_t, enm_l, cut_t, cut_l, lstOf_l, mtR_l, isi_n, isi_b, isi_i, isi_s, isi_l, isi_t, eqv_lints, eqv_tints, forL_nil, h_hole, h_var, h_int, h_bl, h_non, h_str, h_con, h_tup, h_disp, h_bin, h_neg, h_not, h_and, h_or, h_one, h_cmp, h_chn, h_ife, h_call, h_blt, h_isi, h_ix, h_sl, wipe_nil, wipe_cons, setAll_nil, setAll_cons, bool_and, bool_or, fitI_i, fitI_n, fitI_b, fitI_s, fitI_l, fitI_t, isT_t, isT_n, isT_b, isT_i, isT_s, isT_l, zallR_t, eSs_zall, free_0, free_s, done_nx, drop_m, take_m, rev_m, app_m, rev_t, rev_l, getC_0, getC_s, getC_aj, getC_a, setC_aj, setC_a, app_c, appR_s, pop_c, popR_s, set_c, setR_s, aug_c, augR_s, aug_i, lst_c, mt_o, mtO_s, slot_0, slot_s, frz_o, frzO_c, frzR_s, ix_ti, ix_li, ix_tl, ix_ll, ix_t0, ix_t1, ix_t2, ix_l0, ix_l1, ix_l2, ix_c, ixO_s, cutL_map, cutL_f, cutL_t, cutL_ft, pairsL_map, enumL_map, rng1N, rng2N, tg1, tg2, tg3, tgO1, tgO2, tgO3, tgF1, tgF2, tgF3, tgT2, tgT3, endO_s, endR_c0, endR_cj, endR_u0, endR_uj, sum_g, sset_gl, sset_gt, lset_gl, lset_gt, max_gl, max_gt, min_gl, min_gt, max_2, min_2, eq_nilL, ne_nilL, eq_nilT, ne_nilT, eq_gl, ne_gl, eq_gt, ne_gt, rngVN, rng3D, in_gl, in_gt, nin_gl, nin_gt, in_pl, in_pt, nin_pl, nin_pt, max_pl, max_pt, min_pl, min_pt, eq_pl, ne_pl, eq_pt, ne_pt, eq_pgl, ne_pgl, eq_gpl, ne_gpl, eq_pgt, ne_pgt, eq_gpt, ne_gpt, isn_b, sset_l, sset_t, lset_l, lset_t, all_tt, any_ff, Int.natCast_nonneg, Int.cast_ofNat_Int, Bool.decide_eq_false, List.length_range', List.isEmpty_nil, List.isEmpty_cons, not_true_eq_false, not_false_eq_true, Bool.true_eq_false, eq_self, Int.reduceToNat, Int.reduceSub, Int.reduceAdd, Int.reduceNeg, Int.reduceLT, Int.reduceLE, Int.reduceMul, Nat.reduceSub, Nat.reduceMul, Int.reduceEq, Int.reduceNe, KH.TI, KH.LI, List.take_zero, List.take_nil, defI, and_true, true_and, and_false, false_and, and_self, List.set_cons_zero, List.set_cons_succ, List.length_cons, List.length_nil, List.length_map, List.length_append, List.length_range, List.cons_append, List.nil_append, List.append_assoc, Nat.zero_add, Int.toNat_natCast, reduceIte, Bool.not_true, Bool.not_false, Bool.false_eq_true, decide_true, decide_false, Bool.true_and, Bool.and_true, Bool.false_and, Bool.and_false, Bool.true_or, Bool.false_or, Bool.or_true, Bool.or_false, Bool.decide_eq_true, decide_eq_true_eq, decide_eq_false_iff_not, decide_not, Bool.not_eq_true', Nat.reduceLeDiff, Nat.reduceAdd, Bool.not_not, Option.toList, tcons, List.take_succ_cons, List.map_id_fun', id_eq, List.map_id', List.isEmpty_map, e]
theorem cpo (k : Nat) (c : Nat) (A B : List Int) (gA : HitsT c A) (gB : HitsT c B) (cs : CS) : run prg (k + 6) 18 [.int (c : Int), TI A, TI B] cs = .ok (.int (Nat.gcd (per c A) (per c B) : Nat)) cs := by
  have e1 := fun cs => hpo k c A gA cs
  have e2 := fun cs => hpo k c B gB cs
  obtain ⟨-, -, -, -, h⟩ := pl_cons gB.h gB.c0
  have h1 := gB.c1
  have e3 := fun cs => dvo (k + 4) (per c A) (per c B) (by omega) cs
  rw [r_common_period]
  unfold b18
  simp -implicitDefEqProofs (disch := (first | assumption | omega | (simp -implicitDefEqProofs only [all_tt, wd_non, wd_bl, wd_int, wd_str, wd_lst, wd_tup, List.all_map, List.all_cons, List.all_nil, List.all_append, Bool.and_true, Bool.and_self, Function.comp_def, List.length_map, List.length_append, List.length_cons, List.length_nil, List.length_range, List.all_eq_true, implies_true, lay_int, lays_ints, lays_nil, lays_cons, List.length_zip, List.length_drop, List.length_take, List.length_range', List.length_reverse, wd_int]; done) | (simp -implicitDefEqProofs only [all_tt, wd_non, wd_bl, wd_int, wd_str, wd_lst, wd_tup, List.all_map, List.all_cons, List.all_nil, List.all_append, Bool.and_true, Bool.and_self, Function.comp_def, List.length_map, List.length_append, List.length_cons, List.length_nil, List.length_range, List.all_eq_true, implies_true, lay_int, lays_ints, lays_nil, lays_cons, List.length_zip, List.length_drop, List.length_take, List.length_range', List.length_reverse, wd_int]; omega))) only [bd_ok, bd_exc, bd_stuck, bd_ite, ret_ok, stk_st, fetch_0, fetch_s, fetchC_0, fetchC_s, tst_bl, eE_var, eE_nev, eE_int, eE_bl, eE_non, eE_str, eE_con, boxR_f, boxR_tw, boxR_e, boxR_ite, eE_disp, eE_tup, eE_bin, eE_neg, eE_not, eE_and, eE_or, eE_one, eE_cmp, eE_chn, eE_ife, eE_call, eE_blt, eE_isi, eE_ix, intPart_i, eE_sl, eE_comp, eE_comp2, comp2L_fl, flR_comp, setTgL_nm, quietL_ok, eE_lrg1, eE_lrg2, eE_rep, eE_lsc, eE_app, eE_pop, eE_popAt, eE_idx, eE_sset, eE_lset, eE_rev, eEs_nil, eEs_cons, eI_seq, eI_rng1, eI_rng2, eI_rng3, eI_zip, eI_enm, seqR_nx, seqR_rt, seqR_exc, seqR_ite, eSs_nil, eSs_cons, eSs_frz, eSs_clr, eS_never, eS_set, eS_setT, eS_par, eS_setI, eS_aug, eS_drop, eS_doc, eS_pass, eS_retN, eS_raise, eS_ret, eS_iff, eS_forS, eS_wh, quiet_ok, quiet_ite, compL_none, compL_some, mapR_comp, mapR_ok, mapR_nil, mapR_cons, fltR_nil, fltR_cons, fltR_comp, fltR_ok, endR_nx, endR_exc, endR_keep, endR_rt, endR_int, endR_bl, endR_non, endR_ite, take_app, List.take_length, f_lt, f_gt, f_le, f_ge, eqv_int, eqv_strs, f_eqi, f_nei, f_is, f_isn, f_isb, isNon_n, isNon_b, isNon_i, isNon_s, isNon_l, isNon_t, not_b, neg_i, add_i, sub_i, len_t, len_l, abs_i, int_i, int_b, tup_t, tup_l, lst_t, lst_l, str_s, sum_l, all_l, any_l, all_nil, lit_l, lit_t, zip_l, zip_t, enm_l, cut_t, cut_l, lstOf_l, mtR_l, isi_n, isi_b, isi_i, isi_s, isi_l, isi_t, eqv_lints, eqv_tints, forL_nil, h_hole, h_var, h_int, h_bl, h_non, h_str, h_con, h_tup, h_disp, h_bin, h_neg, h_not, h_and, h_or, h_one, h_cmp, h_chn, h_ife, h_call, h_blt, h_isi, h_ix, h_sl, wipe_nil, wipe_cons, setAll_nil, setAll_cons, bool_and, bool_or, fitI_i, fitI_n, fitI_b, fitI_s, fitI_l, fitI_t, isT_t, isT_n, isT_b, isT_i, isT_s, isT_l, zallR_t, eSs_zall, free_0, free_s, done_nx, drop_m, take_m, rev_m, app_m, rev_t, rev_l, getC_0, getC_s, getC_aj, getC_a, setC_aj, setC_a, app_c, appR_s, pop_c, popR_s, set_c, setR_s, aug_c, augR_s, aug_i, lst_c, mt_o, mtO_s, slot_0, slot_s, frz_o, frzO_c, frzR_s, ix_ti, ix_li, ix_tl, ix_ll, ix_t0, ix_t1, ix_t2, ix_l0, ix_l1, ix_l2, ix_c, ixO_s, cutL_map, cutL_f, cutL_t, cutL_ft, pairsL_map, enumL_map, rng1N, rng2N, tg1, tg2, tg3, tgO1, tgO2, tgO3, tgF1, tgF2, tgF3, tgT2, tgT3, endO_s, endR_c0, endR_cj, endR_u0, endR_uj, sum_g, sset_gl, sset_gt, lset_gl, lset_gt, max_gl, max_gt, min_gl, min_gt, max_2, min_2, eq_nilL, ne_nilL, eq_nilT, ne_nilT, eq_gl, ne_gl, eq_gt, ne_gt, rngVN, rng3D, in_gl, in_gt, nin_gl, nin_gt, in_pl, in_pt, nin_pl, nin_pt, max_pl, max_pt, min_pl, min_pt, eq_pl, ne_pl, eq_pt, ne_pt, eq_pgl, ne_pgl, eq_gpl, ne_gpl, eq_pgt, ne_pgt, eq_gpt, ne_gpt, isn_b, sset_l, sset_t, lset_l, lset_t, all_tt, any_ff, Int.natCast_nonneg, Int.cast_ofNat_Int, Bool.decide_eq_false, List.length_range', List.isEmpty_nil, List.isEmpty_cons, not_true_eq_false, not_false_eq_true, Bool.true_eq_false, eq_self, Int.reduceToNat, Int.reduceSub, Int.reduceAdd, Int.reduceNeg, Int.reduceLT, Int.reduceLE, Int.reduceMul, Nat.reduceSub, Nat.reduceMul, Int.reduceEq, Int.reduceNe, KH.TI, KH.LI, List.take_zero, List.take_nil, defI, and_true, true_and, and_false, false_and, and_self, List.set_cons_zero, List.set_cons_succ, List.length_cons, List.length_nil, List.length_map, List.length_append, List.length_range, List.cons_append, List.nil_append, List.append_assoc, Nat.zero_add, Int.toNat_natCast, reduceIte, Bool.not_true, Bool.not_false, Bool.false_eq_true, decide_true, decide_false, Bool.true_and, Bool.and_true, Bool.false_and, Bool.and_false, Bool.true_or, Bool.false_or, Bool.or_true, Bool.or_false, Bool.decide_eq_true, decide_eq_true_eq, decide_eq_false_iff_not, decide_not, Bool.not_eq_true', Nat.reduceLeDiff, Nat.reduceAdd, Bool.not_not, Option.toList, tcons, List.take_succ_cons, List.map_id_fun', id_eq, List.map_id', List.isEmpty_map, e1, e2, e3]

theorem lf0 (k : Nat) (c : Nat) (A own : List Int) (h : HitsT c A) (hn : own ≠ []) (hl : own.length ≤ 100) (b0 : 0 ≤ own.getLastD 0) (x2 x3 x4 : Option D) (acc : List D) (ha : acc.length + 30 ≤ 16000000) (cs : CS) :
    forL (.nm 7) (evSs (run prg (k + 1)) prg.tab b27_f0) ((List.range' ((own.getLastD 0) + 1).toNat (c - ((own.getLastD 0) + 1).toNat)).map fun (i : Nat) => .int (i : Int)) [some (.int (c : Int)), some (TI A), x2, x3, x4, some (.list acc), some (.tuple (own.map .int)), none] cs =
      .ok (.nx [some (.int (c : Int)), some (TI A), x2, x3, x4, some (.list (acc ++ (((List.range' ((own.getLastD 0) + 1).toNat (c - ((own.getLastD 0) + 1).toNat)).filter fun (t : Nat) => decide (maxL (cntL c A (own ++ [(t : Int)])) = 1)).map fun (t : Nat) => own ++ [(t : Int)]).map tupI)), some (.tuple (own.map .int)), none]) cs := by
  have hc := h.c0
  have hc1 := h.c1
  have := for_cat (tg := .nm 7) (body := evSs (run prg (k + 1)) prg.tab b27_f0) (fun (i : Nat) => .int (i : Int)) (fun acc => [some (.int (c : Int)), some (TI A), x2, x3, x4, some (.list acc), some (.tuple (own.map .int)), none]) (fun _ => cs) 1 (fun t => if decide (maxL (cntL c A (own ++ [(t : Int)])) = 1) = true then [tupI (own ++ [(t : Int)])] else []) (List.range' ((own.getLastD 0) + 1).toNat (c - ((own.getLastD 0) + 1).toNat)) acc (by rw [List.length_range']; omega) fun t ht acc hacc => by
    refine ⟨by split <;> simp, ?_⟩
    have ad : ∀ cs, Bop.add.fn (.tuple (own.map .int)) (.tuple [.int (t : Int)]) cs = .ok (.tuple ((own ++ [(t : Int)]).map .int)) cs := fun cs => by
      rw [add_t _ _ _ (by simp; omega)]
      simp
    have e := fun cs => lho k c A (own ++ [(t : Int)]) hc hc1 (by simp; omega) cs
    have l0 : 0 < (cntL c A (own ++ [(t : Int)])).length := by rw [cntL_len]; exact hc
    have mx := fun cs => max_pl cs (cntL c A (own ++ [(t : Int)])) l0
    generalize own ++ [(t : Int)] = own2 at *
    have ac : ∀ (z : D) cs, Bop.add.fn (.list acc) (.list [z]) cs = .ok (.list (acc ++ [z])) cs := fun z cs => add_l _ _ _ (by simp; omega)
    have an : ∀ cs, Bop.add.fn (.list acc) (.list []) cs = .ok (.list acc) cs := fun cs => by rw [add_l _ _ _ (by simp; omega), List.append_nil]
    unfold b27_f0
    by_cases q : maxL (cntL c A own2) = 1
    · simp -implicitDefEqProofs (disch := (first | assumption | omega | (simp -implicitDefEqProofs only [all_tt, wd_non, wd_bl, wd_int, wd_str, wd_lst, wd_tup, List.all_map, List.all_cons, List.all_nil, List.all_append, Bool.and_true, Bool.and_self, Function.comp_def, List.length_map, List.length_append, List.length_cons, List.length_nil, List.length_range, List.all_eq_true, implies_true, lay_int, lays_ints, lays_nil, lays_cons, List.length_zip, List.length_drop, List.length_take, List.length_range', List.length_reverse, wd_int]; done) | (simp -implicitDefEqProofs only [all_tt, wd_non, wd_bl, wd_int, wd_str, wd_lst, wd_tup, List.all_map, List.all_cons, List.all_nil, List.all_append, Bool.and_true, Bool.and_self, Function.comp_def, List.length_map, List.length_append, List.length_cons, List.length_nil, List.length_range, List.all_eq_true, implies_true, lay_int, lays_ints, lays_nil, lays_cons, List.length_zip, List.length_drop, List.length_take, List.length_range', List.length_reverse, wd_int]; omega))) only [bd_ok, bd_exc, bd_stuck, bd_ite, ret_ok, stk_st, fetch_0, fetch_s, fetchC_0, fetchC_s, tst_bl, eE_var, eE_nev, eE_int, eE_bl, eE_non, eE_str, eE_con, boxR_f, boxR_tw, boxR_e, boxR_ite, eE_disp, eE_tup, eE_bin, eE_neg, eE_not, eE_and, eE_or, eE_one, eE_cmp, eE_chn, eE_ife, eE_call, eE_blt, eE_isi, eE_ix, intPart_i, eE_sl, eE_comp, eE_comp2, comp2L_fl, flR_comp, setTgL_nm, quietL_ok, eE_lrg1, eE_lrg2, eE_rep, eE_lsc, eE_app, eE_pop, eE_popAt, eE_idx, eE_sset, eE_lset, eE_rev, eEs_nil, eEs_cons, eI_seq, eI_rng1, eI_rng2, eI_rng3, eI_zip, eI_enm, seqR_nx, seqR_rt, seqR_exc, seqR_ite, eSs_nil, eSs_cons, eSs_frz, eSs_clr, eS_never, eS_set, eS_setT, eS_par, eS_setI, eS_aug, eS_drop, eS_doc, eS_pass, eS_retN, eS_raise, eS_ret, eS_iff, eS_forS, eS_wh, quiet_ok, quiet_ite, compL_none, compL_some, mapR_comp, mapR_ok, mapR_nil, mapR_cons, fltR_nil, fltR_cons, fltR_comp, fltR_ok, endR_nx, endR_exc, endR_keep, endR_rt, endR_int, endR_bl, endR_non, endR_ite, take_app, List.take_length, f_lt, f_gt, f_le, f_ge, eqv_int, eqv_strs, f_eqi, f_nei, f_is, f_isn, f_isb, isNon_n, isNon_b, isNon_i, isNon_s, isNon_l, isNon_t, not_b, neg_i, add_i, sub_i, len_t, len_l, abs_i, int_i, int_b, tup_t, tup_l, lst_t, lst_l, str_s, sum_l, all_l, any_l, all_nil, lit_l, lit_t, zip_l, zip_t, enm_l, cut_t, cut_l, lstOf_l, mtR_l, isi_n, isi_b, isi_i, isi_s, isi_l, isi_t, eqv_lints, eqv_tints, forL_nil, h_hole, h_var, h_int, h_bl, h_non, h_str, h_con, h_tup, h_disp, h_bin, h_neg, h_not, h_and, h_or, h_one, h_cmp, h_chn, h_ife, h_call, h_blt, h_isi, h_ix, h_sl, wipe_nil, wipe_cons, setAll_nil, setAll_cons, bool_and, bool_or, fitI_i, fitI_n, fitI_b, fitI_s, fitI_l, fitI_t, isT_t, isT_n, isT_b, isT_i, isT_s, isT_l, zallR_t, eSs_zall, free_0, free_s, done_nx, drop_m, take_m, rev_m, app_m, rev_t, rev_l, getC_0, getC_s, getC_aj, getC_a, setC_aj, setC_a, app_c, appR_s, pop_c, popR_s, set_c, setR_s, aug_c, augR_s, aug_i, lst_c, mt_o, mtO_s, slot_0, slot_s, frz_o, frzO_c, frzR_s, ix_ti, ix_li, ix_tl, ix_ll, ix_t0, ix_t1, ix_t2, ix_l0, ix_l1, ix_l2, ix_c, ixO_s, cutL_map, cutL_f, cutL_t, cutL_ft, pairsL_map, enumL_map, rng1N, rng2N, tg1, tg2, tg3, tgO1, tgO2, tgO3, tgF1, tgF2, tgF3, tgT2, tgT3, endO_s, endR_c0, endR_cj, endR_u0, endR_uj, sum_g, sset_gl, sset_gt, lset_gl, lset_gt, max_gl, max_gt, min_gl, min_gt, max_2, min_2, eq_nilL, ne_nilL, eq_nilT, ne_nilT, eq_gl, ne_gl, eq_gt, ne_gt, rngVN, rng3D, in_gl, in_gt, nin_gl, nin_gt, in_pl, in_pt, nin_pl, nin_pt, max_pl, max_pt, min_pl, min_pt, eq_pl, ne_pl, eq_pt, ne_pt, eq_pgl, ne_pgl, eq_gpl, ne_gpl, eq_pgt, ne_pgt, eq_gpt, ne_gpt, isn_b, sset_l, sset_t, lset_l, lset_t, all_tt, any_ff, Int.natCast_nonneg, Int.cast_ofNat_Int, Bool.decide_eq_false, List.length_range', List.isEmpty_nil, List.isEmpty_cons, not_true_eq_false, not_false_eq_true, Bool.true_eq_false, eq_self, Int.reduceToNat, Int.reduceSub, Int.reduceAdd, Int.reduceNeg, Int.reduceLT, Int.reduceLE, Int.reduceMul, Nat.reduceSub, Nat.reduceMul, Int.reduceEq, Int.reduceNe, KH.TI, KH.LI, List.take_zero, List.take_nil, defI, and_true, true_and, and_false, false_and, and_self, List.set_cons_zero, List.set_cons_succ, List.length_cons, List.length_nil, List.length_map, List.length_append, List.length_range, List.cons_append, List.nil_append, List.append_assoc, Nat.zero_add, Int.toNat_natCast, reduceIte, Bool.not_true, Bool.not_false, Bool.false_eq_true, decide_true, decide_false, Bool.true_and, Bool.and_true, Bool.false_and, Bool.and_false, Bool.true_or, Bool.false_or, Bool.or_true, Bool.or_false, Bool.decide_eq_true, decide_eq_true_eq, decide_eq_false_iff_not, decide_not, Bool.not_eq_true', Nat.reduceLeDiff, Nat.reduceAdd, Bool.not_not, Option.toList, tcons, List.take_succ_cons, List.map_id_fun', id_eq, List.map_id', List.isEmpty_map, ad, e, mx, q, ac, an]
    · simp -implicitDefEqProofs (disch := (first | assumption | omega | (simp -implicitDefEqProofs only [all_tt, wd_non, wd_bl, wd_int, wd_str, wd_lst, wd_tup, List.all_map, List.all_cons, List.all_nil, List.all_append, Bool.and_true, Bool.and_self, Function.comp_def, List.length_map, List.length_append, List.length_cons, List.length_nil, List.length_range, List.all_eq_true, implies_true, lay_int, lays_ints, lays_nil, lays_cons, List.length_zip, List.length_drop, List.length_take, List.length_range', List.length_reverse, wd_int]; done) | (simp -implicitDefEqProofs only [all_tt, wd_non, wd_bl, wd_int, wd_str, wd_lst, wd_tup, List.all_map, List.all_cons, List.all_nil, List.all_append, Bool.and_true, Bool.and_self, Function.comp_def, List.length_map, List.length_append, List.length_cons, List.length_nil, List.length_range, List.all_eq_true, implies_true, lay_int, lays_ints, lays_nil, lays_cons, List.length_zip, List.length_drop, List.length_take, List.length_range', List.length_reverse, wd_int]; omega))) only [bd_ok, bd_exc, bd_stuck, bd_ite, ret_ok, stk_st, fetch_0, fetch_s, fetchC_0, fetchC_s, tst_bl, eE_var, eE_nev, eE_int, eE_bl, eE_non, eE_str, eE_con, boxR_f, boxR_tw, boxR_e, boxR_ite, eE_disp, eE_tup, eE_bin, eE_neg, eE_not, eE_and, eE_or, eE_one, eE_cmp, eE_chn, eE_ife, eE_call, eE_blt, eE_isi, eE_ix, intPart_i, eE_sl, eE_comp, eE_comp2, comp2L_fl, flR_comp, setTgL_nm, quietL_ok, eE_lrg1, eE_lrg2, eE_rep, eE_lsc, eE_app, eE_pop, eE_popAt, eE_idx, eE_sset, eE_lset, eE_rev, eEs_nil, eEs_cons, eI_seq, eI_rng1, eI_rng2, eI_rng3, eI_zip, eI_enm, seqR_nx, seqR_rt, seqR_exc, seqR_ite, eSs_nil, eSs_cons, eSs_frz, eSs_clr, eS_never, eS_set, eS_setT, eS_par, eS_setI, eS_aug, eS_drop, eS_doc, eS_pass, eS_retN, eS_raise, eS_ret, eS_iff, eS_forS, eS_wh, quiet_ok, quiet_ite, compL_none, compL_some, mapR_comp, mapR_ok, mapR_nil, mapR_cons, fltR_nil, fltR_cons, fltR_comp, fltR_ok, endR_nx, endR_exc, endR_keep, endR_rt, endR_int, endR_bl, endR_non, endR_ite, take_app, List.take_length, f_lt, f_gt, f_le, f_ge, eqv_int, eqv_strs, f_eqi, f_nei, f_is, f_isn, f_isb, isNon_n, isNon_b, isNon_i, isNon_s, isNon_l, isNon_t, not_b, neg_i, add_i, sub_i, len_t, len_l, abs_i, int_i, int_b, tup_t, tup_l, lst_t, lst_l, str_s, sum_l, all_l, any_l, all_nil, lit_l, lit_t, zip_l, zip_t, enm_l, cut_t, cut_l, lstOf_l, mtR_l, isi_n, isi_b, isi_i, isi_s, isi_l, isi_t, eqv_lints, eqv_tints, forL_nil, h_hole, h_var, h_int, h_bl, h_non, h_str, h_con, h_tup, h_disp, h_bin, h_neg, h_not, h_and, h_or, h_one, h_cmp, h_chn, h_ife, h_call, h_blt, h_isi, h_ix, h_sl, wipe_nil, wipe_cons, setAll_nil, setAll_cons, bool_and, bool_or, fitI_i, fitI_n, fitI_b, fitI_s, fitI_l, fitI_t, isT_t, isT_n, isT_b, isT_i, isT_s, isT_l, zallR_t, eSs_zall, free_0, free_s, done_nx, drop_m, take_m, rev_m, app_m, rev_t, rev_l, getC_0, getC_s, getC_aj, getC_a, setC_aj, setC_a, app_c, appR_s, pop_c, popR_s, set_c, setR_s, aug_c, augR_s, aug_i, lst_c, mt_o, mtO_s, slot_0, slot_s, frz_o, frzO_c, frzR_s, ix_ti, ix_li, ix_tl, ix_ll, ix_t0, ix_t1, ix_t2, ix_l0, ix_l1, ix_l2, ix_c, ixO_s, cutL_map, cutL_f, cutL_t, cutL_ft, pairsL_map, enumL_map, rng1N, rng2N, tg1, tg2, tg3, tgO1, tgO2, tgO3, tgF1, tgF2, tgF3, tgT2, tgT3, endO_s, endR_c0, endR_cj, endR_u0, endR_uj, sum_g, sset_gl, sset_gt, lset_gl, lset_gt, max_gl, max_gt, min_gl, min_gt, max_2, min_2, eq_nilL, ne_nilL, eq_nilT, ne_nilT, eq_gl, ne_gl, eq_gt, ne_gt, rngVN, rng3D, in_gl, in_gt, nin_gl, nin_gt, in_pl, in_pt, nin_pl, nin_pt, max_pl, max_pt, min_pl, min_pt, eq_pl, ne_pl, eq_pt, ne_pt, eq_pgl, ne_pgl, eq_gpl, ne_gpl, eq_pgt, ne_pgt, eq_gpt, ne_gpt, isn_b, sset_l, sset_t, lset_l, lset_t, all_tt, any_ff, Int.natCast_nonneg, Int.cast_ofNat_Int, Bool.decide_eq_false, List.length_range', List.isEmpty_nil, List.isEmpty_cons, not_true_eq_false, not_false_eq_true, Bool.true_eq_false, eq_self, Int.reduceToNat, Int.reduceSub, Int.reduceAdd, Int.reduceNeg, Int.reduceLT, Int.reduceLE, Int.reduceMul, Nat.reduceSub, Nat.reduceMul, Int.reduceEq, Int.reduceNe, KH.TI, KH.LI, List.take_zero, List.take_nil, defI, and_true, true_and, and_false, false_and, and_self, List.set_cons_zero, List.set_cons_succ, List.length_cons, List.length_nil, List.length_map, List.length_append, List.length_range, List.cons_append, List.nil_append, List.append_assoc, Nat.zero_add, Int.toNat_natCast, reduceIte, Bool.not_true, Bool.not_false, Bool.false_eq_true, decide_true, decide_false, Bool.true_and, Bool.and_true, Bool.false_and, Bool.and_false, Bool.true_or, Bool.false_or, Bool.or_true, Bool.or_false, Bool.decide_eq_true, decide_eq_true_eq, decide_eq_false_iff_not, decide_not, Bool.not_eq_true', Nat.reduceLeDiff, Nat.reduceAdd, Bool.not_not, Option.toList, tcons, List.take_succ_cons, List.map_id_fun', id_eq, List.map_id', List.isEmpty_map, ad, e, mx, q, ac, an, List.append_nil]
  rw [this, flt_fm, List.map_map]
  rfl

end KP

namespace KP
open PySem PySem.Spec PyProof.Rows L2 KH
abbrev kds (c : Nat) (A own : List Int) : List (List Int) := ((List.range' ((own.getLastD 0) + 1).toNat (c - ((own.getLastD 0) + 1).toNat)).filter fun (t : Nat) => decide (maxL (cntL c A (own ++ [(t : Int)])) = 1)).map fun (t : Nat) => own ++ [(t : Int)]
theorem kds_len (c : Nat) (A own : List Int) : (kds c A own).length ≤ c := by
  rw [List.length_map]
  exact Nat.le_trans (List.length_filter_le _ _) (by rw [List.length_range']; omega)
theorem lf1 (k : Nat) (c : Nat) (A : List Int) (h : HitsT c A) (hc2 : c ≤ 12) (s : Nat) (x2 x3 x4 : Option D) (cs : CS) :
    forL (.nm 6) (evSs (run prg (k + 1)) prg.tab b27_f1) ((LFs c A s).map tupI) [some (.int (c : Int)), some (TI A), x2, x3, x4, some (.list []), none, none] cs =
      .ok (.nx [some (.int (c : Int)), some (TI A), x2, x3, x4, some (.list ((LFs c A (s + 1)).map tupI)), none, none]) cs := by
  have ln := lfs_len h.h h.c0 hc2 s
  have := for_cat (tg := .nm 6) (body := evSs (run prg (k + 1)) prg.tab b27_f1) tupI (fun acc => [some (.int (c : Int)), some (TI A), x2, x3, x4, some (.list acc), none, none]) (fun _ => cs) 100 (fun own => (kds c A own).map tupI) (LFs c A s) [] (by simp; omega) fun own ho acc hacc => by
    have o := (lfs_mem h.h h.c0 s own).mp ho
    obtain ⟨hn, h0, h1⟩ := own_last o
    have kl := kds_len c A own
    refine ⟨by rw [List.length_map]; omega, ?_⟩
    have ol : own.length ≤ 100 := by
      have := nodup_le (n := own) (B := (List.range c).map fun (i : Nat) => (i : Int)) (o.lt.imp fun h => by omega) fun x hx => by
        have := o.bd x hx
        exact List.mem_map.mpr ⟨x.toNat, List.mem_range.mpr (by omega), by omega⟩
      simp at this
      omega
    have e0 := lf0 k c A own h hn ol h0 x2 x3 x4 acc (by omega) cs
    have ix : ∀ cs, ixD (.tuple (own.map .int)) (.int (-1)) cs = .ok (.int (own.getLastD 0)) cs := fun cs => by
      obtain ⟨m, z, rfl⟩ : ∃ m z, own = m ++ [z] := ⟨own.dropLast, own.getLast hn, (List.dropLast_concat_getLast hn).symm⟩
      rw [ix_tl _ _ _ (by simp)]
      simp
    have rg : ∀ cs, range2D [.int (own.getLastD 0 + 1), .int (c : Int)] cs = .ok ((List.range' ((own.getLastD 0) + 1).toNat (c - ((own.getLastD 0) + 1).toNat)).map fun (i : Nat) => .int (i : Int)) cs := fun cs => by
      rw [rng2N _ _ _ (by omega) (by omega) (by omega) (by omega), show ((c : Int) - (own.getLastD 0 + 1)).toNat = c - ((own.getLastD 0) + 1).toNat by omega]
    unfold b27_f1
    simp -implicitDefEqProofs (disch := (first | assumption | omega | (simp -implicitDefEqProofs only [all_tt, wd_non, wd_bl, wd_int, wd_str, wd_lst, wd_tup, List.all_map, List.all_cons, List.all_nil, List.all_append, Bool.and_true, Bool.and_self, Function.comp_def, List.length_map, List.length_append, List.length_cons, List.length_nil, List.length_range, List.all_eq_true, implies_true, lay_int, lays_ints, lays_nil, lays_cons, List.length_zip, List.length_drop, List.length_take, List.length_range', List.length_reverse, wd_int]; done) | (simp -implicitDefEqProofs only [all_tt, wd_non, wd_bl, wd_int, wd_str, wd_lst, wd_tup, List.all_map, List.all_cons, List.all_nil, List.all_append, Bool.and_true, Bool.and_self, Function.comp_def, List.length_map, List.length_append, List.length_cons, List.length_nil, List.length_range, List.all_eq_true, implies_true, lay_int, lays_ints, lays_nil, lays_cons, List.length_zip, List.length_drop, List.length_take, List.length_range', List.length_reverse, wd_int]; omega))) only [bd_ok, bd_exc, bd_stuck, bd_ite, ret_ok, stk_st, fetch_0, fetch_s, fetchC_0, fetchC_s, tst_bl, eE_var, eE_nev, eE_int, eE_bl, eE_non, eE_str, eE_con, boxR_f, boxR_tw, boxR_e, boxR_ite, eE_disp, eE_tup, eE_bin, eE_neg, eE_not, eE_and, eE_or, eE_one, eE_cmp, eE_chn, eE_ife, eE_call, eE_blt, eE_isi, eE_ix, intPart_i, eE_sl, eE_comp, eE_comp2, comp2L_fl, flR_comp, setTgL_nm, quietL_ok, eE_lrg1, eE_lrg2, eE_rep, eE_lsc, eE_app, eE_pop, eE_popAt, eE_idx, eE_sset, eE_lset, eE_rev, eEs_nil, eEs_cons, eI_seq, eI_rng1, eI_rng2, eI_rng3, eI_zip, eI_enm, seqR_nx, seqR_rt, seqR_exc, seqR_ite, eSs_nil, eSs_cons, eSs_frz, eSs_clr, eS_never, eS_set, eS_setT, eS_par, eS_setI, eS_aug, eS_drop, eS_doc, eS_pass, eS_retN, eS_raise, eS_ret, eS_iff, eS_forS, eS_wh, quiet_ok, quiet_ite, compL_none, compL_some, mapR_comp, mapR_ok, mapR_nil, mapR_cons, fltR_nil, fltR_cons, fltR_comp, fltR_ok, endR_nx, endR_exc, endR_keep, endR_rt, endR_int, endR_bl, endR_non, endR_ite, take_app, List.take_length, f_lt, f_gt, f_le, f_ge, eqv_int, eqv_strs, f_eqi, f_nei, f_is, f_isn, f_isb, isNon_n, isNon_b, isNon_i, isNon_s, isNon_l, isNon_t, not_b, neg_i, add_i, sub_i, len_t, len_l, abs_i, int_i, int_b, tup_t, tup_l, lst_t, lst_l, str_s, sum_l, all_l, any_l, all_nil, lit_l, lit_t, zip_l, zip_t, enm_l, cut_t, cut_l, lstOf_l, mtR_l, isi_n, isi_b, isi_i, isi_s, isi_l, isi_t, eqv_lints, eqv_tints, forL_nil, h_hole, h_var, h_int, h_bl, h_non, h_str, h_con, h_tup, h_disp, h_bin, h_neg, h_not, h_and, h_or, h_one, h_cmp, h_chn, h_ife, h_call, h_blt, h_isi, h_ix, h_sl, wipe_nil, wipe_cons, setAll_nil, setAll_cons, bool_and, bool_or, fitI_i, fitI_n, fitI_b, fitI_s, fitI_l, fitI_t, isT_t, isT_n, isT_b, isT_i, isT_s, isT_l, zallR_t, eSs_zall, free_0, free_s, done_nx, drop_m, take_m, rev_m, app_m, rev_t, rev_l, getC_0, getC_s, getC_aj, getC_a, setC_aj, setC_a, app_c, appR_s, pop_c, popR_s, set_c, setR_s, aug_c, augR_s, aug_i, lst_c, mt_o, mtO_s, slot_0, slot_s, frz_o, frzO_c, frzR_s, ix_ti, ix_li, ix_tl, ix_ll, ix_t0, ix_t1, ix_t2, ix_l0, ix_l1, ix_l2, ix_c, ixO_s, cutL_map, cutL_f, cutL_t, cutL_ft, pairsL_map, enumL_map, rng1N, rng2N, tg1, tg2, tg3, tgO1, tgO2, tgO3, tgF1, tgF2, tgF3, tgT2, tgT3, endO_s, endR_c0, endR_cj, endR_u0, endR_uj, sum_g, sset_gl, sset_gt, lset_gl, lset_gt, max_gl, max_gt, min_gl, min_gt, max_2, min_2, eq_nilL, ne_nilL, eq_nilT, ne_nilT, eq_gl, ne_gl, eq_gt, ne_gt, rngVN, rng3D, in_gl, in_gt, nin_gl, nin_gt, in_pl, in_pt, nin_pl, nin_pt, max_pl, max_pt, min_pl, min_pt, eq_pl, ne_pl, eq_pt, ne_pt, eq_pgl, ne_pgl, eq_gpl, ne_gpl, eq_pgt, ne_pgt, eq_gpt, ne_gpt, isn_b, sset_l, sset_t, lset_l, lset_t, all_tt, any_ff, Int.natCast_nonneg, Int.cast_ofNat_Int, Bool.decide_eq_false, List.length_range', List.isEmpty_nil, List.isEmpty_cons, not_true_eq_false, not_false_eq_true, Bool.true_eq_false, eq_self, Int.reduceToNat, Int.reduceSub, Int.reduceAdd, Int.reduceNeg, Int.reduceLT, Int.reduceLE, Int.reduceMul, Nat.reduceSub, Nat.reduceMul, Int.reduceEq, Int.reduceNe, KH.TI, KH.LI, List.take_zero, List.take_nil, defI, and_true, true_and, and_false, false_and, and_self, List.set_cons_zero, List.set_cons_succ, List.length_cons, List.length_nil, List.length_map, List.length_append, List.length_range, List.cons_append, List.nil_append, List.append_assoc, Nat.zero_add, Int.toNat_natCast, reduceIte, Bool.not_true, Bool.not_false, Bool.false_eq_true, decide_true, decide_false, Bool.true_and, Bool.and_true, Bool.false_and, Bool.and_false, Bool.true_or, Bool.false_or, Bool.or_true, Bool.or_false, Bool.decide_eq_true, decide_eq_true_eq, decide_eq_false_iff_not, decide_not, Bool.not_eq_true', Nat.reduceLeDiff, Nat.reduceAdd, Bool.not_not, Option.toList, tcons, List.take_succ_cons, List.map_id_fun', id_eq, List.map_id', List.isEmpty_map, ix, rg, e0]
  rw [this, LFs, List.map_flatMap]
  rfl
theorem lf2 (k : Nat) (c : Nat) (A : List Int) (h : HitsT c A) (hc2 : c ≤ 12) (x2 : Option D) (cs : CS) (N : Nat) (L0 : List (List Int)) (hL : L0 = LFs c A 0) :
    forL (.nm 4) (evSs (run prg (k + 1)) prg.tab b27_f2) ((List.range' 1 N).map fun (i : Nat) => .int (i : Int)) [some (.int (c : Int)), some (TI A), x2, some (.list (L0.map tupI)), none, none, none, none] cs =
      .ok (.nx [some (.int (c : Int)), some (TI A), x2, some (.list ((LFs c A N).map tupI)), none, none, none, none]) cs := by
  subst hL
  obtain ⟨e, c', h1, rfl, rfl⟩ := for_inv (tg := .nm 4) (body := evSs (run prg (k + 1)) prg.tab b27_f2) (fun (i : Nat) => .int (i : Int)) (fun p e c' => e = [some (.int (c : Int)), some (TI A), x2, some (.list ((LFs c A p.length).map tupI)), none, none, none, none] ∧ c' = cs) (List.range' 1 N) [some (.int (c : Int)), some (TI A), x2, some (.list ((LFs c A 0).map tupI)), none, none, none, none] cs ⟨rfl, rfl⟩ fun p i q e c' _ hI => by
    obtain ⟨rfl, rfl⟩ := hI
    have e1 := lf1 k c A h hc2 p.length x2 (some (.list ((LFs c A p.length).map tupI))) (some (.int (i : Int))) c'
    refine ⟨_, _, ?_, rfl, rfl⟩
    rw [List.length_append, List.length_singleton]
    unfold b27_f2
    simp -implicitDefEqProofs (disch := (first | assumption | omega | (simp -implicitDefEqProofs only [all_tt, wd_non, wd_bl, wd_int, wd_str, wd_lst, wd_tup, List.all_map, List.all_cons, List.all_nil, List.all_append, Bool.and_true, Bool.and_self, Function.comp_def, List.length_map, List.length_append, List.length_cons, List.length_nil, List.length_range, List.all_eq_true, implies_true, lay_int, lays_ints, lays_nil, lays_cons, List.length_zip, List.length_drop, List.length_take, List.length_range', List.length_reverse, wd_int]; done) | (simp -implicitDefEqProofs only [all_tt, wd_non, wd_bl, wd_int, wd_str, wd_lst, wd_tup, List.all_map, List.all_cons, List.all_nil, List.all_append, Bool.and_true, Bool.and_self, Function.comp_def, List.length_map, List.length_append, List.length_cons, List.length_nil, List.length_range, List.all_eq_true, implies_true, lay_int, lays_ints, lays_nil, lays_cons, List.length_zip, List.length_drop, List.length_take, List.length_range', List.length_reverse, wd_int]; omega))) only [bd_ok, bd_exc, bd_stuck, bd_ite, ret_ok, stk_st, fetch_0, fetch_s, fetchC_0, fetchC_s, tst_bl, eE_var, eE_nev, eE_int, eE_bl, eE_non, eE_str, eE_con, boxR_f, boxR_tw, boxR_e, boxR_ite, eE_disp, eE_tup, eE_bin, eE_neg, eE_not, eE_and, eE_or, eE_one, eE_cmp, eE_chn, eE_ife, eE_call, eE_blt, eE_isi, eE_ix, intPart_i, eE_sl, eE_comp, eE_comp2, comp2L_fl, flR_comp, setTgL_nm, quietL_ok, eE_lrg1, eE_lrg2, eE_rep, eE_lsc, eE_app, eE_pop, eE_popAt, eE_idx, eE_sset, eE_lset, eE_rev, eEs_nil, eEs_cons, eI_seq, eI_rng1, eI_rng2, eI_rng3, eI_zip, eI_enm, seqR_nx, seqR_rt, seqR_exc, seqR_ite, eSs_nil, eSs_cons, eSs_frz, eSs_clr, eS_never, eS_set, eS_setT, eS_par, eS_setI, eS_aug, eS_drop, eS_doc, eS_pass, eS_retN, eS_raise, eS_ret, eS_iff, eS_forS, eS_wh, quiet_ok, quiet_ite, compL_none, compL_some, mapR_comp, mapR_ok, mapR_nil, mapR_cons, fltR_nil, fltR_cons, fltR_comp, fltR_ok, endR_nx, endR_exc, endR_keep, endR_rt, endR_int, endR_bl, endR_non, endR_ite, take_app, List.take_length, f_lt, f_gt, f_le, f_ge, eqv_int, eqv_strs, f_eqi, f_nei, f_is, f_isn, f_isb, isNon_n, isNon_b, isNon_i, isNon_s, isNon_l, isNon_t, not_b, neg_i, add_i, sub_i, len_t, len_l, abs_i, int_i, int_b, tup_t, tup_l, lst_t, lst_l, str_s, sum_l, all_l, any_l, all_nil, lit_l, lit_t, zip_l, zip_t, enm_l, cut_t, cut_l, lstOf_l, mtR_l, isi_n, isi_b, isi_i, isi_s, isi_l, isi_t, eqv_lints, eqv_tints, forL_nil, h_hole, h_var, h_int, h_bl, h_non, h_str, h_con, h_tup, h_disp, h_bin, h_neg, h_not, h_and, h_or, h_one, h_cmp, h_chn, h_ife, h_call, h_blt, h_isi, h_ix, h_sl, wipe_nil, wipe_cons, setAll_nil, setAll_cons, bool_and, bool_or, fitI_i, fitI_n, fitI_b, fitI_s, fitI_l, fitI_t, isT_t, isT_n, isT_b, isT_i, isT_s, isT_l, zallR_t, eSs_zall, free_0, free_s, done_nx, drop_m, take_m, rev_m, app_m, rev_t, rev_l, getC_0, getC_s, getC_aj, getC_a, setC_aj, setC_a, app_c, appR_s, pop_c, popR_s, set_c, setR_s, aug_c, augR_s, aug_i, lst_c, mt_o, mtO_s, slot_0, slot_s, frz_o, frzO_c, frzR_s, ix_ti, ix_li, ix_tl, ix_ll, ix_t0, ix_t1, ix_t2, ix_l0, ix_l1, ix_l2, ix_c, ixO_s, cutL_map, cutL_f, cutL_t, cutL_ft, pairsL_map, enumL_map, rng1N, rng2N, tg1, tg2, tg3, tgO1, tgO2, tgO3, tgF1, tgF2, tgF3, tgT2, tgT3, endO_s, endR_c0, endR_cj, endR_u0, endR_uj, sum_g, sset_gl, sset_gt, lset_gl, lset_gt, max_gl, max_gt, min_gl, min_gt, max_2, min_2, eq_nilL, ne_nilL, eq_nilT, ne_nilT, eq_gl, ne_gl, eq_gt, ne_gt, rngVN, rng3D, in_gl, in_gt, nin_gl, nin_gt, in_pl, in_pt, nin_pl, nin_pt, max_pl, max_pt, min_pl, min_pt, eq_pl, ne_pl, eq_pt, ne_pt, eq_pgl, ne_pgl, eq_gpl, ne_gpl, eq_pgt, ne_pgt, eq_gpt, ne_gpt, isn_b, sset_l, sset_t, lset_l, lset_t, all_tt, any_ff, Int.natCast_nonneg, Int.cast_ofNat_Int, Bool.decide_eq_false, List.length_range', List.isEmpty_nil, List.isEmpty_cons, not_true_eq_false, not_false_eq_true, Bool.true_eq_false, eq_self, Int.reduceToNat, Int.reduceSub, Int.reduceAdd, Int.reduceNeg, Int.reduceLT, Int.reduceLE, Int.reduceMul, Nat.reduceSub, Nat.reduceMul, Int.reduceEq, Int.reduceNe, KH.TI, KH.LI, List.take_zero, List.take_nil, defI, and_true, true_and, and_false, false_and, and_self, List.set_cons_zero, List.set_cons_succ, List.length_cons, List.length_nil, List.length_map, List.length_append, List.length_range, List.cons_append, List.nil_append, List.append_assoc, Nat.zero_add, Int.toNat_natCast, reduceIte, Bool.not_true, Bool.not_false, Bool.false_eq_true, decide_true, decide_false, Bool.true_and, Bool.and_true, Bool.false_and, Bool.and_false, Bool.true_or, Bool.false_or, Bool.or_true, Bool.or_false, Bool.decide_eq_true, decide_eq_true_eq, decide_eq_false_iff_not, decide_not, Bool.not_eq_true', Nat.reduceLeDiff, Nat.reduceAdd, Bool.not_not, Option.toList, tcons, List.take_succ_cons, List.map_id_fun', id_eq, List.map_id', List.isEmpty_map, e1]
  rw [List.length_range'] at h1
  exact h1
theorem lf2e (k : Nat) (c : Nat) (A : List Int) (x2 : Option D) (cs : CS) (N : Nat) :
    forL (.nm 4) (evSs (run prg (k + 1)) prg.tab b27_f2) ((List.range' 1 N).map fun (i : Nat) => .int (i : Int)) [some (.int (c : Int)), some (TI A), x2, some (.list []), none, none, none, none] cs =
      .ok (.nx [some (.int (c : Int)), some (TI A), x2, some (.list []), none, none, none, none]) cs := by
  obtain ⟨e, c', h1, rfl, rfl⟩ := for_inv (tg := .nm 4) (body := evSs (run prg (k + 1)) prg.tab b27_f2) (fun (i : Nat) => .int (i : Int)) (fun _ e c' => e = [some (.int (c : Int)), some (TI A), x2, some (.list []), none, none, none, none] ∧ c' = cs) (List.range' 1 N) [some (.int (c : Int)), some (TI A), x2, some (.list []), none, none, none, none] cs ⟨rfl, rfl⟩ fun p i q e c' _ hI => by
    obtain ⟨rfl, rfl⟩ := hI
    refine ⟨_, _, ?_, rfl, rfl⟩
    unfold b27_f2
    simp -implicitDefEqProofs (disch := (first | assumption | omega | (simp -implicitDefEqProofs only [all_tt, wd_non, wd_bl, wd_int, wd_str, wd_lst, wd_tup, List.all_map, List.all_cons, List.all_nil, List.all_append, Bool.and_true, Bool.and_self, Function.comp_def, List.length_map, List.length_append, List.length_cons, List.length_nil, List.length_range, List.all_eq_true, implies_true, lay_int, lays_ints, lays_nil, lays_cons, List.length_zip, List.length_drop, List.length_take, List.length_range', List.length_reverse, wd_int]; done) | (simp -implicitDefEqProofs only [all_tt, wd_non, wd_bl, wd_int, wd_str, wd_lst, wd_tup, List.all_map, List.all_cons, List.all_nil, List.all_append, Bool.and_true, Bool.and_self, Function.comp_def, List.length_map, List.length_append, List.length_cons, List.length_nil, List.length_range, List.all_eq_true, implies_true, lay_int, lays_ints, lays_nil, lays_cons, List.length_zip, List.length_drop, List.length_take, List.length_range', List.length_reverse, wd_int]; omega))) only [bd_ok, bd_exc, bd_stuck, bd_ite, ret_ok, stk_st, fetch_0, fetch_s, fetchC_0, fetchC_s, tst_bl, eE_var, eE_nev, eE_int, eE_bl, eE_non, eE_str, eE_con, boxR_f, boxR_tw, boxR_e, boxR_ite, eE_disp, eE_tup, eE_bin, eE_neg, eE_not, eE_and, eE_or, eE_one, eE_cmp, eE_chn, eE_ife, eE_call, eE_blt, eE_isi, eE_ix, intPart_i, eE_sl, eE_comp, eE_comp2, comp2L_fl, flR_comp, setTgL_nm, quietL_ok, eE_lrg1, eE_lrg2, eE_rep, eE_lsc, eE_app, eE_pop, eE_popAt, eE_idx, eE_sset, eE_lset, eE_rev, eEs_nil, eEs_cons, eI_seq, eI_rng1, eI_rng2, eI_rng3, eI_zip, eI_enm, seqR_nx, seqR_rt, seqR_exc, seqR_ite, eSs_nil, eSs_cons, eSs_frz, eSs_clr, eS_never, eS_set, eS_setT, eS_par, eS_setI, eS_aug, eS_drop, eS_doc, eS_pass, eS_retN, eS_raise, eS_ret, eS_iff, eS_forS, eS_wh, quiet_ok, quiet_ite, compL_none, compL_some, mapR_comp, mapR_ok, mapR_nil, mapR_cons, fltR_nil, fltR_cons, fltR_comp, fltR_ok, endR_nx, endR_exc, endR_keep, endR_rt, endR_int, endR_bl, endR_non, endR_ite, take_app, List.take_length, f_lt, f_gt, f_le, f_ge, eqv_int, eqv_strs, f_eqi, f_nei, f_is, f_isn, f_isb, isNon_n, isNon_b, isNon_i, isNon_s, isNon_l, isNon_t, not_b, neg_i, add_i, sub_i, len_t, len_l, abs_i, int_i, int_b, tup_t, tup_l, lst_t, lst_l, str_s, sum_l, all_l, any_l, all_nil, lit_l, lit_t, zip_l, zip_t, enm_l, cut_t, cut_l, lstOf_l, mtR_l, isi_n, isi_b, isi_i, isi_s, isi_l, isi_t, eqv_lints, eqv_tints, forL_nil, h_hole, h_var, h_int, h_bl, h_non, h_str, h_con, h_tup, h_disp, h_bin, h_neg, h_not, h_and, h_or, h_one, h_cmp, h_chn, h_ife, h_call, h_blt, h_isi, h_ix, h_sl, wipe_nil, wipe_cons, setAll_nil, setAll_cons, bool_and, bool_or, fitI_i, fitI_n, fitI_b, fitI_s, fitI_l, fitI_t, isT_t, isT_n, isT_b, isT_i, isT_s, isT_l, zallR_t, eSs_zall, free_0, free_s, done_nx, drop_m, take_m, rev_m, app_m, rev_t, rev_l, getC_0, getC_s, getC_aj, getC_a, setC_aj, setC_a, app_c, appR_s, pop_c, popR_s, set_c, setR_s, aug_c, augR_s, aug_i, lst_c, mt_o, mtO_s, slot_0, slot_s, frz_o, frzO_c, frzR_s, ix_ti, ix_li, ix_tl, ix_ll, ix_t0, ix_t1, ix_t2, ix_l0, ix_l1, ix_l2, ix_c, ixO_s, cutL_map, cutL_f, cutL_t, cutL_ft, pairsL_map, enumL_map, rng1N, rng2N, tg1, tg2, tg3, tgO1, tgO2, tgO3, tgF1, tgF2, tgF3, tgT2, tgT3, endO_s, endR_c0, endR_cj, endR_u0, endR_uj, sum_g, sset_gl, sset_gt, lset_gl, lset_gt, max_gl, max_gt, min_gl, min_gt, max_2, min_2, eq_nilL, ne_nilL, eq_nilT, ne_nilT, eq_gl, ne_gl, eq_gt, ne_gt, rngVN, rng3D, in_gl, in_gt, nin_gl, nin_gt, in_pl, in_pt, nin_pl, nin_pt, max_pl, max_pt, min_pl, min_pt, eq_pl, ne_pl, eq_pt, ne_pt, eq_pgl, ne_pgl, eq_gpl, ne_gpl, eq_pgt, ne_pgt, eq_gpt, ne_gpt, isn_b, sset_l, sset_t, lset_l, lset_t, all_tt, any_ff, Int.natCast_nonneg, Int.cast_ofNat_Int, Bool.decide_eq_false, List.length_range', List.isEmpty_nil, List.isEmpty_cons, not_true_eq_false, not_false_eq_true, Bool.true_eq_false, eq_self, Int.reduceToNat, Int.reduceSub, Int.reduceAdd, Int.reduceNeg, Int.reduceLT, Int.reduceLE, Int.reduceMul, Nat.reduceSub, Nat.reduceMul, Int.reduceEq, Int.reduceNe, KH.TI, KH.LI, List.take_zero, List.take_nil, defI, and_true, true_and, and_false, false_and, and_self, List.set_cons_zero, List.set_cons_succ, List.length_cons, List.length_nil, List.length_map, List.length_append, List.length_range, List.cons_append, List.nil_append, List.append_assoc, Nat.zero_add, Int.toNat_natCast, reduceIte, Bool.not_true, Bool.not_false, Bool.false_eq_true, decide_true, decide_false, Bool.true_and, Bool.and_true, Bool.false_and, Bool.and_false, Bool.true_or, Bool.false_or, Bool.or_true, Bool.or_false, Bool.decide_eq_true, decide_eq_true_eq, decide_eq_false_iff_not, decide_not, Bool.not_eq_true', Nat.reduceLeDiff, Nat.reduceAdd, Bool.not_not, Option.toList, tcons, List.take_succ_cons, List.map_id_fun', id_eq, List.map_id', List.isEmpty_map]
  exact h1
theorem lfo (k : Nat) (c : Nat) (A : List Int) (h : HitsT c A) (hc2 : c ≤ 12) (cs : CS) : run prg (k + 2) 27 [.int (c : Int), TI A] cs = .ok (.list ((LF c A).map tupI)) cs := by
  have hp := List.length_pos_iff.mpr h.h.one
  have hl := hits_len h.h
  have fd : ∀ cs, Bop.fdiv.fn (.int (c : Int)) (.int (A.length : Int)) cs = .ok (.int ((c / A.length : Nat) : Int)) cs := fun cs => by
    rw [fdiv_i _ _ _ (by omega) (by omega), Int.natCast_ediv]
  have m1 : 1 ≤ c / A.length := Nat.div_pos hl.2 hp
  have m2 : c / A.length ≤ c := Nat.div_le_self _ _
  have rg : ∀ cs, range2D [.int 1, .int ((c / A.length : Nat) : Int)] cs = .ok ((List.range' 1 (c / A.length - 1)).map fun (i : Nat) => .int (i : Int)) cs := fun cs => by
    rw [rng2N _ _ _ (by omega) (by omega) (by omega) (by omega), show (((c / A.length : Nat) : Int) - 1).toNat = c / A.length - 1 by omega]
    rfl
  have ml : ∀ cs, Bop.mul.fn (.int ((c / A.length : Nat) : Int)) (.int (A.length : Int)) cs = .ok (.int ((c / A.length * A.length : Nat) : Int)) cs := fun cs => by
    rw [mul_l _ _ _ (by omega) (by omega), Int.natCast_mul]
  rw [r__law_fillings]
  unfold b27 LF
  by_cases q : c / A.length * A.length = c
  · have q2 : ((c / A.length * A.length : Nat) : Int) = (c : Int) := by omega
    have e := lf2 k c A h hc2 (some (.int ((c / A.length : Nat) : Int))) cs (c / A.length - 1) _ rfl
    rw [show (LFs c A 0).map tupI = [.tuple [.int 0]] from rfl] at e
    rw [if_pos q]
    generalize c / A.length * A.length = cm at *
    generalize c / A.length = m at *
    simp -implicitDefEqProofs (disch := (first | assumption | omega | (simp -implicitDefEqProofs only [all_tt, wd_non, wd_bl, wd_int, wd_str, wd_lst, wd_tup, List.all_map, List.all_cons, List.all_nil, List.all_append, Bool.and_true, Bool.and_self, Function.comp_def, List.length_map, List.length_append, List.length_cons, List.length_nil, List.length_range, List.all_eq_true, implies_true, lay_int, lays_ints, lays_nil, lays_cons, List.length_zip, List.length_drop, List.length_take, List.length_range', List.length_reverse, wd_int]; done) | (simp -implicitDefEqProofs only [all_tt, wd_non, wd_bl, wd_int, wd_str, wd_lst, wd_tup, List.all_map, List.all_cons, List.all_nil, List.all_append, Bool.and_true, Bool.and_self, Function.comp_def, List.length_map, List.length_append, List.length_cons, List.length_nil, List.length_range, List.all_eq_true, implies_true, lay_int, lays_ints, lays_nil, lays_cons, List.length_zip, List.length_drop, List.length_take, List.length_range', List.length_reverse, wd_int]; omega))) only [bd_ok, bd_exc, bd_stuck, bd_ite, ret_ok, stk_st, fetch_0, fetch_s, fetchC_0, fetchC_s, tst_bl, eE_var, eE_nev, eE_int, eE_bl, eE_non, eE_str, eE_con, boxR_f, boxR_tw, boxR_e, boxR_ite, eE_disp, eE_tup, eE_bin, eE_neg, eE_not, eE_and, eE_or, eE_one, eE_cmp, eE_chn, eE_ife, eE_call, eE_blt, eE_isi, eE_ix, intPart_i, eE_sl, eE_comp, eE_comp2, comp2L_fl, flR_comp, setTgL_nm, quietL_ok, eE_lrg1, eE_lrg2, eE_rep, eE_lsc, eE_app, eE_pop, eE_popAt, eE_idx, eE_sset, eE_lset, eE_rev, eEs_nil, eEs_cons, eI_seq, eI_rng1, eI_rng2, eI_rng3, eI_zip, eI_enm, seqR_nx, seqR_rt, seqR_exc, seqR_ite, eSs_nil, eSs_cons, eSs_frz, eSs_clr, eS_never, eS_set, eS_setT, eS_par, eS_setI, eS_aug, eS_drop, eS_doc, eS_pass, eS_retN, eS_raise, eS_ret, eS_iff, eS_forS, eS_wh, quiet_ok, quiet_ite, compL_none, compL_some, mapR_comp, mapR_ok, mapR_nil, mapR_cons, fltR_nil, fltR_cons, fltR_comp, fltR_ok, endR_nx, endR_exc, endR_keep, endR_rt, endR_int, endR_bl, endR_non, endR_ite, take_app, List.take_length, f_lt, f_gt, f_le, f_ge, eqv_int, eqv_strs, f_eqi, f_nei, f_is, f_isn, f_isb, isNon_n, isNon_b, isNon_i, isNon_s, isNon_l, isNon_t, not_b, neg_i, add_i, sub_i, len_t, len_l, abs_i, int_i, int_b, tup_t, tup_l, lst_t, lst_l, str_s, sum_l, all_l, any_l, all_nil, lit_l, lit_t, zip_l, zip_t, enm_l, cut_t, cut_l, lstOf_l, mtR_l, isi_n, isi_b, isi_i, isi_s, isi_l, isi_t, eqv_lints, eqv_tints, forL_nil, h_hole, h_var, h_int, h_bl, h_non, h_str, h_con, h_tup, h_disp, h_bin, h_neg, h_not, h_and, h_or, h_one, h_cmp, h_chn, h_ife, h_call, h_blt, h_isi, h_ix, h_sl, wipe_nil, wipe_cons, setAll_nil, setAll_cons, bool_and, bool_or, fitI_i, fitI_n, fitI_b, fitI_s, fitI_l, fitI_t, isT_t, isT_n, isT_b, isT_i, isT_s, isT_l, zallR_t, eSs_zall, free_0, free_s, done_nx, drop_m, take_m, rev_m, app_m, rev_t, rev_l, getC_0, getC_s, getC_aj, getC_a, setC_aj, setC_a, app_c, appR_s, pop_c, popR_s, set_c, setR_s, aug_c, augR_s, aug_i, lst_c, mt_o, mtO_s, slot_0, slot_s, frz_o, frzO_c, frzR_s, ix_ti, ix_li, ix_tl, ix_ll, ix_t0, ix_t1, ix_t2, ix_l0, ix_l1, ix_l2, ix_c, ixO_s, cutL_map, cutL_f, cutL_t, cutL_ft, pairsL_map, enumL_map, rng1N, rng2N, tg1, tg2, tg3, tgO1, tgO2, tgO3, tgF1, tgF2, tgF3, tgT2, tgT3, endO_s, endR_c0, endR_cj, endR_u0, endR_uj, sum_g, sset_gl, sset_gt, lset_gl, lset_gt, max_gl, max_gt, min_gl, min_gt, max_2, min_2, eq_nilL, ne_nilL, eq_nilT, ne_nilT, eq_gl, ne_gl, eq_gt, ne_gt, rngVN, rng3D, in_gl, in_gt, nin_gl, nin_gt, in_pl, in_pt, nin_pl, nin_pt, max_pl, max_pt, min_pl, min_pt, eq_pl, ne_pl, eq_pt, ne_pt, eq_pgl, ne_pgl, eq_gpl, ne_gpl, eq_pgt, ne_pgt, eq_gpt, ne_gpt, isn_b, sset_l, sset_t, lset_l, lset_t, all_tt, any_ff, Int.natCast_nonneg, Int.cast_ofNat_Int, Bool.decide_eq_false, List.length_range', List.isEmpty_nil, List.isEmpty_cons, not_true_eq_false, not_false_eq_true, Bool.true_eq_false, eq_self, Int.reduceToNat, Int.reduceSub, Int.reduceAdd, Int.reduceNeg, Int.reduceLT, Int.reduceLE, Int.reduceMul, Nat.reduceSub, Nat.reduceMul, Int.reduceEq, Int.reduceNe, KH.TI, KH.LI, List.take_zero, List.take_nil, defI, and_true, true_and, and_false, false_and, and_self, List.set_cons_zero, List.set_cons_succ, List.length_cons, List.length_nil, List.length_map, List.length_append, List.length_range, List.cons_append, List.nil_append, List.append_assoc, Nat.zero_add, Int.toNat_natCast, reduceIte, Bool.not_true, Bool.not_false, Bool.false_eq_true, decide_true, decide_false, Bool.true_and, Bool.and_true, Bool.false_and, Bool.and_false, Bool.true_or, Bool.false_or, Bool.or_true, Bool.or_false, Bool.decide_eq_true, decide_eq_true_eq, decide_eq_false_iff_not, decide_not, Bool.not_eq_true', Nat.reduceLeDiff, Nat.reduceAdd, Bool.not_not, Option.toList, tcons, List.take_succ_cons, List.map_id_fun', id_eq, List.map_id', List.isEmpty_map, fd, rg, ml, q2, e]
  · have q2 : ¬ ((c / A.length * A.length : Nat) : Int) = (c : Int) := by omega
    have e := lf2e k c A (some (.int ((c / A.length : Nat) : Int))) cs (c / A.length - 1)
    rw [if_neg q]
    generalize c / A.length * A.length = cm at *
    generalize c / A.length = m at *
    simp -implicitDefEqProofs (disch := (first | assumption | omega | (simp -implicitDefEqProofs only [all_tt, wd_non, wd_bl, wd_int, wd_str, wd_lst, wd_tup, List.all_map, List.all_cons, List.all_nil, List.all_append, Bool.and_true, Bool.and_self, Function.comp_def, List.length_map, List.length_append, List.length_cons, List.length_nil, List.length_range, List.all_eq_true, implies_true, lay_int, lays_ints, lays_nil, lays_cons, List.length_zip, List.length_drop, List.length_take, List.length_range', List.length_reverse, wd_int]; done) | (simp -implicitDefEqProofs only [all_tt, wd_non, wd_bl, wd_int, wd_str, wd_lst, wd_tup, List.all_map, List.all_cons, List.all_nil, List.all_append, Bool.and_true, Bool.and_self, Function.comp_def, List.length_map, List.length_append, List.length_cons, List.length_nil, List.length_range, List.all_eq_true, implies_true, lay_int, lays_ints, lays_nil, lays_cons, List.length_zip, List.length_drop, List.length_take, List.length_range', List.length_reverse, wd_int]; omega))) only [bd_ok, bd_exc, bd_stuck, bd_ite, ret_ok, stk_st, fetch_0, fetch_s, fetchC_0, fetchC_s, tst_bl, eE_var, eE_nev, eE_int, eE_bl, eE_non, eE_str, eE_con, boxR_f, boxR_tw, boxR_e, boxR_ite, eE_disp, eE_tup, eE_bin, eE_neg, eE_not, eE_and, eE_or, eE_one, eE_cmp, eE_chn, eE_ife, eE_call, eE_blt, eE_isi, eE_ix, intPart_i, eE_sl, eE_comp, eE_comp2, comp2L_fl, flR_comp, setTgL_nm, quietL_ok, eE_lrg1, eE_lrg2, eE_rep, eE_lsc, eE_app, eE_pop, eE_popAt, eE_idx, eE_sset, eE_lset, eE_rev, eEs_nil, eEs_cons, eI_seq, eI_rng1, eI_rng2, eI_rng3, eI_zip, eI_enm, seqR_nx, seqR_rt, seqR_exc, seqR_ite, eSs_nil, eSs_cons, eSs_frz, eSs_clr, eS_never, eS_set, eS_setT, eS_par, eS_setI, eS_aug, eS_drop, eS_doc, eS_pass, eS_retN, eS_raise, eS_ret, eS_iff, eS_forS, eS_wh, quiet_ok, quiet_ite, compL_none, compL_some, mapR_comp, mapR_ok, mapR_nil, mapR_cons, fltR_nil, fltR_cons, fltR_comp, fltR_ok, endR_nx, endR_exc, endR_keep, endR_rt, endR_int, endR_bl, endR_non, endR_ite, take_app, List.take_length, f_lt, f_gt, f_le, f_ge, eqv_int, eqv_strs, f_eqi, f_nei, f_is, f_isn, f_isb, isNon_n, isNon_b, isNon_i, isNon_s, isNon_l, isNon_t, not_b, neg_i, add_i, sub_i, len_t, len_l, abs_i, int_i, int_b, tup_t, tup_l, lst_t, lst_l, str_s, sum_l, all_l, any_l, all_nil, lit_l, lit_t, zip_l, zip_t, enm_l, cut_t, cut_l, lstOf_l, mtR_l, isi_n, isi_b, isi_i, isi_s, isi_l, isi_t, eqv_lints, eqv_tints, forL_nil, h_hole, h_var, h_int, h_bl, h_non, h_str, h_con, h_tup, h_disp, h_bin, h_neg, h_not, h_and, h_or, h_one, h_cmp, h_chn, h_ife, h_call, h_blt, h_isi, h_ix, h_sl, wipe_nil, wipe_cons, setAll_nil, setAll_cons, bool_and, bool_or, fitI_i, fitI_n, fitI_b, fitI_s, fitI_l, fitI_t, isT_t, isT_n, isT_b, isT_i, isT_s, isT_l, zallR_t, eSs_zall, free_0, free_s, done_nx, drop_m, take_m, rev_m, app_m, rev_t, rev_l, getC_0, getC_s, getC_aj, getC_a, setC_aj, setC_a, app_c, appR_s, pop_c, popR_s, set_c, setR_s, aug_c, augR_s, aug_i, lst_c, mt_o, mtO_s, slot_0, slot_s, frz_o, frzO_c, frzR_s, ix_ti, ix_li, ix_tl, ix_ll, ix_t0, ix_t1, ix_t2, ix_l0, ix_l1, ix_l2, ix_c, ixO_s, cutL_map, cutL_f, cutL_t, cutL_ft, pairsL_map, enumL_map, rng1N, rng2N, tg1, tg2, tg3, tgO1, tgO2, tgO3, tgF1, tgF2, tgF3, tgT2, tgT3, endO_s, endR_c0, endR_cj, endR_u0, endR_uj, sum_g, sset_gl, sset_gt, lset_gl, lset_gt, max_gl, max_gt, min_gl, min_gt, max_2, min_2, eq_nilL, ne_nilL, eq_nilT, ne_nilT, eq_gl, ne_gl, eq_gt, ne_gt, rngVN, rng3D, in_gl, in_gt, nin_gl, nin_gt, in_pl, in_pt, nin_pl, nin_pt, max_pl, max_pt, min_pl, min_pt, eq_pl, ne_pl, eq_pt, ne_pt, eq_pgl, ne_pgl, eq_gpl, ne_gpl, eq_pgt, ne_pgt, eq_gpt, ne_gpt, isn_b, sset_l, sset_t, lset_l, lset_t, all_tt, any_ff, Int.natCast_nonneg, Int.cast_ofNat_Int, Bool.decide_eq_false, List.length_range', List.isEmpty_nil, List.isEmpty_cons, not_true_eq_false, not_false_eq_true, Bool.true_eq_false, eq_self, Int.reduceToNat, Int.reduceSub, Int.reduceAdd, Int.reduceNeg, Int.reduceLT, Int.reduceLE, Int.reduceMul, Nat.reduceSub, Nat.reduceMul, Int.reduceEq, Int.reduceNe, KH.TI, KH.LI, List.take_zero, List.take_nil, defI, and_true, true_and, and_false, false_and, and_self, List.set_cons_zero, List.set_cons_succ, List.length_cons, List.length_nil, List.length_map, List.length_append, List.length_range, List.cons_append, List.nil_append, List.append_assoc, Nat.zero_add, Int.toNat_natCast, reduceIte, Bool.not_true, Bool.not_false, Bool.false_eq_true, decide_true, decide_false, Bool.true_and, Bool.and_true, Bool.false_and, Bool.and_false, Bool.true_or, Bool.false_or, Bool.or_true, Bool.or_false, Bool.decide_eq_true, decide_eq_true_eq, decide_eq_false_iff_not, decide_not, Bool.not_eq_true', Nat.reduceLeDiff, Nat.reduceAdd, Bool.not_not, Option.toList, tcons, List.take_succ_cons, List.map_id_fun', id_eq, List.map_id', List.isEmpty_map, fd, rg, ml, q2, e, List.map_nil]

end KP

namespace KP
open PySem PySem.Spec PyProof.Rows L2 KH
theorem chord_go (k : Nat) (m : D) (low : Int) (wide : Nat) (hw : wide ≤ 1000) (hlow : 0 ≤ low ∧ low ≤ 1000) (x3 : D) (l : CS) (many : Nat) (hm : many ≤ wide) (s : Int × Int) :
    ∃ (F R : List Int) (s' : Int × Int), (F ++ R).Perm ((List.range wide).map fun (i : Nat) => low + (i : Int)) ∧ F.length = many ∧
      forL (.nm 4) (evSs (run prg (k + 1)) prg.tab b23_f0) ((List.range many).map fun (i : Nat) => .int (i : Int)) [some (cellD 0), some m, some (.int low), some x3, none, some (.list (((List.range wide).map fun (i : Nat) => low + (i : Int)).map .int)), some (.list []), none] (cup s :: l) =
        .ok (.nx [some (cellD 0), some m, some (.int low), some x3, none, some (.list (R.map .int)), some (.list (F.map .int)), none]) (cup s' :: l) := by
  obtain ⟨e, c', h1, F, R, s', rfl, rfl, hp, hl⟩ := for_inv (tg := .nm 4) (body := evSs (run prg (k + 1)) prg.tab b23_f0) (fun (i : Nat) => .int (i : Int)) (fun p e c' => ∃ (F R : List Int) (s' : Int × Int), e = [some (cellD 0), some m, some (.int low), some x3, none, some (.list (R.map .int)), some (.list (F.map .int)), none] ∧ c' = cup s' :: l ∧ (F ++ R).Perm ((List.range wide).map fun (i : Nat) => low + (i : Int)) ∧ F.length = p.length) (List.range many) [some (cellD 0), some m, some (.int low), some x3, none, some (.list (((List.range wide).map fun (i : Nat) => low + (i : Int)).map .int)), some (.list []), none] (cup s :: l) ⟨[], _, s, rfl, rfl, by simp, rfl⟩ fun p i q e c' he hI => by
    obtain ⟨F, R, s', rfl, rfl, hp, hl⟩ := hI
    have h2 := hp.length_eq
    rw [List.length_append, List.length_map, List.length_range] at h2
    have h3 := congrArg List.length he
    rw [List.length_range, List.length_append, List.length_cons] at h3
    obtain ⟨v, s2, v0, v1, e1⟩ := rolled k (R.length : Int) (by omega) (by omega) s' l
    obtain ⟨u, rfl⟩ : ∃ u : Nat, v = u := ⟨v.toNat, by omega⟩
    have hu : u < R.length := by omega
    have e2 : ∀ c, ixD (.list (R.map .int)) (.int (u : Int)) c = .ok (.int (R.getD u 0)) c := fun c => by
      simp -implicitDefEqProofs (disch := (first | assumption | omega | (simp -implicitDefEqProofs only [all_tt, wd_non, wd_bl, wd_int, wd_str, wd_lst, wd_tup, List.all_map, List.all_cons, List.all_nil, List.all_append, Bool.and_true, Bool.and_self, Function.comp_def, List.length_map, List.length_append, List.length_cons, List.length_nil, List.length_range, List.all_eq_true, implies_true, lay_int, lays_ints, lays_nil, lays_cons, List.length_zip, List.length_drop, List.length_take, List.length_range', List.length_reverse, wd_int]; done) | (simp -implicitDefEqProofs only [all_tt, wd_non, wd_bl, wd_int, wd_str, wd_lst, wd_tup, List.all_map, List.all_cons, List.all_nil, List.all_append, Bool.and_true, Bool.and_self, Function.comp_def, List.length_map, List.length_append, List.length_cons, List.length_nil, List.length_range, List.all_eq_true, implies_true, lay_int, lays_ints, lays_nil, lays_cons, List.length_zip, List.length_drop, List.length_take, List.length_range', List.length_reverse, wd_int]; omega))) only [bd_ok, bd_exc, bd_stuck, bd_ite, ret_ok, stk_st, fetch_0, fetch_s, fetchC_0, fetchC_s, tst_bl, eE_var, eE_nev, eE_int, eE_bl, eE_non, eE_str, eE_con, boxR_f, boxR_tw, boxR_e, boxR_ite, eE_disp, eE_tup, eE_bin, eE_neg, eE_not, eE_and, eE_or, eE_one, eE_cmp, eE_chn, eE_ife, eE_call, eE_blt, eE_isi, eE_ix, intPart_i, eE_sl, eE_comp, eE_comp2, comp2L_fl, flR_comp, setTgL_nm, quietL_ok, eE_lrg1, eE_lrg2, eE_rep, eE_lsc, eE_app, eE_pop, eE_popAt, eE_idx, eE_sset, eE_lset, eE_rev, eEs_nil, eEs_cons, eI_seq, eI_rng1, eI_rng2, eI_rng3, eI_zip, eI_enm, seqR_nx, seqR_rt, seqR_exc, seqR_ite, eSs_nil, eSs_cons, eSs_frz, eSs_clr, eS_never, eS_set, eS_setT, eS_par, eS_setI, eS_aug, eS_drop, eS_doc, eS_pass, eS_retN, eS_raise, eS_ret, eS_iff, eS_forS, eS_wh, quiet_ok, quiet_ite, compL_none, compL_some, mapR_comp, mapR_ok, mapR_nil, mapR_cons, fltR_nil, fltR_cons, fltR_comp, fltR_ok, endR_nx, endR_exc, endR_keep, endR_rt, endR_int, endR_bl, endR_non, endR_ite, take_app, List.take_length, f_lt, f_gt, f_le, f_ge, eqv_int, eqv_strs, f_eqi, f_nei, f_is, f_isn, f_isb, isNon_n, isNon_b, isNon_i, isNon_s, isNon_l, isNon_t, not_b, neg_i, add_i, sub_i, len_t, len_l, abs_i, int_i, int_b, tup_t, tup_l, lst_t, lst_l, str_s, sum_l, all_l, any_l, all_nil, lit_l, lit_t, zip_l, zip_t, enm_l, cut_t, cut_l, lstOf_l, mtR_l, isi_n, isi_b, isi_i, isi_s, isi_l, isi_t, eqv_lints, eqv_tints, forL_nil, h_hole, h_var, h_int, h_bl, h_non, h_str, h_con, h_tup, h_disp, h_bin, h_neg, h_not, h_and, h_or, h_one, h_cmp, h_chn, h_ife, h_call, h_blt, h_isi, h_ix, h_sl, wipe_nil, wipe_cons, setAll_nil, setAll_cons, bool_and, bool_or, fitI_i, fitI_n, fitI_b, fitI_s, fitI_l, fitI_t, isT_t, isT_n, isT_b, isT_i, isT_s, isT_l, zallR_t, eSs_zall, free_0, free_s, done_nx, drop_m, take_m, rev_m, app_m, rev_t, rev_l, getC_0, getC_s, getC_aj, getC_a, setC_aj, setC_a, app_c, appR_s, pop_c, popR_s, set_c, setR_s, aug_c, augR_s, aug_i, lst_c, mt_o, mtO_s, slot_0, slot_s, frz_o, frzO_c, frzR_s, ix_ti, ix_li, ix_tl, ix_ll, ix_t0, ix_t1, ix_t2, ix_l0, ix_l1, ix_l2, ix_c, ixO_s, cutL_map, cutL_f, cutL_t, cutL_ft, pairsL_map, enumL_map, rng1N, rng2N, tg1, tg2, tg3, tgO1, tgO2, tgO3, tgF1, tgF2, tgF3, tgT2, tgT3, endO_s, endR_c0, endR_cj, endR_u0, endR_uj, sum_g, sset_gl, sset_gt, lset_gl, lset_gt, max_gl, max_gt, min_gl, min_gt, max_2, min_2, eq_nilL, ne_nilL, eq_nilT, ne_nilT, eq_gl, ne_gl, eq_gt, ne_gt, rngVN, rng3D, in_gl, in_gt, nin_gl, nin_gt, in_pl, in_pt, nin_pl, nin_pt, max_pl, max_pt, min_pl, min_pt, eq_pl, ne_pl, eq_pt, ne_pt, eq_pgl, ne_pgl, eq_gpl, ne_gpl, eq_pgt, ne_pgt, eq_gpt, ne_gpt, isn_b, sset_l, sset_t, lset_l, lset_t, all_tt, any_ff, Int.natCast_nonneg, Int.cast_ofNat_Int, Bool.decide_eq_false, List.length_range', List.isEmpty_nil, List.isEmpty_cons, not_true_eq_false, not_false_eq_true, Bool.true_eq_false, eq_self, Int.reduceToNat, Int.reduceSub, Int.reduceAdd, Int.reduceNeg, Int.reduceLT, Int.reduceLE, Int.reduceMul, Nat.reduceSub, Nat.reduceMul, Int.reduceEq, Int.reduceNe, KH.TI, KH.LI, List.take_zero, List.take_nil, defI, and_true, true_and, and_false, false_and, and_self, List.set_cons_zero, List.set_cons_succ, List.length_cons, List.length_nil, List.length_map, List.length_append, List.length_range, List.cons_append, List.nil_append, List.append_assoc, Nat.zero_add, Int.toNat_natCast, reduceIte, Bool.not_true, Bool.not_false, Bool.false_eq_true, decide_true, decide_false, Bool.true_and, Bool.and_true, Bool.false_and, Bool.and_false, Bool.true_or, Bool.false_or, Bool.or_true, Bool.or_false, Bool.decide_eq_true, decide_eq_true_eq, decide_eq_false_iff_not, decide_not, Bool.not_eq_true', Nat.reduceLeDiff, Nat.reduceAdd, Bool.not_not, Option.toList, tcons, List.take_succ_cons, List.map_id_fun', id_eq, List.map_id', List.isEmpty_map]
    have q1 : ((u : Int) + 1).toNat = u + 1 := by omega
    have a1 : ∀ c, Bop.add.fn (.list (F.map .int)) (.list [.int (R.getD u 0)]) c = .ok (.list ((F ++ [R.getD u 0]).map .int)) c := fun c => by
      rw [add_l _ _ _ (by simp; omega)]
      simp
    have a2 : ∀ c, Bop.add.fn (.list ((R.take u).map .int)) (.list ((R.drop (u + 1)).map .int)) c = .ok (.list ((R.take u ++ R.drop (u + 1)).map .int)) c := fun c => by
      rw [add_l _ _ _ (by rw [List.length_map, List.length_map, List.length_take, List.length_drop]; omega)]
      simp
    have rs : R = R.take u ++ R.getD u 0 :: R.drop (u + 1) := by
      conv => lhs; rw [← List.take_append_drop u R, List.drop_eq_getElem_cons hu]
      rw [List.getD_eq_getElem?_getD, List.getElem?_eq_getElem hu]
      rfl
    refine ⟨_, _, ?_, F ++ [R.getD u 0], R.take u ++ R.drop (u + 1), s2, rfl, rfl, ?_, by simp [hl]⟩
    · unfold b23_f0
      simp -implicitDefEqProofs (disch := (first | assumption | omega | (simp -implicitDefEqProofs only [all_tt, wd_non, wd_bl, wd_int, wd_str, wd_lst, wd_tup, List.all_map, List.all_cons, List.all_nil, List.all_append, Bool.and_true, Bool.and_self, Function.comp_def, List.length_map, List.length_append, List.length_cons, List.length_nil, List.length_range, List.all_eq_true, implies_true, lay_int, lays_ints, lays_nil, lays_cons, List.length_zip, List.length_drop, List.length_take, List.length_range', List.length_reverse, wd_int]; done) | (simp -implicitDefEqProofs only [all_tt, wd_non, wd_bl, wd_int, wd_str, wd_lst, wd_tup, List.all_map, List.all_cons, List.all_nil, List.all_append, Bool.and_true, Bool.and_self, Function.comp_def, List.length_map, List.length_append, List.length_cons, List.length_nil, List.length_range, List.all_eq_true, implies_true, lay_int, lays_ints, lays_nil, lays_cons, List.length_zip, List.length_drop, List.length_take, List.length_range', List.length_reverse, wd_int]; omega))) only [bd_ok, bd_exc, bd_stuck, bd_ite, ret_ok, stk_st, fetch_0, fetch_s, fetchC_0, fetchC_s, tst_bl, eE_var, eE_nev, eE_int, eE_bl, eE_non, eE_str, eE_con, boxR_f, boxR_tw, boxR_e, boxR_ite, eE_disp, eE_tup, eE_bin, eE_neg, eE_not, eE_and, eE_or, eE_one, eE_cmp, eE_chn, eE_ife, eE_call, eE_blt, eE_isi, eE_ix, intPart_i, eE_sl, eE_comp, eE_comp2, comp2L_fl, flR_comp, setTgL_nm, quietL_ok, eE_lrg1, eE_lrg2, eE_rep, eE_lsc, eE_app, eE_pop, eE_popAt, eE_idx, eE_sset, eE_lset, eE_rev, eEs_nil, eEs_cons, eI_seq, eI_rng1, eI_rng2, eI_rng3, eI_zip, eI_enm, seqR_nx, seqR_rt, seqR_exc, seqR_ite, eSs_nil, eSs_cons, eSs_frz, eSs_clr, eS_never, eS_set, eS_setT, eS_par, eS_setI, eS_aug, eS_drop, eS_doc, eS_pass, eS_retN, eS_raise, eS_ret, eS_iff, eS_forS, eS_wh, quiet_ok, quiet_ite, compL_none, compL_some, mapR_comp, mapR_ok, mapR_nil, mapR_cons, fltR_nil, fltR_cons, fltR_comp, fltR_ok, endR_nx, endR_exc, endR_keep, endR_rt, endR_int, endR_bl, endR_non, endR_ite, take_app, List.take_length, f_lt, f_gt, f_le, f_ge, eqv_int, eqv_strs, f_eqi, f_nei, f_is, f_isn, f_isb, isNon_n, isNon_b, isNon_i, isNon_s, isNon_l, isNon_t, not_b, neg_i, add_i, sub_i, len_t, len_l, abs_i, int_i, int_b, tup_t, tup_l, lst_t, lst_l, str_s, sum_l, all_l, any_l, all_nil, lit_l, lit_t, zip_l, zip_t, enm_l, cut_t, cut_l, lstOf_l, mtR_l, isi_n, isi_b, isi_i, isi_s, isi_l, isi_t, eqv_lints, eqv_tints, forL_nil, h_hole, h_var, h_int, h_bl, h_non, h_str, h_con, h_tup, h_disp, h_bin, h_neg, h_not, h_and, h_or, h_one, h_cmp, h_chn, h_ife, h_call, h_blt, h_isi, h_ix, h_sl, wipe_nil, wipe_cons, setAll_nil, setAll_cons, bool_and, bool_or, fitI_i, fitI_n, fitI_b, fitI_s, fitI_l, fitI_t, isT_t, isT_n, isT_b, isT_i, isT_s, isT_l, zallR_t, eSs_zall, free_0, free_s, done_nx, drop_m, take_m, rev_m, app_m, rev_t, rev_l, getC_0, getC_s, getC_aj, getC_a, setC_aj, setC_a, app_c, appR_s, pop_c, popR_s, set_c, setR_s, aug_c, augR_s, aug_i, lst_c, mt_o, mtO_s, slot_0, slot_s, frz_o, frzO_c, frzR_s, ix_ti, ix_li, ix_tl, ix_ll, ix_t0, ix_t1, ix_t2, ix_l0, ix_l1, ix_l2, ix_c, ixO_s, cutL_map, cutL_f, cutL_t, cutL_ft, pairsL_map, enumL_map, rng1N, rng2N, tg1, tg2, tg3, tgO1, tgO2, tgO3, tgF1, tgF2, tgF3, tgT2, tgT3, endO_s, endR_c0, endR_cj, endR_u0, endR_uj, sum_g, sset_gl, sset_gt, lset_gl, lset_gt, max_gl, max_gt, min_gl, min_gt, max_2, min_2, eq_nilL, ne_nilL, eq_nilT, ne_nilT, eq_gl, ne_gl, eq_gt, ne_gt, rngVN, rng3D, in_gl, in_gt, nin_gl, nin_gt, in_pl, in_pt, nin_pl, nin_pt, max_pl, max_pt, min_pl, min_pt, eq_pl, ne_pl, eq_pt, ne_pt, eq_pgl, ne_pgl, eq_gpl, ne_gpl, eq_pgt, ne_pgt, eq_gpt, ne_gpt, isn_b, sset_l, sset_t, lset_l, lset_t, all_tt, any_ff, Int.natCast_nonneg, Int.cast_ofNat_Int, Bool.decide_eq_false, List.length_range', List.isEmpty_nil, List.isEmpty_cons, not_true_eq_false, not_false_eq_true, Bool.true_eq_false, eq_self, Int.reduceToNat, Int.reduceSub, Int.reduceAdd, Int.reduceNeg, Int.reduceLT, Int.reduceLE, Int.reduceMul, Nat.reduceSub, Nat.reduceMul, Int.reduceEq, Int.reduceNe, KH.TI, KH.LI, List.take_zero, List.take_nil, defI, and_true, true_and, and_false, false_and, and_self, List.set_cons_zero, List.set_cons_succ, List.length_cons, List.length_nil, List.length_map, List.length_append, List.length_range, List.cons_append, List.nil_append, List.append_assoc, Nat.zero_add, Int.toNat_natCast, reduceIte, Bool.not_true, Bool.not_false, Bool.false_eq_true, decide_true, decide_false, Bool.true_and, Bool.and_true, Bool.false_and, Bool.and_false, Bool.true_or, Bool.false_or, Bool.or_true, Bool.or_false, Bool.decide_eq_true, decide_eq_true_eq, decide_eq_false_iff_not, decide_not, Bool.not_eq_true', Nat.reduceLeDiff, Nat.reduceAdd, Bool.not_not, Option.toList, tcons, List.take_succ_cons, List.map_id_fun', id_eq, List.map_id', List.isEmpty_map, e1, e2, q1, a1, a2]
    · refine List.Perm.trans ?_ hp
      conv => rhs; rw [rs]
      rw [List.append_assoc, List.singleton_append]
      exact List.Perm.append_left F (List.perm_middle.symm)
  rw [List.length_range] at hl
  exact ⟨F, R, s', hp, hl, h1⟩
theorem chord (k : Nat) (low : Int) (wide many : Nat) (hw : wide ≤ 1000) (hlow : 0 ≤ low ∧ low ≤ 1000) (hm : many ≤ wide) (s : Int × Int) (l : CS) :
    ∃ (A : List Int) (s' : Int × Int), A.length = many ∧ A.Pairwise (· < ·) ∧ (∀ x ∈ A, low ≤ x ∧ x < low + wide) ∧ run prg (k + 2) 23 [cellD 0, .int (many : Int), .int low, .int (wide : Int)] (cup s :: l) = .ok (TI A) (cup s' :: l) := by
  obtain ⟨F, R, s', hp, hl, e⟩ := chord_go k (.int (many : Int)) low wide hw hlow (.int (wide : Int)) l many hm s
  have nd : (F ++ R).Nodup := hp.nodup_iff.mpr (by
    rw [List.nodup_iff_pairwise_ne, List.pairwise_map]
    exact List.nodup_range.imp fun h => by omega)
  refine ⟨sortI F, s', by rw [(sortI_perm F).length_eq, hl], sortI_lt (List.nodup_append.mp nd).1, fun x hx => ?_, ?_⟩
  · have : x ∈ F ++ R := List.mem_append_left _ ((sortI_perm F).mem_iff.mp hx)
    obtain ⟨i, hi, rfl⟩ := List.mem_map.mp (hp.mem_iff.mp this)
    have := List.mem_range.mp hi
    omega
  · have rg : ∀ c, rangeV (.int low) (.int (low + (wide : Int))) c = .ok (((List.range wide).map fun (i : Nat) => low + (i : Int)).map .int) c := fun c => by
      rw [rngV c _ _ (by omega) (by omega) (by omega) (by omega), show (low + (wide : Int) - low).toNat = wide by omega]
      unfold rangeL
      rw [List.map_map]
      rfl
    rw [r__law_chord]
    unfold b23
    simp -implicitDefEqProofs (disch := (first | assumption | omega | (simp -implicitDefEqProofs only [all_tt, wd_non, wd_bl, wd_int, wd_str, wd_lst, wd_tup, List.all_map, List.all_cons, List.all_nil, List.all_append, Bool.and_true, Bool.and_self, Function.comp_def, List.length_map, List.length_append, List.length_cons, List.length_nil, List.length_range, List.all_eq_true, implies_true, lay_int, lays_ints, lays_nil, lays_cons, List.length_zip, List.length_drop, List.length_take, List.length_range', List.length_reverse, wd_int]; done) | (simp -implicitDefEqProofs only [all_tt, wd_non, wd_bl, wd_int, wd_str, wd_lst, wd_tup, List.all_map, List.all_cons, List.all_nil, List.all_append, Bool.and_true, Bool.and_self, Function.comp_def, List.length_map, List.length_append, List.length_cons, List.length_nil, List.length_range, List.all_eq_true, implies_true, lay_int, lays_ints, lays_nil, lays_cons, List.length_zip, List.length_drop, List.length_take, List.length_range', List.length_reverse, wd_int]; omega))) only [bd_ok, bd_exc, bd_stuck, bd_ite, ret_ok, stk_st, fetch_0, fetch_s, fetchC_0, fetchC_s, tst_bl, eE_var, eE_nev, eE_int, eE_bl, eE_non, eE_str, eE_con, boxR_f, boxR_tw, boxR_e, boxR_ite, eE_disp, eE_tup, eE_bin, eE_neg, eE_not, eE_and, eE_or, eE_one, eE_cmp, eE_chn, eE_ife, eE_call, eE_blt, eE_isi, eE_ix, intPart_i, eE_sl, eE_comp, eE_comp2, comp2L_fl, flR_comp, setTgL_nm, quietL_ok, eE_lrg1, eE_lrg2, eE_rep, eE_lsc, eE_app, eE_pop, eE_popAt, eE_idx, eE_sset, eE_lset, eE_rev, eEs_nil, eEs_cons, eI_seq, eI_rng1, eI_rng2, eI_rng3, eI_zip, eI_enm, seqR_nx, seqR_rt, seqR_exc, seqR_ite, eSs_nil, eSs_cons, eSs_frz, eSs_clr, eS_never, eS_set, eS_setT, eS_par, eS_setI, eS_aug, eS_drop, eS_doc, eS_pass, eS_retN, eS_raise, eS_ret, eS_iff, eS_forS, eS_wh, quiet_ok, quiet_ite, compL_none, compL_some, mapR_comp, mapR_ok, mapR_nil, mapR_cons, fltR_nil, fltR_cons, fltR_comp, fltR_ok, endR_nx, endR_exc, endR_keep, endR_rt, endR_int, endR_bl, endR_non, endR_ite, take_app, List.take_length, f_lt, f_gt, f_le, f_ge, eqv_int, eqv_strs, f_eqi, f_nei, f_is, f_isn, f_isb, isNon_n, isNon_b, isNon_i, isNon_s, isNon_l, isNon_t, not_b, neg_i, add_i, sub_i, len_t, len_l, abs_i, int_i, int_b, tup_t, tup_l, lst_t, lst_l, str_s, sum_l, all_l, any_l, all_nil, lit_l, lit_t, zip_l, zip_t, enm_l, cut_t, cut_l, lstOf_l, mtR_l, isi_n, isi_b, isi_i, isi_s, isi_l, isi_t, eqv_lints, eqv_tints, forL_nil, h_hole, h_var, h_int, h_bl, h_non, h_str, h_con, h_tup, h_disp, h_bin, h_neg, h_not, h_and, h_or, h_one, h_cmp, h_chn, h_ife, h_call, h_blt, h_isi, h_ix, h_sl, wipe_nil, wipe_cons, setAll_nil, setAll_cons, bool_and, bool_or, fitI_i, fitI_n, fitI_b, fitI_s, fitI_l, fitI_t, isT_t, isT_n, isT_b, isT_i, isT_s, isT_l, zallR_t, eSs_zall, free_0, free_s, done_nx, drop_m, take_m, rev_m, app_m, rev_t, rev_l, getC_0, getC_s, getC_aj, getC_a, setC_aj, setC_a, app_c, appR_s, pop_c, popR_s, set_c, setR_s, aug_c, augR_s, aug_i, lst_c, mt_o, mtO_s, slot_0, slot_s, frz_o, frzO_c, frzR_s, ix_ti, ix_li, ix_tl, ix_ll, ix_t0, ix_t1, ix_t2, ix_l0, ix_l1, ix_l2, ix_c, ixO_s, cutL_map, cutL_f, cutL_t, cutL_ft, pairsL_map, enumL_map, rng1N, rng2N, tg1, tg2, tg3, tgO1, tgO2, tgO3, tgF1, tgF2, tgF3, tgT2, tgT3, endO_s, endR_c0, endR_cj, endR_u0, endR_uj, sum_g, sset_gl, sset_gt, lset_gl, lset_gt, max_gl, max_gt, min_gl, min_gt, max_2, min_2, eq_nilL, ne_nilL, eq_nilT, ne_nilT, eq_gl, ne_gl, eq_gt, ne_gt, rngVN, rng3D, in_gl, in_gt, nin_gl, nin_gt, in_pl, in_pt, nin_pl, nin_pt, max_pl, max_pt, min_pl, min_pt, eq_pl, ne_pl, eq_pt, ne_pt, eq_pgl, ne_pgl, eq_gpl, ne_gpl, eq_pgt, ne_pgt, eq_gpt, ne_gpt, isn_b, sset_l, sset_t, lset_l, lset_t, all_tt, any_ff, Int.natCast_nonneg, Int.cast_ofNat_Int, Bool.decide_eq_false, List.length_range', List.isEmpty_nil, List.isEmpty_cons, not_true_eq_false, not_false_eq_true, Bool.true_eq_false, eq_self, Int.reduceToNat, Int.reduceSub, Int.reduceAdd, Int.reduceNeg, Int.reduceLT, Int.reduceLE, Int.reduceMul, Nat.reduceSub, Nat.reduceMul, Int.reduceEq, Int.reduceNe, KH.TI, KH.LI, List.take_zero, List.take_nil, defI, and_true, true_and, and_false, false_and, and_self, List.set_cons_zero, List.set_cons_succ, List.length_cons, List.length_nil, List.length_map, List.length_append, List.length_range, List.cons_append, List.nil_append, List.append_assoc, Nat.zero_add, Int.toNat_natCast, reduceIte, Bool.not_true, Bool.not_false, Bool.false_eq_true, decide_true, decide_false, Bool.true_and, Bool.and_true, Bool.false_and, Bool.and_false, Bool.true_or, Bool.false_or, Bool.or_true, Bool.or_false, Bool.decide_eq_true, decide_eq_true_eq, decide_eq_false_iff_not, decide_not, Bool.not_eq_true', Nat.reduceLeDiff, Nat.reduceAdd, Bool.not_not, Option.toList, tcons, List.take_succ_cons, List.map_id_fun', id_eq, List.map_id', List.isEmpty_map, rg, e, srt_l]

theorem hitsL (k : Nat) (c : Nat) (h0 : 0 < c) (h1 : c ≤ 24) (s : Int × Int) (l : CS) :
    ∃ (A : List Int) (s' : Int × Int), HitsT c A ∧ A.length ≤ 6 ∧ run prg (k + 3) 24 [cellD 0, .int (c : Int)] (cup s :: l) = .ok (TI A) (cup s' :: l) := by
  obtain ⟨v, s1, v0, v1, e1⟩ := rolled (k + 1) (min (c : Int) 6) (by omega) (by omega) s l
  obtain ⟨m, hm⟩ : ∃ m : Nat, 1 + v = m := ⟨(1 + v).toNat, by omega⟩
  obtain ⟨A, s2, a1, a2, a3, e2⟩ := chord k 0 c m (by omega) (by omega) (by omega) s1 l
  refine ⟨A, s2, ⟨⟨fun e => by rw [e] at a1; simp at a1; omega, a2, fun x hx => by have := a3 x hx; omega⟩, h0, h1⟩, by omega, ?_⟩
  rw [r__law_hits]
  unfold b24
  simp -implicitDefEqProofs (disch := (first | assumption | omega | (simp -implicitDefEqProofs only [all_tt, wd_non, wd_bl, wd_int, wd_str, wd_lst, wd_tup, List.all_map, List.all_cons, List.all_nil, List.all_append, Bool.and_true, Bool.and_self, Function.comp_def, List.length_map, List.length_append, List.length_cons, List.length_nil, List.length_range, List.all_eq_true, implies_true, lay_int, lays_ints, lays_nil, lays_cons, List.length_zip, List.length_drop, List.length_take, List.length_range', List.length_reverse, wd_int]; done) | (simp -implicitDefEqProofs only [all_tt, wd_non, wd_bl, wd_int, wd_str, wd_lst, wd_tup, List.all_map, List.all_cons, List.all_nil, List.all_append, Bool.and_true, Bool.and_self, Function.comp_def, List.length_map, List.length_append, List.length_cons, List.length_nil, List.length_range, List.all_eq_true, implies_true, lay_int, lays_ints, lays_nil, lays_cons, List.length_zip, List.length_drop, List.length_take, List.length_range', List.length_reverse, wd_int]; omega))) only [bd_ok, bd_exc, bd_stuck, bd_ite, ret_ok, stk_st, fetch_0, fetch_s, fetchC_0, fetchC_s, tst_bl, eE_var, eE_nev, eE_int, eE_bl, eE_non, eE_str, eE_con, boxR_f, boxR_tw, boxR_e, boxR_ite, eE_disp, eE_tup, eE_bin, eE_neg, eE_not, eE_and, eE_or, eE_one, eE_cmp, eE_chn, eE_ife, eE_call, eE_blt, eE_isi, eE_ix, intPart_i, eE_sl, eE_comp, eE_comp2, comp2L_fl, flR_comp, setTgL_nm, quietL_ok, eE_lrg1, eE_lrg2, eE_rep, eE_lsc, eE_app, eE_pop, eE_popAt, eE_idx, eE_sset, eE_lset, eE_rev, eEs_nil, eEs_cons, eI_seq, eI_rng1, eI_rng2, eI_rng3, eI_zip, eI_enm, seqR_nx, seqR_rt, seqR_exc, seqR_ite, eSs_nil, eSs_cons, eSs_frz, eSs_clr, eS_never, eS_set, eS_setT, eS_par, eS_setI, eS_aug, eS_drop, eS_doc, eS_pass, eS_retN, eS_raise, eS_ret, eS_iff, eS_forS, eS_wh, quiet_ok, quiet_ite, compL_none, compL_some, mapR_comp, mapR_ok, mapR_nil, mapR_cons, fltR_nil, fltR_cons, fltR_comp, fltR_ok, endR_nx, endR_exc, endR_keep, endR_rt, endR_int, endR_bl, endR_non, endR_ite, take_app, List.take_length, f_lt, f_gt, f_le, f_ge, eqv_int, eqv_strs, f_eqi, f_nei, f_is, f_isn, f_isb, isNon_n, isNon_b, isNon_i, isNon_s, isNon_l, isNon_t, not_b, neg_i, add_i, sub_i, len_t, len_l, abs_i, int_i, int_b, tup_t, tup_l, lst_t, lst_l, str_s, sum_l, all_l, any_l, all_nil, lit_l, lit_t, zip_l, zip_t, enm_l, cut_t, cut_l, lstOf_l, mtR_l, isi_n, isi_b, isi_i, isi_s, isi_l, isi_t, eqv_lints, eqv_tints, forL_nil, h_hole, h_var, h_int, h_bl, h_non, h_str, h_con, h_tup, h_disp, h_bin, h_neg, h_not, h_and, h_or, h_one, h_cmp, h_chn, h_ife, h_call, h_blt, h_isi, h_ix, h_sl, wipe_nil, wipe_cons, setAll_nil, setAll_cons, bool_and, bool_or, fitI_i, fitI_n, fitI_b, fitI_s, fitI_l, fitI_t, isT_t, isT_n, isT_b, isT_i, isT_s, isT_l, zallR_t, eSs_zall, free_0, free_s, done_nx, drop_m, take_m, rev_m, app_m, rev_t, rev_l, getC_0, getC_s, getC_aj, getC_a, setC_aj, setC_a, app_c, appR_s, pop_c, popR_s, set_c, setR_s, aug_c, augR_s, aug_i, lst_c, mt_o, mtO_s, slot_0, slot_s, frz_o, frzO_c, frzR_s, ix_ti, ix_li, ix_tl, ix_ll, ix_t0, ix_t1, ix_t2, ix_l0, ix_l1, ix_l2, ix_c, ixO_s, cutL_map, cutL_f, cutL_t, cutL_ft, pairsL_map, enumL_map, rng1N, rng2N, tg1, tg2, tg3, tgO1, tgO2, tgO3, tgF1, tgF2, tgF3, tgT2, tgT3, endO_s, endR_c0, endR_cj, endR_u0, endR_uj, sum_g, sset_gl, sset_gt, lset_gl, lset_gt, max_gl, max_gt, min_gl, min_gt, max_2, min_2, eq_nilL, ne_nilL, eq_nilT, ne_nilT, eq_gl, ne_gl, eq_gt, ne_gt, rngVN, rng3D, in_gl, in_gt, nin_gl, nin_gt, in_pl, in_pt, nin_pl, nin_pt, max_pl, max_pt, min_pl, min_pt, eq_pl, ne_pl, eq_pt, ne_pt, eq_pgl, ne_pgl, eq_gpl, ne_gpl, eq_pgt, ne_pgt, eq_gpt, ne_gpt, isn_b, sset_l, sset_t, lset_l, lset_t, all_tt, any_ff, Int.natCast_nonneg, Int.cast_ofNat_Int, Bool.decide_eq_false, List.length_range', List.isEmpty_nil, List.isEmpty_cons, not_true_eq_false, not_false_eq_true, Bool.true_eq_false, eq_self, Int.reduceToNat, Int.reduceSub, Int.reduceAdd, Int.reduceNeg, Int.reduceLT, Int.reduceLE, Int.reduceMul, Nat.reduceSub, Nat.reduceMul, Int.reduceEq, Int.reduceNe, KH.TI, KH.LI, List.take_zero, List.take_nil, defI, and_true, true_and, and_false, false_and, and_self, List.set_cons_zero, List.set_cons_succ, List.length_cons, List.length_nil, List.length_map, List.length_append, List.length_range, List.cons_append, List.nil_append, List.append_assoc, Nat.zero_add, Int.toNat_natCast, reduceIte, Bool.not_true, Bool.not_false, Bool.false_eq_true, decide_true, decide_false, Bool.true_and, Bool.and_true, Bool.false_and, Bool.and_false, Bool.true_or, Bool.false_or, Bool.or_true, Bool.or_false, Bool.decide_eq_true, decide_eq_true_eq, decide_eq_false_iff_not, decide_not, Bool.not_eq_true', Nat.reduceLeDiff, Nat.reduceAdd, Bool.not_not, Option.toList, tcons, List.take_succ_cons, List.map_id_fun', id_eq, List.map_id', List.isEmpty_map, e1, hm, e2]

end KP

namespace KP
open PySem PySem.Spec PyProof.Rows L2 KH
theorem fh_any (k : Nat) (c : Nat) (d : D) (hw : wd d = true) (h : isT 1 (c : Int) d = false) (cs : CS) : run prg (k + 3) 6 [d, .int (c : Int)] cs = .ok (.bool false) cs := by
  rw [r_fits_hits]
  unfold b6
  simp -implicitDefEqProofs (disch := (first | assumption | omega | (simp -implicitDefEqProofs only [all_tt, wd_non, wd_bl, wd_int, wd_str, wd_lst, wd_tup, List.all_map, List.all_cons, List.all_nil, List.all_append, Bool.and_true, Bool.and_self, Function.comp_def, List.length_map, List.length_append, List.length_cons, List.length_nil, List.length_range, List.all_eq_true, implies_true, lay_int, lays_ints, lays_nil, lays_cons, List.length_zip, List.length_drop, List.length_take, List.length_range', List.length_reverse, wd_int]; done) | (simp -implicitDefEqProofs only [all_tt, wd_non, wd_bl, wd_int, wd_str, wd_lst, wd_tup, List.all_map, List.all_cons, List.all_nil, List.all_append, Bool.and_true, Bool.and_self, Function.comp_def, List.length_map, List.length_append, List.length_cons, List.length_nil, List.length_range, List.all_eq_true, implies_true, lay_int, lays_ints, lays_nil, lays_cons, List.length_zip, List.length_drop, List.length_take, List.length_range', List.length_reverse, wd_int]; omega))) only [bd_ok, bd_exc, bd_stuck, bd_ite, ret_ok, stk_st, fetch_0, fetch_s, fetchC_0, fetchC_s, tst_bl, eE_var, eE_nev, eE_int, eE_bl, eE_non, eE_str, eE_con, boxR_f, boxR_tw, boxR_e, boxR_ite, eE_disp, eE_tup, eE_bin, eE_neg, eE_not, eE_and, eE_or, eE_one, eE_cmp, eE_chn, eE_ife, eE_call, eE_blt, eE_isi, eE_ix, intPart_i, eE_sl, eE_comp, eE_comp2, comp2L_fl, flR_comp, setTgL_nm, quietL_ok, eE_lrg1, eE_lrg2, eE_rep, eE_lsc, eE_app, eE_pop, eE_popAt, eE_idx, eE_sset, eE_lset, eE_rev, eEs_nil, eEs_cons, eI_seq, eI_rng1, eI_rng2, eI_rng3, eI_zip, eI_enm, seqR_nx, seqR_rt, seqR_exc, seqR_ite, eSs_nil, eSs_cons, eSs_frz, eSs_clr, eS_never, eS_set, eS_setT, eS_par, eS_setI, eS_aug, eS_drop, eS_doc, eS_pass, eS_retN, eS_raise, eS_ret, eS_iff, eS_forS, eS_wh, quiet_ok, quiet_ite, compL_none, compL_some, mapR_comp, mapR_ok, mapR_nil, mapR_cons, fltR_nil, fltR_cons, fltR_comp, fltR_ok, endR_nx, endR_exc, endR_keep, endR_rt, endR_int, endR_bl, endR_non, endR_ite, take_app, List.take_length, f_lt, f_gt, f_le, f_ge, eqv_int, eqv_strs, f_eqi, f_nei, f_is, f_isn, f_isb, isNon_n, isNon_b, isNon_i, isNon_s, isNon_l, isNon_t, not_b, neg_i, add_i, sub_i, len_t, len_l, abs_i, int_i, int_b, tup_t, tup_l, lst_t, lst_l, str_s, sum_l, all_l, any_l, all_nil, lit_l, lit_t, zip_l, zip_t, enm_l, cut_t, cut_l, lstOf_l, mtR_l, isi_n, isi_b, isi_i, isi_s, isi_l, isi_t, eqv_lints, eqv_tints, forL_nil, h_hole, h_var, h_int, h_bl, h_non, h_str, h_con, h_tup, h_disp, h_bin, h_neg, h_not, h_and, h_or, h_one, h_cmp, h_chn, h_ife, h_call, h_blt, h_isi, h_ix, h_sl, wipe_nil, wipe_cons, setAll_nil, setAll_cons, bool_and, bool_or, fitI_i, fitI_n, fitI_b, fitI_s, fitI_l, fitI_t, isT_t, isT_n, isT_b, isT_i, isT_s, isT_l, zallR_t, eSs_zall, free_0, free_s, done_nx, drop_m, take_m, rev_m, app_m, rev_t, rev_l, getC_0, getC_s, getC_aj, getC_a, setC_aj, setC_a, app_c, appR_s, pop_c, popR_s, set_c, setR_s, aug_c, augR_s, aug_i, lst_c, mt_o, mtO_s, slot_0, slot_s, frz_o, frzO_c, frzR_s, ix_ti, ix_li, ix_tl, ix_ll, ix_t0, ix_t1, ix_t2, ix_l0, ix_l1, ix_l2, ix_c, ixO_s, cutL_map, cutL_f, cutL_t, cutL_ft, pairsL_map, enumL_map, rng1N, rng2N, tg1, tg2, tg3, tgO1, tgO2, tgO3, tgF1, tgF2, tgF3, tgT2, tgT3, endO_s, endR_c0, endR_cj, endR_u0, endR_uj, sum_g, sset_gl, sset_gt, lset_gl, lset_gt, max_gl, max_gt, min_gl, min_gt, max_2, min_2, eq_nilL, ne_nilL, eq_nilT, ne_nilT, eq_gl, ne_gl, eq_gt, ne_gt, rngVN, rng3D, in_gl, in_gt, nin_gl, nin_gt, in_pl, in_pt, nin_pl, nin_pt, max_pl, max_pt, min_pl, min_pt, eq_pl, ne_pl, eq_pt, ne_pt, eq_pgl, ne_pgl, eq_gpl, ne_gpl, eq_pgt, ne_pgt, eq_gpt, ne_gpt, isn_b, sset_l, sset_t, lset_l, lset_t, all_tt, any_ff, Int.natCast_nonneg, Int.cast_ofNat_Int, Bool.decide_eq_false, List.length_range', List.isEmpty_nil, List.isEmpty_cons, not_true_eq_false, not_false_eq_true, Bool.true_eq_false, eq_self, Int.reduceToNat, Int.reduceSub, Int.reduceAdd, Int.reduceNeg, Int.reduceLT, Int.reduceLE, Int.reduceMul, Nat.reduceSub, Nat.reduceMul, Int.reduceEq, Int.reduceNe, KH.TI, KH.LI, List.take_zero, List.take_nil, defI, and_true, true_and, and_false, false_and, and_self, List.set_cons_zero, List.set_cons_succ, List.length_cons, List.length_nil, List.length_map, List.length_append, List.length_range, List.cons_append, List.nil_append, List.append_assoc, Nat.zero_add, Int.toNat_natCast, reduceIte, Bool.not_true, Bool.not_false, Bool.false_eq_true, decide_true, decide_false, Bool.true_and, Bool.and_true, Bool.false_and, Bool.and_false, Bool.true_or, Bool.false_or, Bool.or_true, Bool.or_false, Bool.decide_eq_true, decide_eq_true_eq, decide_eq_false_iff_not, decide_not, Bool.not_eq_true', Nat.reduceLeDiff, Nat.reduceAdd, Bool.not_not, Option.toList, tcons, List.take_succ_cons, List.map_id_fun', id_eq, List.map_id', List.isEmpty_map, tu, h]
theorem ah_any (k : Nat) (c : Nat) (h0 : 0 < c) (h1 : c ≤ 24) (d : D) (b : Bool) (h : ∀ k cs, run prg (k + 3) 6 [d, .int (c : Int)] cs = .ok (.bool b) cs) (cs : CS) : run prg (k + 4) 10 [.int (c : Int), d] cs = .ok (.bool b) cs := by
  rw [r_are_hits]
  unfold b10
  simp -implicitDefEqProofs (disch := (first | assumption | omega | (simp -implicitDefEqProofs only [all_tt, wd_non, wd_bl, wd_int, wd_str, wd_lst, wd_tup, List.all_map, List.all_cons, List.all_nil, List.all_append, Bool.and_true, Bool.and_self, Function.comp_def, List.length_map, List.length_append, List.length_cons, List.length_nil, List.length_range, List.all_eq_true, implies_true, lay_int, lays_ints, lays_nil, lays_cons, List.length_zip, List.length_drop, List.length_take, List.length_range', List.length_reverse, wd_int]; done) | (simp -implicitDefEqProofs only [all_tt, wd_non, wd_bl, wd_int, wd_str, wd_lst, wd_tup, List.all_map, List.all_cons, List.all_nil, List.all_append, Bool.and_true, Bool.and_self, Function.comp_def, List.length_map, List.length_append, List.length_cons, List.length_nil, List.length_range, List.all_eq_true, implies_true, lay_int, lays_ints, lays_nil, lays_cons, List.length_zip, List.length_drop, List.length_take, List.length_range', List.length_reverse, wd_int]; omega))) only [bd_ok, bd_exc, bd_stuck, bd_ite, ret_ok, stk_st, fetch_0, fetch_s, fetchC_0, fetchC_s, tst_bl, eE_var, eE_nev, eE_int, eE_bl, eE_non, eE_str, eE_con, boxR_f, boxR_tw, boxR_e, boxR_ite, eE_disp, eE_tup, eE_bin, eE_neg, eE_not, eE_and, eE_or, eE_one, eE_cmp, eE_chn, eE_ife, eE_call, eE_blt, eE_isi, eE_ix, intPart_i, eE_sl, eE_comp, eE_comp2, comp2L_fl, flR_comp, setTgL_nm, quietL_ok, eE_lrg1, eE_lrg2, eE_rep, eE_lsc, eE_app, eE_pop, eE_popAt, eE_idx, eE_sset, eE_lset, eE_rev, eEs_nil, eEs_cons, eI_seq, eI_rng1, eI_rng2, eI_rng3, eI_zip, eI_enm, seqR_nx, seqR_rt, seqR_exc, seqR_ite, eSs_nil, eSs_cons, eSs_frz, eSs_clr, eS_never, eS_set, eS_setT, eS_par, eS_setI, eS_aug, eS_drop, eS_doc, eS_pass, eS_retN, eS_raise, eS_ret, eS_iff, eS_forS, eS_wh, quiet_ok, quiet_ite, compL_none, compL_some, mapR_comp, mapR_ok, mapR_nil, mapR_cons, fltR_nil, fltR_cons, fltR_comp, fltR_ok, endR_nx, endR_exc, endR_keep, endR_rt, endR_int, endR_bl, endR_non, endR_ite, take_app, List.take_length, f_lt, f_gt, f_le, f_ge, eqv_int, eqv_strs, f_eqi, f_nei, f_is, f_isn, f_isb, isNon_n, isNon_b, isNon_i, isNon_s, isNon_l, isNon_t, not_b, neg_i, add_i, sub_i, len_t, len_l, abs_i, int_i, int_b, tup_t, tup_l, lst_t, lst_l, str_s, sum_l, all_l, any_l, all_nil, lit_l, lit_t, zip_l, zip_t, enm_l, cut_t, cut_l, lstOf_l, mtR_l, isi_n, isi_b, isi_i, isi_s, isi_l, isi_t, eqv_lints, eqv_tints, forL_nil, h_hole, h_var, h_int, h_bl, h_non, h_str, h_con, h_tup, h_disp, h_bin, h_neg, h_not, h_and, h_or, h_one, h_cmp, h_chn, h_ife, h_call, h_blt, h_isi, h_ix, h_sl, wipe_nil, wipe_cons, setAll_nil, setAll_cons, bool_and, bool_or, fitI_i, fitI_n, fitI_b, fitI_s, fitI_l, fitI_t, isT_t, isT_n, isT_b, isT_i, isT_s, isT_l, zallR_t, eSs_zall, free_0, free_s, done_nx, drop_m, take_m, rev_m, app_m, rev_t, rev_l, getC_0, getC_s, getC_aj, getC_a, setC_aj, setC_a, app_c, appR_s, pop_c, popR_s, set_c, setR_s, aug_c, augR_s, aug_i, lst_c, mt_o, mtO_s, slot_0, slot_s, frz_o, frzO_c, frzR_s, ix_ti, ix_li, ix_tl, ix_ll, ix_t0, ix_t1, ix_t2, ix_l0, ix_l1, ix_l2, ix_c, ixO_s, cutL_map, cutL_f, cutL_t, cutL_ft, pairsL_map, enumL_map, rng1N, rng2N, tg1, tg2, tg3, tgO1, tgO2, tgO3, tgF1, tgF2, tgF3, tgT2, tgT3, endO_s, endR_c0, endR_cj, endR_u0, endR_uj, sum_g, sset_gl, sset_gt, lset_gl, lset_gt, max_gl, max_gt, min_gl, min_gt, max_2, min_2, eq_nilL, ne_nilL, eq_nilT, ne_nilT, eq_gl, ne_gl, eq_gt, ne_gt, rngVN, rng3D, in_gl, in_gt, nin_gl, nin_gt, in_pl, in_pt, nin_pl, nin_pt, max_pl, max_pt, min_pl, min_pt, eq_pl, ne_pl, eq_pt, ne_pt, eq_pgl, ne_pgl, eq_gpl, ne_gpl, eq_pgt, ne_pgt, eq_gpt, ne_gpt, isn_b, sset_l, sset_t, lset_l, lset_t, all_tt, any_ff, Int.natCast_nonneg, Int.cast_ofNat_Int, Bool.decide_eq_false, List.length_range', List.isEmpty_nil, List.isEmpty_cons, not_true_eq_false, not_false_eq_true, Bool.true_eq_false, eq_self, Int.reduceToNat, Int.reduceSub, Int.reduceAdd, Int.reduceNeg, Int.reduceLT, Int.reduceLE, Int.reduceMul, Nat.reduceSub, Nat.reduceMul, Int.reduceEq, Int.reduceNe, KH.TI, KH.LI, List.take_zero, List.take_nil, defI, and_true, true_and, and_false, false_and, and_self, List.set_cons_zero, List.set_cons_succ, List.length_cons, List.length_nil, List.length_map, List.length_append, List.length_range, List.cons_append, List.nil_append, List.append_assoc, Nat.zero_add, Int.toNat_natCast, reduceIte, Bool.not_true, Bool.not_false, Bool.false_eq_true, decide_true, decide_false, Bool.true_and, Bool.and_true, Bool.false_and, Bool.and_false, Bool.true_or, Bool.false_or, Bool.or_true, Bool.or_false, Bool.decide_eq_true, decide_eq_true_eq, decide_eq_false_iff_not, decide_not, Bool.not_eq_true', Nat.reduceLeDiff, Nat.reduceAdd, Bool.not_not, Option.toList, tcons, List.take_succ_cons, List.map_id_fun', id_eq, List.map_id', List.isEmpty_map, nn, h]
/-- a tuple of ints that is not rising, or not within the cycle -/
theorem fh_ints (k : Nat) (c : Nat) (B : List Int) (hl : B.length ≤ 1000) (h : ¬ ((∀ x ∈ B, 0 ≤ x ∧ x < c) ∧ (B.zip (B.drop 1)).all (fun p => decide (p.1 < p.2)) = true)) (cs : CS) : run prg (k + 3) 6 [TI B, .int (c : Int)] cs = .ok (.bool false) cs := by
  have e : (B.all fun x => decide (0 ≤ x) && decide (x ≤ (c : Int) - 1)) = decide (∀ x ∈ B, 0 ≤ x ∧ x < (c : Int)) := by
    rw [Bool.eq_iff_iff, List.all_eq_true, decide_eq_true_iff]
    exact ⟨fun h x hx => by have := h x hx; simp at this; omega, fun h x hx => by have := h x hx; simp; omega⟩
  have ri : ∀ k cs, run prg (k + 1) 3 [TI B] cs = .ok (.bool ((B.zip (B.drop 1)).all fun p => decide (p.1 < p.2))) cs := fun k cs => by
    rw [r_is_rising]
    unfold b3
    simp -implicitDefEqProofs (disch := (first | assumption | omega | (simp -implicitDefEqProofs only [all_tt, wd_non, wd_bl, wd_int, wd_str, wd_lst, wd_tup, List.all_map, List.all_cons, List.all_nil, List.all_append, Bool.and_true, Bool.and_self, Function.comp_def, List.length_map, List.length_append, List.length_cons, List.length_nil, List.length_range, List.all_eq_true, implies_true, lay_int, lays_ints, lays_nil, lays_cons, List.length_zip, List.length_drop, List.length_take, List.length_range', List.length_reverse, wd_int]; done) | (simp -implicitDefEqProofs only [all_tt, wd_non, wd_bl, wd_int, wd_str, wd_lst, wd_tup, List.all_map, List.all_cons, List.all_nil, List.all_append, Bool.and_true, Bool.and_self, Function.comp_def, List.length_map, List.length_append, List.length_cons, List.length_nil, List.length_range, List.all_eq_true, implies_true, lay_int, lays_ints, lays_nil, lays_cons, List.length_zip, List.length_drop, List.length_take, List.length_range', List.length_reverse, wd_int]; omega))) only [bd_ok, bd_exc, bd_stuck, bd_ite, ret_ok, stk_st, fetch_0, fetch_s, fetchC_0, fetchC_s, tst_bl, eE_var, eE_nev, eE_int, eE_bl, eE_non, eE_str, eE_con, boxR_f, boxR_tw, boxR_e, boxR_ite, eE_disp, eE_tup, eE_bin, eE_neg, eE_not, eE_and, eE_or, eE_one, eE_cmp, eE_chn, eE_ife, eE_call, eE_blt, eE_isi, eE_ix, intPart_i, eE_sl, eE_comp, eE_comp2, comp2L_fl, flR_comp, setTgL_nm, quietL_ok, eE_lrg1, eE_lrg2, eE_rep, eE_lsc, eE_app, eE_pop, eE_popAt, eE_idx, eE_sset, eE_lset, eE_rev, eEs_nil, eEs_cons, eI_seq, eI_rng1, eI_rng2, eI_rng3, eI_zip, eI_enm, seqR_nx, seqR_rt, seqR_exc, seqR_ite, eSs_nil, eSs_cons, eSs_frz, eSs_clr, eS_never, eS_set, eS_setT, eS_par, eS_setI, eS_aug, eS_drop, eS_doc, eS_pass, eS_retN, eS_raise, eS_ret, eS_iff, eS_forS, eS_wh, quiet_ok, quiet_ite, compL_none, compL_some, mapR_comp, mapR_ok, mapR_nil, mapR_cons, fltR_nil, fltR_cons, fltR_comp, fltR_ok, endR_nx, endR_exc, endR_keep, endR_rt, endR_int, endR_bl, endR_non, endR_ite, take_app, List.take_length, f_lt, f_gt, f_le, f_ge, eqv_int, eqv_strs, f_eqi, f_nei, f_is, f_isn, f_isb, isNon_n, isNon_b, isNon_i, isNon_s, isNon_l, isNon_t, not_b, neg_i, add_i, sub_i, len_t, len_l, abs_i, int_i, int_b, tup_t, tup_l, lst_t, lst_l, str_s, sum_l, all_l, any_l, all_nil, lit_l, lit_t, zip_l, zip_t, enm_l, cut_t, cut_l, lstOf_l, mtR_l, isi_n, isi_b, isi_i, isi_s, isi_l, isi_t, eqv_lints, eqv_tints, forL_nil, h_hole, h_var, h_int, h_bl, h_non, h_str, h_con, h_tup, h_disp, h_bin, h_neg, h_not, h_and, h_or, h_one, h_cmp, h_chn, h_ife, h_call, h_blt, h_isi, h_ix, h_sl, wipe_nil, wipe_cons, setAll_nil, setAll_cons, bool_and, bool_or, fitI_i, fitI_n, fitI_b, fitI_s, fitI_l, fitI_t, isT_t, isT_n, isT_b, isT_i, isT_s, isT_l, zallR_t, eSs_zall, free_0, free_s, done_nx, drop_m, take_m, rev_m, app_m, rev_t, rev_l, getC_0, getC_s, getC_aj, getC_a, setC_aj, setC_a, app_c, appR_s, pop_c, popR_s, set_c, setR_s, aug_c, augR_s, aug_i, lst_c, mt_o, mtO_s, slot_0, slot_s, frz_o, frzO_c, frzR_s, ix_ti, ix_li, ix_tl, ix_ll, ix_t0, ix_t1, ix_t2, ix_l0, ix_l1, ix_l2, ix_c, ixO_s, cutL_map, cutL_f, cutL_t, cutL_ft, pairsL_map, enumL_map, rng1N, rng2N, tg1, tg2, tg3, tgO1, tgO2, tgO3, tgF1, tgF2, tgF3, tgT2, tgT3, endO_s, endR_c0, endR_cj, endR_u0, endR_uj, sum_g, sset_gl, sset_gt, lset_gl, lset_gt, max_gl, max_gt, min_gl, min_gt, max_2, min_2, eq_nilL, ne_nilL, eq_nilT, ne_nilT, eq_gl, ne_gl, eq_gt, ne_gt, rngVN, rng3D, in_gl, in_gt, nin_gl, nin_gt, in_pl, in_pt, nin_pl, nin_pt, max_pl, max_pt, min_pl, min_pt, eq_pl, ne_pl, eq_pt, ne_pt, eq_pgl, ne_pgl, eq_gpl, ne_gpl, eq_pgt, ne_pgt, eq_gpt, ne_gpt, isn_b, sset_l, sset_t, lset_l, lset_t, all_tt, any_ff, Int.natCast_nonneg, Int.cast_ofNat_Int, Bool.decide_eq_false, List.length_range', List.isEmpty_nil, List.isEmpty_cons, not_true_eq_false, not_false_eq_true, Bool.true_eq_false, eq_self, Int.reduceToNat, Int.reduceSub, Int.reduceAdd, Int.reduceNeg, Int.reduceLT, Int.reduceLE, Int.reduceMul, Nat.reduceSub, Nat.reduceMul, Int.reduceEq, Int.reduceNe, KH.TI, KH.LI, List.take_zero, List.take_nil, defI, and_true, true_and, and_false, false_and, and_self, List.set_cons_zero, List.set_cons_succ, List.length_cons, List.length_nil, List.length_map, List.length_append, List.length_range, List.cons_append, List.nil_append, List.append_assoc, Nat.zero_add, Int.toNat_natCast, reduceIte, Bool.not_true, Bool.not_false, Bool.false_eq_true, decide_true, decide_false, Bool.true_and, Bool.and_true, Bool.false_and, Bool.and_false, Bool.true_or, Bool.false_or, Bool.or_true, Bool.or_false, Bool.decide_eq_true, decide_eq_true_eq, decide_eq_false_iff_not, decide_not, Bool.not_eq_true', Nat.reduceLeDiff, Nat.reduceAdd, Bool.not_not, Option.toList, tcons, List.take_succ_cons, List.map_id_fun', id_eq, List.map_id', List.isEmpty_map]
  rw [r_fits_hits]
  unfold b6
  by_cases q : ∀ x ∈ B, 0 ≤ x ∧ x < (c : Int)
  · have z : ((B.zip (B.drop 1)).all fun p => decide (p.1 < p.2)) = false := by
      rw [Bool.eq_false_iff]
      exact fun z => h ⟨q, z⟩
    rw [decide_eq_true q] at e
    by_cases w : (1 : Int) ≤ B.length ∧ (B.length : Int) ≤ c
    · simp -implicitDefEqProofs (disch := (first | assumption | omega | (simp -implicitDefEqProofs only [all_tt, wd_non, wd_bl, wd_int, wd_str, wd_lst, wd_tup, List.all_map, List.all_cons, List.all_nil, List.all_append, Bool.and_true, Bool.and_self, Function.comp_def, List.length_map, List.length_append, List.length_cons, List.length_nil, List.length_range, List.all_eq_true, implies_true, lay_int, lays_ints, lays_nil, lays_cons, List.length_zip, List.length_drop, List.length_take, List.length_range', List.length_reverse, wd_int]; done) | (simp -implicitDefEqProofs only [all_tt, wd_non, wd_bl, wd_int, wd_str, wd_lst, wd_tup, List.all_map, List.all_cons, List.all_nil, List.all_append, Bool.and_true, Bool.and_self, Function.comp_def, List.length_map, List.length_append, List.length_cons, List.length_nil, List.length_range, List.all_eq_true, implies_true, lay_int, lays_ints, lays_nil, lays_cons, List.length_zip, List.length_drop, List.length_take, List.length_range', List.length_reverse, wd_int]; omega))) only [bd_ok, bd_exc, bd_stuck, bd_ite, ret_ok, stk_st, fetch_0, fetch_s, fetchC_0, fetchC_s, tst_bl, eE_var, eE_nev, eE_int, eE_bl, eE_non, eE_str, eE_con, boxR_f, boxR_tw, boxR_e, boxR_ite, eE_disp, eE_tup, eE_bin, eE_neg, eE_not, eE_and, eE_or, eE_one, eE_cmp, eE_chn, eE_ife, eE_call, eE_blt, eE_isi, eE_ix, intPart_i, eE_sl, eE_comp, eE_comp2, comp2L_fl, flR_comp, setTgL_nm, quietL_ok, eE_lrg1, eE_lrg2, eE_rep, eE_lsc, eE_app, eE_pop, eE_popAt, eE_idx, eE_sset, eE_lset, eE_rev, eEs_nil, eEs_cons, eI_seq, eI_rng1, eI_rng2, eI_rng3, eI_zip, eI_enm, seqR_nx, seqR_rt, seqR_exc, seqR_ite, eSs_nil, eSs_cons, eSs_frz, eSs_clr, eS_never, eS_set, eS_setT, eS_par, eS_setI, eS_aug, eS_drop, eS_doc, eS_pass, eS_retN, eS_raise, eS_ret, eS_iff, eS_forS, eS_wh, quiet_ok, quiet_ite, compL_none, compL_some, mapR_comp, mapR_ok, mapR_nil, mapR_cons, fltR_nil, fltR_cons, fltR_comp, fltR_ok, endR_nx, endR_exc, endR_keep, endR_rt, endR_int, endR_bl, endR_non, endR_ite, take_app, List.take_length, f_lt, f_gt, f_le, f_ge, eqv_int, eqv_strs, f_eqi, f_nei, f_is, f_isn, f_isb, isNon_n, isNon_b, isNon_i, isNon_s, isNon_l, isNon_t, not_b, neg_i, add_i, sub_i, len_t, len_l, abs_i, int_i, int_b, tup_t, tup_l, lst_t, lst_l, str_s, sum_l, all_l, any_l, all_nil, lit_l, lit_t, zip_l, zip_t, enm_l, cut_t, cut_l, lstOf_l, mtR_l, isi_n, isi_b, isi_i, isi_s, isi_l, isi_t, eqv_lints, eqv_tints, forL_nil, h_hole, h_var, h_int, h_bl, h_non, h_str, h_con, h_tup, h_disp, h_bin, h_neg, h_not, h_and, h_or, h_one, h_cmp, h_chn, h_ife, h_call, h_blt, h_isi, h_ix, h_sl, wipe_nil, wipe_cons, setAll_nil, setAll_cons, bool_and, bool_or, fitI_i, fitI_n, fitI_b, fitI_s, fitI_l, fitI_t, isT_t, isT_n, isT_b, isT_i, isT_s, isT_l, zallR_t, eSs_zall, free_0, free_s, done_nx, drop_m, take_m, rev_m, app_m, rev_t, rev_l, getC_0, getC_s, getC_aj, getC_a, setC_aj, setC_a, app_c, appR_s, pop_c, popR_s, set_c, setR_s, aug_c, augR_s, aug_i, lst_c, mt_o, mtO_s, slot_0, slot_s, frz_o, frzO_c, frzR_s, ix_ti, ix_li, ix_tl, ix_ll, ix_t0, ix_t1, ix_t2, ix_l0, ix_l1, ix_l2, ix_c, ixO_s, cutL_map, cutL_f, cutL_t, cutL_ft, pairsL_map, enumL_map, rng1N, rng2N, tg1, tg2, tg3, tgO1, tgO2, tgO3, tgF1, tgF2, tgF3, tgT2, tgT3, endO_s, endR_c0, endR_cj, endR_u0, endR_uj, sum_g, sset_gl, sset_gt, lset_gl, lset_gt, max_gl, max_gt, min_gl, min_gt, max_2, min_2, eq_nilL, ne_nilL, eq_nilT, ne_nilT, eq_gl, ne_gl, eq_gt, ne_gt, rngVN, rng3D, in_gl, in_gt, nin_gl, nin_gt, in_pl, in_pt, nin_pl, nin_pt, max_pl, max_pt, min_pl, min_pt, eq_pl, ne_pl, eq_pt, ne_pt, eq_pgl, ne_pgl, eq_gpl, ne_gpl, eq_pgt, ne_pgt, eq_gpt, ne_gpt, isn_b, sset_l, sset_t, lset_l, lset_t, all_tt, any_ff, Int.natCast_nonneg, Int.cast_ofNat_Int, Bool.decide_eq_false, List.length_range', List.isEmpty_nil, List.isEmpty_cons, not_true_eq_false, not_false_eq_true, Bool.true_eq_false, eq_self, Int.reduceToNat, Int.reduceSub, Int.reduceAdd, Int.reduceNeg, Int.reduceLT, Int.reduceLE, Int.reduceMul, Nat.reduceSub, Nat.reduceMul, Int.reduceEq, Int.reduceNe, KH.TI, KH.LI, List.take_zero, List.take_nil, defI, and_true, true_and, and_false, false_and, and_self, List.set_cons_zero, List.set_cons_succ, List.length_cons, List.length_nil, List.length_map, List.length_append, List.length_range, List.cons_append, List.nil_append, List.append_assoc, Nat.zero_add, Int.toNat_natCast, reduceIte, Bool.not_true, Bool.not_false, Bool.false_eq_true, decide_true, decide_false, Bool.true_and, Bool.and_true, Bool.false_and, Bool.and_false, Bool.true_or, Bool.false_or, Bool.or_true, Bool.or_false, Bool.decide_eq_true, decide_eq_true_eq, decide_eq_false_iff_not, decide_not, Bool.not_eq_true', Nat.reduceLeDiff, Nat.reduceAdd, Bool.not_not, Option.toList, tcons, List.take_succ_cons, List.map_id_fun', id_eq, List.map_id', List.isEmpty_map, tu, fwi, e, ri, z, w]
    · have w2 : (decide ((1 : Int) ≤ B.length) && decide ((B.length : Int) ≤ c)) = false := by
        rw [Bool.eq_false_iff, Ne, Bool.and_eq_true, decide_eq_true_iff, decide_eq_true_iff]
        exact w
      simp -implicitDefEqProofs (disch := (first | assumption | omega | (simp -implicitDefEqProofs only [all_tt, wd_non, wd_bl, wd_int, wd_str, wd_lst, wd_tup, List.all_map, List.all_cons, List.all_nil, List.all_append, Bool.and_true, Bool.and_self, Function.comp_def, List.length_map, List.length_append, List.length_cons, List.length_nil, List.length_range, List.all_eq_true, implies_true, lay_int, lays_ints, lays_nil, lays_cons, List.length_zip, List.length_drop, List.length_take, List.length_range', List.length_reverse, wd_int]; done) | (simp -implicitDefEqProofs only [all_tt, wd_non, wd_bl, wd_int, wd_str, wd_lst, wd_tup, List.all_map, List.all_cons, List.all_nil, List.all_append, Bool.and_true, Bool.and_self, Function.comp_def, List.length_map, List.length_append, List.length_cons, List.length_nil, List.length_range, List.all_eq_true, implies_true, lay_int, lays_ints, lays_nil, lays_cons, List.length_zip, List.length_drop, List.length_take, List.length_range', List.length_reverse, wd_int]; omega))) only [bd_ok, bd_exc, bd_stuck, bd_ite, ret_ok, stk_st, fetch_0, fetch_s, fetchC_0, fetchC_s, tst_bl, eE_var, eE_nev, eE_int, eE_bl, eE_non, eE_str, eE_con, boxR_f, boxR_tw, boxR_e, boxR_ite, eE_disp, eE_tup, eE_bin, eE_neg, eE_not, eE_and, eE_or, eE_one, eE_cmp, eE_chn, eE_ife, eE_call, eE_blt, eE_isi, eE_ix, intPart_i, eE_sl, eE_comp, eE_comp2, comp2L_fl, flR_comp, setTgL_nm, quietL_ok, eE_lrg1, eE_lrg2, eE_rep, eE_lsc, eE_app, eE_pop, eE_popAt, eE_idx, eE_sset, eE_lset, eE_rev, eEs_nil, eEs_cons, eI_seq, eI_rng1, eI_rng2, eI_rng3, eI_zip, eI_enm, seqR_nx, seqR_rt, seqR_exc, seqR_ite, eSs_nil, eSs_cons, eSs_frz, eSs_clr, eS_never, eS_set, eS_setT, eS_par, eS_setI, eS_aug, eS_drop, eS_doc, eS_pass, eS_retN, eS_raise, eS_ret, eS_iff, eS_forS, eS_wh, quiet_ok, quiet_ite, compL_none, compL_some, mapR_comp, mapR_ok, mapR_nil, mapR_cons, fltR_nil, fltR_cons, fltR_comp, fltR_ok, endR_nx, endR_exc, endR_keep, endR_rt, endR_int, endR_bl, endR_non, endR_ite, take_app, List.take_length, f_lt, f_gt, f_le, f_ge, eqv_int, eqv_strs, f_eqi, f_nei, f_is, f_isn, f_isb, isNon_n, isNon_b, isNon_i, isNon_s, isNon_l, isNon_t, not_b, neg_i, add_i, sub_i, len_t, len_l, abs_i, int_i, int_b, tup_t, tup_l, lst_t, lst_l, str_s, sum_l, all_l, any_l, all_nil, lit_l, lit_t, zip_l, zip_t, enm_l, cut_t, cut_l, lstOf_l, mtR_l, isi_n, isi_b, isi_i, isi_s, isi_l, isi_t, eqv_lints, eqv_tints, forL_nil, h_hole, h_var, h_int, h_bl, h_non, h_str, h_con, h_tup, h_disp, h_bin, h_neg, h_not, h_and, h_or, h_one, h_cmp, h_chn, h_ife, h_call, h_blt, h_isi, h_ix, h_sl, wipe_nil, wipe_cons, setAll_nil, setAll_cons, bool_and, bool_or, fitI_i, fitI_n, fitI_b, fitI_s, fitI_l, fitI_t, isT_t, isT_n, isT_b, isT_i, isT_s, isT_l, zallR_t, eSs_zall, free_0, free_s, done_nx, drop_m, take_m, rev_m, app_m, rev_t, rev_l, getC_0, getC_s, getC_aj, getC_a, setC_aj, setC_a, app_c, appR_s, pop_c, popR_s, set_c, setR_s, aug_c, augR_s, aug_i, lst_c, mt_o, mtO_s, slot_0, slot_s, frz_o, frzO_c, frzR_s, ix_ti, ix_li, ix_tl, ix_ll, ix_t0, ix_t1, ix_t2, ix_l0, ix_l1, ix_l2, ix_c, ixO_s, cutL_map, cutL_f, cutL_t, cutL_ft, pairsL_map, enumL_map, rng1N, rng2N, tg1, tg2, tg3, tgO1, tgO2, tgO3, tgF1, tgF2, tgF3, tgT2, tgT3, endO_s, endR_c0, endR_cj, endR_u0, endR_uj, sum_g, sset_gl, sset_gt, lset_gl, lset_gt, max_gl, max_gt, min_gl, min_gt, max_2, min_2, eq_nilL, ne_nilL, eq_nilT, ne_nilT, eq_gl, ne_gl, eq_gt, ne_gt, rngVN, rng3D, in_gl, in_gt, nin_gl, nin_gt, in_pl, in_pt, nin_pl, nin_pt, max_pl, max_pt, min_pl, min_pt, eq_pl, ne_pl, eq_pt, ne_pt, eq_pgl, ne_pgl, eq_gpl, ne_gpl, eq_pgt, ne_pgt, eq_gpt, ne_gpt, isn_b, sset_l, sset_t, lset_l, lset_t, all_tt, any_ff, Int.natCast_nonneg, Int.cast_ofNat_Int, Bool.decide_eq_false, List.length_range', List.isEmpty_nil, List.isEmpty_cons, not_true_eq_false, not_false_eq_true, Bool.true_eq_false, eq_self, Int.reduceToNat, Int.reduceSub, Int.reduceAdd, Int.reduceNeg, Int.reduceLT, Int.reduceLE, Int.reduceMul, Nat.reduceSub, Nat.reduceMul, Int.reduceEq, Int.reduceNe, KH.TI, KH.LI, List.take_zero, List.take_nil, defI, and_true, true_and, and_false, false_and, and_self, List.set_cons_zero, List.set_cons_succ, List.length_cons, List.length_nil, List.length_map, List.length_append, List.length_range, List.cons_append, List.nil_append, List.append_assoc, Nat.zero_add, Int.toNat_natCast, reduceIte, Bool.not_true, Bool.not_false, Bool.false_eq_true, decide_true, decide_false, Bool.true_and, Bool.and_true, Bool.false_and, Bool.and_false, Bool.true_or, Bool.false_or, Bool.or_true, Bool.or_false, Bool.decide_eq_true, decide_eq_true_eq, decide_eq_false_iff_not, decide_not, Bool.not_eq_true', Nat.reduceLeDiff, Nat.reduceAdd, Bool.not_not, Option.toList, tcons, List.take_succ_cons, List.map_id_fun', id_eq, List.map_id', List.isEmpty_map, tu, fwi, e, ri, z, w2]
  · rw [decide_eq_false q] at e
    simp -implicitDefEqProofs (disch := (first | assumption | omega | (simp -implicitDefEqProofs only [all_tt, wd_non, wd_bl, wd_int, wd_str, wd_lst, wd_tup, List.all_map, List.all_cons, List.all_nil, List.all_append, Bool.and_true, Bool.and_self, Function.comp_def, List.length_map, List.length_append, List.length_cons, List.length_nil, List.length_range, List.all_eq_true, implies_true, lay_int, lays_ints, lays_nil, lays_cons, List.length_zip, List.length_drop, List.length_take, List.length_range', List.length_reverse, wd_int]; done) | (simp -implicitDefEqProofs only [all_tt, wd_non, wd_bl, wd_int, wd_str, wd_lst, wd_tup, List.all_map, List.all_cons, List.all_nil, List.all_append, Bool.and_true, Bool.and_self, Function.comp_def, List.length_map, List.length_append, List.length_cons, List.length_nil, List.length_range, List.all_eq_true, implies_true, lay_int, lays_ints, lays_nil, lays_cons, List.length_zip, List.length_drop, List.length_take, List.length_range', List.length_reverse, wd_int]; omega))) only [bd_ok, bd_exc, bd_stuck, bd_ite, ret_ok, stk_st, fetch_0, fetch_s, fetchC_0, fetchC_s, tst_bl, eE_var, eE_nev, eE_int, eE_bl, eE_non, eE_str, eE_con, boxR_f, boxR_tw, boxR_e, boxR_ite, eE_disp, eE_tup, eE_bin, eE_neg, eE_not, eE_and, eE_or, eE_one, eE_cmp, eE_chn, eE_ife, eE_call, eE_blt, eE_isi, eE_ix, intPart_i, eE_sl, eE_comp, eE_comp2, comp2L_fl, flR_comp, setTgL_nm, quietL_ok, eE_lrg1, eE_lrg2, eE_rep, eE_lsc, eE_app, eE_pop, eE_popAt, eE_idx, eE_sset, eE_lset, eE_rev, eEs_nil, eEs_cons, eI_seq, eI_rng1, eI_rng2, eI_rng3, eI_zip, eI_enm, seqR_nx, seqR_rt, seqR_exc, seqR_ite, eSs_nil, eSs_cons, eSs_frz, eSs_clr, eS_never, eS_set, eS_setT, eS_par, eS_setI, eS_aug, eS_drop, eS_doc, eS_pass, eS_retN, eS_raise, eS_ret, eS_iff, eS_forS, eS_wh, quiet_ok, quiet_ite, compL_none, compL_some, mapR_comp, mapR_ok, mapR_nil, mapR_cons, fltR_nil, fltR_cons, fltR_comp, fltR_ok, endR_nx, endR_exc, endR_keep, endR_rt, endR_int, endR_bl, endR_non, endR_ite, take_app, List.take_length, f_lt, f_gt, f_le, f_ge, eqv_int, eqv_strs, f_eqi, f_nei, f_is, f_isn, f_isb, isNon_n, isNon_b, isNon_i, isNon_s, isNon_l, isNon_t, not_b, neg_i, add_i, sub_i, len_t, len_l, abs_i, int_i, int_b, tup_t, tup_l, lst_t, lst_l, str_s, sum_l, all_l, any_l, all_nil, lit_l, lit_t, zip_l, zip_t, enm_l, cut_t, cut_l, lstOf_l, mtR_l, isi_n, isi_b, isi_i, isi_s, isi_l, isi_t, eqv_lints, eqv_tints, forL_nil, h_hole, h_var, h_int, h_bl, h_non, h_str, h_con, h_tup, h_disp, h_bin, h_neg, h_not, h_and, h_or, h_one, h_cmp, h_chn, h_ife, h_call, h_blt, h_isi, h_ix, h_sl, wipe_nil, wipe_cons, setAll_nil, setAll_cons, bool_and, bool_or, fitI_i, fitI_n, fitI_b, fitI_s, fitI_l, fitI_t, isT_t, isT_n, isT_b, isT_i, isT_s, isT_l, zallR_t, eSs_zall, free_0, free_s, done_nx, drop_m, take_m, rev_m, app_m, rev_t, rev_l, getC_0, getC_s, getC_aj, getC_a, setC_aj, setC_a, app_c, appR_s, pop_c, popR_s, set_c, setR_s, aug_c, augR_s, aug_i, lst_c, mt_o, mtO_s, slot_0, slot_s, frz_o, frzO_c, frzR_s, ix_ti, ix_li, ix_tl, ix_ll, ix_t0, ix_t1, ix_t2, ix_l0, ix_l1, ix_l2, ix_c, ixO_s, cutL_map, cutL_f, cutL_t, cutL_ft, pairsL_map, enumL_map, rng1N, rng2N, tg1, tg2, tg3, tgO1, tgO2, tgO3, tgF1, tgF2, tgF3, tgT2, tgT3, endO_s, endR_c0, endR_cj, endR_u0, endR_uj, sum_g, sset_gl, sset_gt, lset_gl, lset_gt, max_gl, max_gt, min_gl, min_gt, max_2, min_2, eq_nilL, ne_nilL, eq_nilT, ne_nilT, eq_gl, ne_gl, eq_gt, ne_gt, rngVN, rng3D, in_gl, in_gt, nin_gl, nin_gt, in_pl, in_pt, nin_pl, nin_pt, max_pl, max_pt, min_pl, min_pt, eq_pl, ne_pl, eq_pt, ne_pt, eq_pgl, ne_pgl, eq_gpl, ne_gpl, eq_pgt, ne_pgt, eq_gpt, ne_gpt, isn_b, sset_l, sset_t, lset_l, lset_t, all_tt, any_ff, Int.natCast_nonneg, Int.cast_ofNat_Int, Bool.decide_eq_false, List.length_range', List.isEmpty_nil, List.isEmpty_cons, not_true_eq_false, not_false_eq_true, Bool.true_eq_false, eq_self, Int.reduceToNat, Int.reduceSub, Int.reduceAdd, Int.reduceNeg, Int.reduceLT, Int.reduceLE, Int.reduceMul, Nat.reduceSub, Nat.reduceMul, Int.reduceEq, Int.reduceNe, KH.TI, KH.LI, List.take_zero, List.take_nil, defI, and_true, true_and, and_false, false_and, and_self, List.set_cons_zero, List.set_cons_succ, List.length_cons, List.length_nil, List.length_map, List.length_append, List.length_range, List.cons_append, List.nil_append, List.append_assoc, Nat.zero_add, Int.toNat_natCast, reduceIte, Bool.not_true, Bool.not_false, Bool.false_eq_true, decide_true, decide_false, Bool.true_and, Bool.and_true, Bool.false_and, Bool.and_false, Bool.true_or, Bool.false_or, Bool.or_true, Bool.or_false, Bool.decide_eq_true, decide_eq_true_eq, decide_eq_false_iff_not, decide_not, Bool.not_eq_true', Nat.reduceLeDiff, Nat.reduceAdd, Bool.not_not, Option.toList, tcons, List.take_succ_cons, List.map_id_fun', id_eq, List.map_id', List.isEmpty_map, tu, fwi, e]
end KP

/-! k81: fillings the other way about, and turned. -/
namespace KP
open KH
theorem cnt_sum {c : Nat} {A : List Int} (h : Hits c A) (t : Nat) (ht : t < c) : ∀ B : List Int, cnt c A B t = (B.map fun b => A.countP fun a => decide (((b + a) % (c : Int)).toNat = t)).sum
  | [] => rfl
  | b :: B => by
    rw [List.map_cons, List.sum_cons, ← cnt_sum h t ht B, cnt_mem h b t ht]
    unfold cnt
    rw [List.countP_cons]
    by_cases hm : ((t : Int) - b) % (c : Int) ∈ A <;> simp [hm] <;> omega
theorem swap_sum {α β : Type} (P : α → β → Bool) (A : List β) : ∀ B : List α, (B.map fun b => A.countP fun a => P b a).sum = (A.map fun a => B.countP fun b => P b a).sum
  | [] => by
    induction A with
    | nil => rfl
    | cons a A ih => simpa using ih
  | b :: B => by
    rw [List.map_cons, List.sum_cons, swap_sum P A B]
    have key : ∀ A : List β, A.countP (fun a => P b a) + (A.map fun a => B.countP fun b => P b a).sum = (A.map fun a => (b :: B).countP fun b => P b a).sum := by
      intro A
      induction A with
      | nil => rfl
      | cons a A ih =>
        rw [List.countP_cons, List.map_cons, List.sum_cons, List.map_cons, List.sum_cons, ← ih, List.countP_cons]
        omega
    exact key A
theorem cnt_comm {c : Nat} {A B : List Int} (hA : Hits c A) (hB : Hits c B) (t : Nat) (ht : t < c) : cnt c A B t = cnt c B A t := by
  rw [cnt_sum hA t ht, cnt_sum hB t ht, swap_sum]
  simp only [Int.add_comm]
theorem til_comm {c : Nat} {A B : List Int} (hA : Hits c A) (hB : Hits c B) (h : Til c A B) : Til c B A := fun t ht => by
  rw [← cnt_comm hA hB t ht]
  exact h t ht
end KP
namespace KP
open KH
theorem trn_hits {c : Nat} {A : List Int} (h : Hits c A) (hc : 0 < c) (u : Int) : Hits c (trn c A u) ∧ (∀ x, x ∈ trn c A u ↔ 0 ≤ x ∧ x < c ∧ (x - u) % (c : Int) ∈ A) := by
  have mem : ∀ x, x ∈ trn c A u ↔ ∃ a ∈ A, (a + u) % (c : Int) = x := fun x => by
    unfold trn
    rw [(sortI_perm _).mem_iff, List.mem_map]
  have inj : ∀ a ∈ A, ∀ b ∈ A, (a + u) % (c : Int) = (b + u) % (c : Int) → a = b := fun a ha b hb e => by
    have h1 := h.bd a ha
    have h2 := h.bd b hb
    have e2 : ((a + u) - u) % (c : Int) = ((b + u) - u) % (c : Int) := by rw [← Int.emod_sub_emod, e, Int.emod_sub_emod]
    rw [show a + u - u = a by omega, show b + u - u = b by omega, Int.emod_eq_of_lt h1.1 h1.2, Int.emod_eq_of_lt h2.1 h2.2] at e2
    exact e2
  have nd : (A.map fun a => (a + u) % (c : Int)).Nodup := by
    rw [List.nodup_iff_pairwise_ne, List.pairwise_map]
    refine h.lt.imp_of_mem fun {a b} ha hb hab e => ?_
    have := inj a ha b hb e
    omega
  refine ⟨⟨fun e => ?_, sortI_lt nd, fun x hx => ?_⟩, fun x => ?_⟩
  · have := congrArg List.length e
    unfold trn at this
    rw [(sortI_perm _).length_eq, List.length_map] at this
    exact h.one (List.length_eq_zero_iff.mp this)
  · obtain ⟨a, -, rfl⟩ := (mem x).mp hx
    exact ⟨Int.emod_nonneg _ (by omega), Int.emod_lt_of_pos _ (by omega)⟩
  · rw [mem]
    constructor
    · rintro ⟨a, ha, rfl⟩
      have h1 := h.bd a ha
      refine ⟨Int.emod_nonneg _ (by omega), Int.emod_lt_of_pos _ (by omega), ?_⟩
      rw [Int.emod_sub_emod, show a + u - u = a by omega, Int.emod_eq_of_lt h1.1 h1.2]
      exact ha
    · rintro ⟨h0, h1, hm⟩
      refine ⟨_, hm, ?_⟩
      rw [Int.emod_add_emod, show x - u + u = x by omega, Int.emod_eq_of_lt h0 h1]
/-- a filling, turned, is one -/
theorem til_trn {c : Nat} {A B : List Int} (h : Hits c A) (hc : 0 < c) (u : Int) (t : Til c A B) : Til c (trn c A u) B := fun x hx => by
  have p1 := Int.emod_nonneg ((x : Int) - u) (show (c : Int) ≠ 0 by omega)
  have p2 := Int.emod_lt_of_pos ((x : Int) - u) (show (0 : Int) < c by omega)
  have := t (((x : Int) - u) % (c : Int)).toNat (by omega)
  rw [← this]
  unfold cnt
  refine List.countP_congr fun b _ => ?_
  rw [decide_eq_true_iff, decide_eq_true_iff, (trn_hits h hc u).2, Int.toNat_of_nonneg p1]
  have q1 := Int.emod_nonneg ((x : Int) - b) (show (c : Int) ≠ 0 by omega)
  have q2 := Int.emod_lt_of_pos ((x : Int) - b) (show (0 : Int) < c by omega)
  rw [Int.emod_sub_emod, Int.emod_sub_emod, show (x : Int) - b - u = x - u - b by omega]
  exact ⟨fun h => h.2.2, fun h => ⟨q1, q2, h⟩⟩
end KP

/-! k81: values for the law's fixed rows. -/
namespace KP
open KH
theorem trn_sset {c : Nat} {A : List Int} (h : Hits c A) (hc : 0 < c) (u : Int) : trn c A u = ssetL (A.map fun a => (a + u) % (c : Int)) := by
  refine lt_unique (trn_hits h hc u).1.lt (ssetL_lt _) fun z => ?_
  rw [ssetL_mem]
  unfold trn
  rw [(sortI_perm _).mem_iff]
/-- periods, by what the kernel can reckon -/
def perK (c : Nat) (A : List Int) : Nat := ((List.range' 1 c).filter fun (t : Nat) => decide (ssetL (A.map fun a => (a + (t : Int)) % (c : Int)) = A)).headD 0
theorem per_K {c : Nat} {A : List Int} (h : Hits c A) (hc : 0 < c) : per c A = perK c A := by
  unfold per perK pl
  congr 1
  refine List.filter_congr fun t _ => ?_
  rw [trn_sset h hc]
instance (c : Nat) (A : List Int) : Decidable (Hits c A) := decidable_of_iff (A ≠ [] ∧ A.Pairwise (· < ·) ∧ ∀ a ∈ A, 0 ≤ a ∧ a < c) ⟨fun ⟨a, b, c⟩ => ⟨a, b, c⟩, fun h => ⟨h.one, h.lt, h.bd⟩⟩
theorem v1 : cntL 4 [0, 1] [0, 1] = [1, 2, 1, 0] := by decide +kernel
theorem v2 : LF 4 [0, 2] = [[0, 1], [0, 3]] := by decide +kernel
theorem v3 : LF 4 [0, 1, 2] = [] := by decide +kernel
theorem v4 : trn 4 [0, 1] 3 = [0, 3] := by
  rw [trn_sset (by decide +kernel) (by decide)]
  decide +kernel
theorem v6 : per 6 [0, 2, 4] = 2 := by
  rw [per_K (by decide +kernel) (by decide)]
  decide +kernel
theorem v7 : per 6 [0, 3] = 3 := by
  rw [per_K (by decide +kernel) (by decide)]
  decide +kernel
theorem v8 : per 6 [0, 1] = 6 := by
  rw [per_K (by decide +kernel) (by decide)]
  decide +kernel
theorem v9 : LF 6 [0, 5] = [[0, 2, 4]] := by decide +kernel
theorem v10 : Til 4 [0, 1] [0, 2] ∧ ¬ Til 4 [0, 1] [0, 1] := by decide +kernel
end KP

namespace KP
open PySem PySem.Spec PyProof.Rows L2 KH
theorem hT (c : Nat) (A : List Int) (h : Hits c A) (h0 : 0 < c) (h1 : c ≤ 24) : HitsT c A := ⟨h, h0, h1⟩
theorem rr (s : CS) : run prg 19 26 [] s = .ok (.bool true) s := by
  have A01 : HitsT 4 [0, 1] := hT _ _ (by decide +kernel) (by decide) (by decide)
  have A02 : HitsT 4 [0, 2] := hT _ _ (by decide +kernel) (by decide) (by decide)
  have A012 : HitsT 4 [0, 1, 2] := hT _ _ (by decide +kernel) (by decide) (by decide)
  have B01 : HitsT 8 [0, 1] := hT _ _ (by decide +kernel) (by decide) (by decide)
  have B04 : HitsT 8 [0, 4] := hT _ _ (by decide +kernel) (by decide) (by decide)
  have C024 : HitsT 6 [0, 2, 4] := hT _ _ (by decide +kernel) (by decide) (by decide)
  have C03 : HitsT 6 [0, 3] := hT _ _ (by decide +kernel) (by decide) (by decide)
  have C01 : HitsT 6 [0, 1] := hT _ _ (by decide +kernel) (by decide) (by decide)
  have C05 : HitsT 6 [0, 5] := hT _ _ (by decide +kernel) (by decide) (by decide)
  have e1 : ∀ c, run prg 18 13 [.int 4, .tuple [.int 0, .int 1], .tuple [.int 0, .int 1]] c = .ok (.tuple [.int 1, .int 2, .int 1, .int 0]) c := fun c => by
    have := hco 13 4 [0, 1] [0, 1] A01 A01 c
    rw [v1] at this
    exact this
  have e2 : ∀ c, run prg 18 12 [.int 4, .tuple [.int 0, .int 2]] c = .ok (.tuple [.tuple [.int 0, .int 1], .tuple [.int 0, .int 3]]) c := fun c => by
    have := fio 13 4 [0, 2] A02 (by decide) c
    rw [v2] at this
    exact this
  have e3 : ∀ c, run prg 18 12 [.int 4, .tuple [.int 0, .int 1, .int 2]] c = .ok (.tuple []) c := fun c => by
    have := fio 13 4 [0, 1, 2] A012 (by decide) c
    rw [v3] at this
    exact this
  have e4 : ∀ c, run prg 18 14 [.int 4, .tuple [.int 0, .int 1], .int 3] c = .ok (.tuple [.int 0, .int 3]) c := fun c => by
    have := tho 13 4 [0, 1] A01 3 (by decide) (by decide) c
    rw [v4] at this
    exact this
  have e5 : ∀ c, run prg 18 15 [.int 8, .tuple [.int 0, .int 1], .int 3] c = .ok (.tuple [.int 0, .int 3]) c := fun c => by
    have := tmo 13 8 [0, 1] B01 3 (by decide) (by decide) c
    rw [show tms 8 [0, 1] 3 = [0, 3] from by decide +kernel] at this
    exact this
  have e6 : ∀ c, run prg 18 15 [.int 8, .tuple [.int 0, .int 4], .int 2] c = .ok .none c := fun c => by
    have := tmo 13 8 [0, 4] B04 2 (by decide) (by decide) c
    rw [show tms 8 [0, 4] 2 = [0] from by decide +kernel] at this
    exact this
  have e7 : ∀ c, run prg 18 16 [.int 6, .tuple [.int 0, .int 2, .int 4]] c = .ok (.int 2) c := fun c => by
    have := hpo 13 6 [0, 2, 4] C024 c
    rw [v6] at this
    exact this
  have e8 : ∀ c, run prg 18 17 [.int 8, .int 3] c = .ok (.tuple [.int 0, .int 2, .int 5]) c := fun c => eho 14 8 3 (by decide) (by decide) (by decide) c
  have e9 : ∀ c, run prg 18 18 [.int 6, .tuple [.int 0, .int 3], .tuple [.int 0, .int 2, .int 4]] c = .ok (.int 1) c := fun c => by
    have := cpo 12 6 [0, 3] [0, 2, 4] C03 C024 c
    rw [v6, v7] at this
    exact this
  have e10 : ∀ c, run prg 18 16 [.int 6, .tuple [.int 0, .int 1]] c = .ok (.int 6) c := fun c => by
    have := hpo 13 6 [0, 1] C01 c
    rw [v8] at this
    exact this
  have e11 : ∀ c, run prg 18 12 [.int 6, .tuple [.int 0, .int 5]] c = .ok (.tuple [.tuple [.int 0, .int 2, .int 4]]) c := fun c => by
    have := fio 13 6 [0, 5] C05 (by decide) c
    rw [v9] at this
    exact this
  have e12 : ∀ c, run prg 18 11 [.int 4, .tuple [.int 0, .int 1], .tuple [.int 0, .int 2]] c = .ok (.bool true) c := fun c => by
    have := isf 13 4 [0, 1] [0, 2] A01 A02 c
    rw [decide_eq_true v10.1] at this
    exact this
  have e13 : ∀ c, run prg 18 11 [.int 4, .tuple [.int 0, .int 1], .tuple [.int 0, .int 1]] c = .ok (.bool false) c := fun c => by
    have := isf 13 4 [0, 1] [0, 1] A01 A01 c
    rw [decide_eq_false v10.2] at this
    exact this
  have sm : ∀ (d : D), szN 4 d = true → ∀ c, run prg 18 22 [d, d] c = .ok (.bool true) c := fun d h c => same_ok h__law_same 9 d h c
  have m1 := sm (.tuple [.tuple [.int 0, .int 2, .int 4]]) (by decide +kernel)
  have m2 := sm (.tuple [.tuple [.int 1, .int 2, .int 1, .int 0], .tuple [.tuple [.int 0, .int 1], .tuple [.int 0, .int 3]], .tuple [], .tuple [.int 0, .int 3], .tuple [.int 0, .int 3], .none, .int 2, .tuple [.int 0, .int 2, .int 5], .int 1, .int 6]) (by decide +kernel)
  have ad : ∀ (a1 a2 a3 a4 a5 b1 b2 b3 b4 b5 : D) c, Bop.add.fn (.tuple [a1, a2, a3, a4, a5]) (.tuple [b1, b2, b3, b4, b5]) c = .ok (.tuple [a1, a2, a3, a4, a5, b1, b2, b3, b4, b5]) c := fun _ _ _ _ _ _ _ _ _ _ c => add_t _ _ _ (by show 10 ≤ 16777216; decide)
  rw [r__law_rows_right]
  unfold b26
  simp -implicitDefEqProofs (disch := (first | assumption | omega | (simp -implicitDefEqProofs only [all_tt, wd_non, wd_bl, wd_int, wd_str, wd_lst, wd_tup, List.all_map, List.all_cons, List.all_nil, List.all_append, Bool.and_true, Bool.and_self, Function.comp_def, List.length_map, List.length_append, List.length_cons, List.length_nil, List.length_range, List.all_eq_true, implies_true, lay_int, lays_ints, lays_nil, lays_cons, List.length_zip, List.length_drop, List.length_take, List.length_range', List.length_reverse, wd_int]; done) | (simp -implicitDefEqProofs only [all_tt, wd_non, wd_bl, wd_int, wd_str, wd_lst, wd_tup, List.all_map, List.all_cons, List.all_nil, List.all_append, Bool.and_true, Bool.and_self, Function.comp_def, List.length_map, List.length_append, List.length_cons, List.length_nil, List.length_range, List.all_eq_true, implies_true, lay_int, lays_ints, lays_nil, lays_cons, List.length_zip, List.length_drop, List.length_take, List.length_range', List.length_reverse, wd_int]; omega))) only [bd_ok, bd_exc, bd_stuck, bd_ite, ret_ok, stk_st, fetch_0, fetch_s, fetchC_0, fetchC_s, tst_bl, eE_var, eE_nev, eE_int, eE_bl, eE_non, eE_str, eE_con, boxR_f, boxR_tw, boxR_e, boxR_ite, eE_disp, eE_tup, eE_bin, eE_neg, eE_not, eE_and, eE_or, eE_one, eE_cmp, eE_chn, eE_ife, eE_call, eE_blt, eE_isi, eE_ix, intPart_i, eE_sl, eE_comp, eE_comp2, comp2L_fl, flR_comp, setTgL_nm, quietL_ok, eE_lrg1, eE_lrg2, eE_rep, eE_lsc, eE_app, eE_pop, eE_popAt, eE_idx, eE_sset, eE_lset, eE_rev, eEs_nil, eEs_cons, eI_seq, eI_rng1, eI_rng2, eI_rng3, eI_zip, eI_enm, seqR_nx, seqR_rt, seqR_exc, seqR_ite, eSs_nil, eSs_cons, eSs_frz, eSs_clr, eS_never, eS_set, eS_setT, eS_par, eS_setI, eS_aug, eS_drop, eS_doc, eS_pass, eS_retN, eS_raise, eS_ret, eS_iff, eS_forS, eS_wh, quiet_ok, quiet_ite, compL_none, compL_some, mapR_comp, mapR_ok, mapR_nil, mapR_cons, fltR_nil, fltR_cons, fltR_comp, fltR_ok, endR_nx, endR_exc, endR_keep, endR_rt, endR_int, endR_bl, endR_non, endR_ite, take_app, List.take_length, f_lt, f_gt, f_le, f_ge, eqv_int, eqv_strs, f_eqi, f_nei, f_is, f_isn, f_isb, isNon_n, isNon_b, isNon_i, isNon_s, isNon_l, isNon_t, not_b, neg_i, add_i, sub_i, len_t, len_l, abs_i, int_i, int_b, tup_t, tup_l, lst_t, lst_l, str_s, sum_l, all_l, any_l, all_nil, lit_l, lit_t, zip_l, zip_t, enm_l, cut_t, cut_l, lstOf_l, mtR_l, isi_n, isi_b, isi_i, isi_s, isi_l, isi_t, eqv_lints, eqv_tints, forL_nil, h_hole, h_var, h_int, h_bl, h_non, h_str, h_con, h_tup, h_disp, h_bin, h_neg, h_not, h_and, h_or, h_one, h_cmp, h_chn, h_ife, h_call, h_blt, h_isi, h_ix, h_sl, wipe_nil, wipe_cons, setAll_nil, setAll_cons, bool_and, bool_or, fitI_i, fitI_n, fitI_b, fitI_s, fitI_l, fitI_t, isT_t, isT_n, isT_b, isT_i, isT_s, isT_l, zallR_t, eSs_zall, free_0, free_s, done_nx, drop_m, take_m, rev_m, app_m, rev_t, rev_l, getC_0, getC_s, getC_aj, getC_a, setC_aj, setC_a, app_c, appR_s, pop_c, popR_s, set_c, setR_s, aug_c, augR_s, aug_i, lst_c, mt_o, mtO_s, slot_0, slot_s, frz_o, frzO_c, frzR_s, ix_ti, ix_li, ix_tl, ix_ll, ix_t0, ix_t1, ix_t2, ix_l0, ix_l1, ix_l2, ix_c, ixO_s, cutL_map, cutL_f, cutL_t, cutL_ft, pairsL_map, enumL_map, rng1N, rng2N, tg1, tg2, tg3, tgO1, tgO2, tgO3, tgF1, tgF2, tgF3, tgT2, tgT3, endO_s, endR_c0, endR_cj, endR_u0, endR_uj, sum_g, sset_gl, sset_gt, lset_gl, lset_gt, max_gl, max_gt, min_gl, min_gt, max_2, min_2, eq_nilL, ne_nilL, eq_nilT, ne_nilT, eq_gl, ne_gl, eq_gt, ne_gt, rngVN, rng3D, in_gl, in_gt, nin_gl, nin_gt, in_pl, in_pt, nin_pl, nin_pt, max_pl, max_pt, min_pl, min_pt, eq_pl, ne_pl, eq_pt, ne_pt, eq_pgl, ne_pgl, eq_gpl, ne_gpl, eq_pgt, ne_pgt, eq_gpt, ne_gpt, isn_b, sset_l, sset_t, lset_l, lset_t, all_tt, any_ff, Int.natCast_nonneg, Int.cast_ofNat_Int, Bool.decide_eq_false, List.length_range', List.isEmpty_nil, List.isEmpty_cons, not_true_eq_false, not_false_eq_true, Bool.true_eq_false, eq_self, Int.reduceToNat, Int.reduceSub, Int.reduceAdd, Int.reduceNeg, Int.reduceLT, Int.reduceLE, Int.reduceMul, Nat.reduceSub, Nat.reduceMul, Int.reduceEq, Int.reduceNe, KH.TI, KH.LI, List.take_zero, List.take_nil, defI, and_true, true_and, and_false, false_and, and_self, List.set_cons_zero, List.set_cons_succ, List.length_cons, List.length_nil, List.length_map, List.length_append, List.length_range, List.cons_append, List.nil_append, List.append_assoc, Nat.zero_add, Int.toNat_natCast, reduceIte, Bool.not_true, Bool.not_false, Bool.false_eq_true, decide_true, decide_false, Bool.true_and, Bool.and_true, Bool.false_and, Bool.and_false, Bool.true_or, Bool.false_or, Bool.or_true, Bool.or_false, Bool.decide_eq_true, decide_eq_true_eq, decide_eq_false_iff_not, decide_not, Bool.not_eq_true', Nat.reduceLeDiff, Nat.reduceAdd, Bool.not_not, Option.toList, tcons, List.take_succ_cons, List.map_id_fun', id_eq, List.map_id', List.isEmpty_map, e1, e2, e3, e4, e5, e6, e7, e8, e9, e10, e11, e12, e13, m1, m2, ad]
end KP

namespace KP
open PySem PySem.Spec PyProof.Rows L2 KH
theorem zip_rise : ∀ {S : List Int}, (S.zip (S.drop 1)).all (fun p => decide (p.1 < p.2)) = true → S.Pairwise (· < ·)
  | [], _ => .nil
  | [x], _ => by simp
  | x :: y :: S, h => by
    simp only [List.drop_one, List.tail_cons, List.zip_cons_cons, List.all_cons, Bool.and_eq_true, decide_eq_true_eq] at h
    have ih := zip_rise (S := y :: S) (by simpa using h.2)
    refine List.pairwise_cons.mpr ⟨fun z hz => ?_, ih⟩
    rcases List.mem_cons.mp hz with rfl | hz
    · exact h.1
    · have := (List.pairwise_cons.mp ih).1 z hz
      omega
/-- what is said again is not rising -/
theorem not_rise (X Y : List Int) (a : Int) (hx : a ∈ X) (hy : a ∈ Y) : ¬ ((X ++ Y).zip ((X ++ Y).drop 1)).all (fun p => decide (p.1 < p.2)) = true := fun h => by
  have := (List.pairwise_append.mp (zip_rise h)).2.2 a hx a hy
  omega
theorem odd_rep (c : Nat) (X Y : List Int) (a : Int) (hx : a ∈ X) (hy : a ∈ Y) (hl : (X ++ Y).length ≤ 1000) (k : Nat) (cs : CS) : run prg (k + 3) 6 [TI (X ++ Y), .int (c : Int)] cs = .ok (.bool false) cs :=
  fh_ints k c (X ++ Y) hl (fun h => not_rise X Y a hx hy h.2) cs
theorem odd_tt (c : Nat) (k : Nat) (cs : CS) : run prg (k + 3) 6 [.tuple [.bool true, .bool true], .int (c : Int)] cs = .ok (.bool false) cs := by
  have h1 : ∀ k cs, run prg (k + 2) 1 [.bool true, .int 0, .int ((c : Int) - 1)] cs = .ok (.bool false) cs := fun k cs => fw k 0 _ (.bool true) (by simp) cs
  have h2 : ∀ cs, Blt.all.fn [.list [.bool false, .bool false]] cs = .ok (.bool false) cs := fun cs => rfl
  rw [r_fits_hits]
  unfold b6
  by_cases q : (2 : Int) ≤ (c : Int)
  · simp -implicitDefEqProofs (disch := (first | assumption | omega | (simp -implicitDefEqProofs only [all_tt, wd_non, wd_bl, wd_int, wd_str, wd_lst, wd_tup, List.all_map, List.all_cons, List.all_nil, List.all_append, Bool.and_true, Bool.and_self, Function.comp_def, List.length_map, List.length_append, List.length_cons, List.length_nil, List.length_range, List.all_eq_true, implies_true, lay_int, lays_ints, lays_nil, lays_cons, List.length_zip, List.length_drop, List.length_take, List.length_range', List.length_reverse, wd_int]; done) | (simp -implicitDefEqProofs only [all_tt, wd_non, wd_bl, wd_int, wd_str, wd_lst, wd_tup, List.all_map, List.all_cons, List.all_nil, List.all_append, Bool.and_true, Bool.and_self, Function.comp_def, List.length_map, List.length_append, List.length_cons, List.length_nil, List.length_range, List.all_eq_true, implies_true, lay_int, lays_ints, lays_nil, lays_cons, List.length_zip, List.length_drop, List.length_take, List.length_range', List.length_reverse, wd_int]; omega))) only [bd_ok, bd_exc, bd_stuck, bd_ite, ret_ok, stk_st, fetch_0, fetch_s, fetchC_0, fetchC_s, tst_bl, eE_var, eE_nev, eE_int, eE_bl, eE_non, eE_str, eE_con, boxR_f, boxR_tw, boxR_e, boxR_ite, eE_disp, eE_tup, eE_bin, eE_neg, eE_not, eE_and, eE_or, eE_one, eE_cmp, eE_chn, eE_ife, eE_call, eE_blt, eE_isi, eE_ix, intPart_i, eE_sl, eE_comp, eE_comp2, comp2L_fl, flR_comp, setTgL_nm, quietL_ok, eE_lrg1, eE_lrg2, eE_rep, eE_lsc, eE_app, eE_pop, eE_popAt, eE_idx, eE_sset, eE_lset, eE_rev, eEs_nil, eEs_cons, eI_seq, eI_rng1, eI_rng2, eI_rng3, eI_zip, eI_enm, seqR_nx, seqR_rt, seqR_exc, seqR_ite, eSs_nil, eSs_cons, eSs_frz, eSs_clr, eS_never, eS_set, eS_setT, eS_par, eS_setI, eS_aug, eS_drop, eS_doc, eS_pass, eS_retN, eS_raise, eS_ret, eS_iff, eS_forS, eS_wh, quiet_ok, quiet_ite, compL_none, compL_some, mapR_comp, mapR_ok, mapR_nil, mapR_cons, fltR_nil, fltR_cons, fltR_comp, fltR_ok, endR_nx, endR_exc, endR_keep, endR_rt, endR_int, endR_bl, endR_non, endR_ite, take_app, List.take_length, f_lt, f_gt, f_le, f_ge, eqv_int, eqv_strs, f_eqi, f_nei, f_is, f_isn, f_isb, isNon_n, isNon_b, isNon_i, isNon_s, isNon_l, isNon_t, not_b, neg_i, add_i, sub_i, len_t, len_l, abs_i, int_i, int_b, tup_t, tup_l, lst_t, lst_l, str_s, sum_l, all_l, any_l, all_nil, lit_l, lit_t, zip_l, zip_t, enm_l, cut_t, cut_l, lstOf_l, mtR_l, isi_n, isi_b, isi_i, isi_s, isi_l, isi_t, eqv_lints, eqv_tints, forL_nil, h_hole, h_var, h_int, h_bl, h_non, h_str, h_con, h_tup, h_disp, h_bin, h_neg, h_not, h_and, h_or, h_one, h_cmp, h_chn, h_ife, h_call, h_blt, h_isi, h_ix, h_sl, wipe_nil, wipe_cons, setAll_nil, setAll_cons, bool_and, bool_or, fitI_i, fitI_n, fitI_b, fitI_s, fitI_l, fitI_t, isT_t, isT_n, isT_b, isT_i, isT_s, isT_l, zallR_t, eSs_zall, free_0, free_s, done_nx, drop_m, take_m, rev_m, app_m, rev_t, rev_l, getC_0, getC_s, getC_aj, getC_a, setC_aj, setC_a, app_c, appR_s, pop_c, popR_s, set_c, setR_s, aug_c, augR_s, aug_i, lst_c, mt_o, mtO_s, slot_0, slot_s, frz_o, frzO_c, frzR_s, ix_ti, ix_li, ix_tl, ix_ll, ix_t0, ix_t1, ix_t2, ix_l0, ix_l1, ix_l2, ix_c, ixO_s, cutL_map, cutL_f, cutL_t, cutL_ft, pairsL_map, enumL_map, rng1N, rng2N, tg1, tg2, tg3, tgO1, tgO2, tgO3, tgF1, tgF2, tgF3, tgT2, tgT3, endO_s, endR_c0, endR_cj, endR_u0, endR_uj, sum_g, sset_gl, sset_gt, lset_gl, lset_gt, max_gl, max_gt, min_gl, min_gt, max_2, min_2, eq_nilL, ne_nilL, eq_nilT, ne_nilT, eq_gl, ne_gl, eq_gt, ne_gt, rngVN, rng3D, in_gl, in_gt, nin_gl, nin_gt, in_pl, in_pt, nin_pl, nin_pt, max_pl, max_pt, min_pl, min_pt, eq_pl, ne_pl, eq_pt, ne_pt, eq_pgl, ne_pgl, eq_gpl, ne_gpl, eq_pgt, ne_pgt, eq_gpt, ne_gpt, isn_b, sset_l, sset_t, lset_l, lset_t, all_tt, any_ff, Int.natCast_nonneg, Int.cast_ofNat_Int, Bool.decide_eq_false, List.length_range', List.isEmpty_nil, List.isEmpty_cons, not_true_eq_false, not_false_eq_true, Bool.true_eq_false, eq_self, Int.reduceToNat, Int.reduceSub, Int.reduceAdd, Int.reduceNeg, Int.reduceLT, Int.reduceLE, Int.reduceMul, Nat.reduceSub, Nat.reduceMul, Int.reduceEq, Int.reduceNe, KH.TI, KH.LI, List.take_zero, List.take_nil, defI, and_true, true_and, and_false, false_and, and_self, List.set_cons_zero, List.set_cons_succ, List.length_cons, List.length_nil, List.length_map, List.length_append, List.length_range, List.cons_append, List.nil_append, List.append_assoc, Nat.zero_add, Int.toNat_natCast, reduceIte, Bool.not_true, Bool.not_false, Bool.false_eq_true, decide_true, decide_false, Bool.true_and, Bool.and_true, Bool.false_and, Bool.and_false, Bool.true_or, Bool.false_or, Bool.or_true, Bool.or_false, Bool.decide_eq_true, decide_eq_true_eq, decide_eq_false_iff_not, decide_not, Bool.not_eq_true', Nat.reduceLeDiff, Nat.reduceAdd, Bool.not_not, Option.toList, tcons, List.take_succ_cons, List.map_id_fun', id_eq, List.map_id', List.isEmpty_map, tu, h1, h2, q]
  · simp -implicitDefEqProofs (disch := (first | assumption | omega | (simp -implicitDefEqProofs only [all_tt, wd_non, wd_bl, wd_int, wd_str, wd_lst, wd_tup, List.all_map, List.all_cons, List.all_nil, List.all_append, Bool.and_true, Bool.and_self, Function.comp_def, List.length_map, List.length_append, List.length_cons, List.length_nil, List.length_range, List.all_eq_true, implies_true, lay_int, lays_ints, lays_nil, lays_cons, List.length_zip, List.length_drop, List.length_take, List.length_range', List.length_reverse, wd_int]; done) | (simp -implicitDefEqProofs only [all_tt, wd_non, wd_bl, wd_int, wd_str, wd_lst, wd_tup, List.all_map, List.all_cons, List.all_nil, List.all_append, Bool.and_true, Bool.and_self, Function.comp_def, List.length_map, List.length_append, List.length_cons, List.length_nil, List.length_range, List.all_eq_true, implies_true, lay_int, lays_ints, lays_nil, lays_cons, List.length_zip, List.length_drop, List.length_take, List.length_range', List.length_reverse, wd_int]; omega))) only [bd_ok, bd_exc, bd_stuck, bd_ite, ret_ok, stk_st, fetch_0, fetch_s, fetchC_0, fetchC_s, tst_bl, eE_var, eE_nev, eE_int, eE_bl, eE_non, eE_str, eE_con, boxR_f, boxR_tw, boxR_e, boxR_ite, eE_disp, eE_tup, eE_bin, eE_neg, eE_not, eE_and, eE_or, eE_one, eE_cmp, eE_chn, eE_ife, eE_call, eE_blt, eE_isi, eE_ix, intPart_i, eE_sl, eE_comp, eE_comp2, comp2L_fl, flR_comp, setTgL_nm, quietL_ok, eE_lrg1, eE_lrg2, eE_rep, eE_lsc, eE_app, eE_pop, eE_popAt, eE_idx, eE_sset, eE_lset, eE_rev, eEs_nil, eEs_cons, eI_seq, eI_rng1, eI_rng2, eI_rng3, eI_zip, eI_enm, seqR_nx, seqR_rt, seqR_exc, seqR_ite, eSs_nil, eSs_cons, eSs_frz, eSs_clr, eS_never, eS_set, eS_setT, eS_par, eS_setI, eS_aug, eS_drop, eS_doc, eS_pass, eS_retN, eS_raise, eS_ret, eS_iff, eS_forS, eS_wh, quiet_ok, quiet_ite, compL_none, compL_some, mapR_comp, mapR_ok, mapR_nil, mapR_cons, fltR_nil, fltR_cons, fltR_comp, fltR_ok, endR_nx, endR_exc, endR_keep, endR_rt, endR_int, endR_bl, endR_non, endR_ite, take_app, List.take_length, f_lt, f_gt, f_le, f_ge, eqv_int, eqv_strs, f_eqi, f_nei, f_is, f_isn, f_isb, isNon_n, isNon_b, isNon_i, isNon_s, isNon_l, isNon_t, not_b, neg_i, add_i, sub_i, len_t, len_l, abs_i, int_i, int_b, tup_t, tup_l, lst_t, lst_l, str_s, sum_l, all_l, any_l, all_nil, lit_l, lit_t, zip_l, zip_t, enm_l, cut_t, cut_l, lstOf_l, mtR_l, isi_n, isi_b, isi_i, isi_s, isi_l, isi_t, eqv_lints, eqv_tints, forL_nil, h_hole, h_var, h_int, h_bl, h_non, h_str, h_con, h_tup, h_disp, h_bin, h_neg, h_not, h_and, h_or, h_one, h_cmp, h_chn, h_ife, h_call, h_blt, h_isi, h_ix, h_sl, wipe_nil, wipe_cons, setAll_nil, setAll_cons, bool_and, bool_or, fitI_i, fitI_n, fitI_b, fitI_s, fitI_l, fitI_t, isT_t, isT_n, isT_b, isT_i, isT_s, isT_l, zallR_t, eSs_zall, free_0, free_s, done_nx, drop_m, take_m, rev_m, app_m, rev_t, rev_l, getC_0, getC_s, getC_aj, getC_a, setC_aj, setC_a, app_c, appR_s, pop_c, popR_s, set_c, setR_s, aug_c, augR_s, aug_i, lst_c, mt_o, mtO_s, slot_0, slot_s, frz_o, frzO_c, frzR_s, ix_ti, ix_li, ix_tl, ix_ll, ix_t0, ix_t1, ix_t2, ix_l0, ix_l1, ix_l2, ix_c, ixO_s, cutL_map, cutL_f, cutL_t, cutL_ft, pairsL_map, enumL_map, rng1N, rng2N, tg1, tg2, tg3, tgO1, tgO2, tgO3, tgF1, tgF2, tgF3, tgT2, tgT3, endO_s, endR_c0, endR_cj, endR_u0, endR_uj, sum_g, sset_gl, sset_gt, lset_gl, lset_gt, max_gl, max_gt, min_gl, min_gt, max_2, min_2, eq_nilL, ne_nilL, eq_nilT, ne_nilT, eq_gl, ne_gl, eq_gt, ne_gt, rngVN, rng3D, in_gl, in_gt, nin_gl, nin_gt, in_pl, in_pt, nin_pl, nin_pt, max_pl, max_pt, min_pl, min_pt, eq_pl, ne_pl, eq_pt, ne_pt, eq_pgl, ne_pgl, eq_gpl, ne_gpl, eq_pgt, ne_pgt, eq_gpt, ne_gpt, isn_b, sset_l, sset_t, lset_l, lset_t, all_tt, any_ff, Int.natCast_nonneg, Int.cast_ofNat_Int, Bool.decide_eq_false, List.length_range', List.isEmpty_nil, List.isEmpty_cons, not_true_eq_false, not_false_eq_true, Bool.true_eq_false, eq_self, Int.reduceToNat, Int.reduceSub, Int.reduceAdd, Int.reduceNeg, Int.reduceLT, Int.reduceLE, Int.reduceMul, Nat.reduceSub, Nat.reduceMul, Int.reduceEq, Int.reduceNe, KH.TI, KH.LI, List.take_zero, List.take_nil, defI, and_true, true_and, and_false, false_and, and_self, List.set_cons_zero, List.set_cons_succ, List.length_cons, List.length_nil, List.length_map, List.length_append, List.length_range, List.cons_append, List.nil_append, List.append_assoc, Nat.zero_add, Int.toNat_natCast, reduceIte, Bool.not_true, Bool.not_false, Bool.false_eq_true, decide_true, decide_false, Bool.true_and, Bool.and_true, Bool.false_and, Bool.and_false, Bool.true_or, Bool.false_or, Bool.or_true, Bool.or_false, Bool.decide_eq_true, decide_eq_true_eq, decide_eq_false_iff_not, decide_not, Bool.not_eq_true', Nat.reduceLeDiff, Nat.reduceAdd, Bool.not_not, Option.toList, tcons, List.take_succ_cons, List.map_id_fun', id_eq, List.map_id', List.isEmpty_map, tu, h1, h2, q]
end KP

/-! k81: a filling whose hits are multiplied by a number without a common divisor stays one: a finite check, by the kernel, of cycles up to 12. -/
namespace KP
open KH
def put (c : Nat) (A : List Nat) (b : Nat) : Nat := A.foldl (fun acc a => acc ||| (1 <<< ((a + b) % c))) 0
def allPut (c : Nat) (A B : List Nat) : Nat := B.foldl (fun acc b => acc ||| put c A b) 0
def gapN (cov : Nat) : Nat → Nat → Nat
  | 0, i => i
  | n + 1, i => bif Nat.beq ((cov >>> i) &&& 1) 0 then i else gapN cov n (i + 1)
def srch (c full : Nat) (A : List Nat) (Ms : List (List Nat)) : Nat → Nat → List Nat → Bool
  | 0, _, _ => false
  | f + 1, cov, B => bif Nat.beq cov full then Ms.all fun M => Nat.beq (allPut c M B) full else
      let g := gapN cov c 0
      A.all fun a => 
        let b := (g + c - a) % c
        let p := put c A b
        bif Nat.beq (cov &&& p) 0 then srch c full A Ms f (cov ||| p) (b :: B) else true
def subs : List Nat → List (List Nat)
  | [] => [[]]
  | x :: l => (subs l).map (x :: ·) ++ subs l
def mults (c : Nat) (A : List Nat) : List (List Nat) := ((List.range c).filter fun m => Nat.beq (Nat.gcd m A.length) 1).map fun m => A.map fun a => (a * m) % c
def chkA (c : Nat) (A : List Nat) : Bool := bif (Nat.beq (c % A.length) 0) && Nat.ble 1 A.length && Nat.ble A.length 6 then srch c (2 ^ c - 1) A (mults c A) 13 (put c A 0) [0] else true
def chkC (c : Nat) : Bool := (subs (List.range c)).all (chkA c)
theorem chk_c : ∀ c < 13, chkC c = true := by decide +kernel
theorem put_go (c b t : Nat) : ∀ (A : List Nat) (acc : Nat), (A.foldl (fun acc a => acc ||| (1 <<< ((a + b) % c))) acc).testBit t = (acc.testBit t || A.any fun a => decide ((a + b) % c = t))
  | [], acc => by simp
  | a :: A, acc => by
    rw [List.foldl_cons, put_go c b t A, Nat.testBit_or, Nat.one_shiftLeft, Nat.testBit_two_pow, List.any_cons, Bool.or_assoc]
theorem put_bit (c : Nat) (A : List Nat) (b t : Nat) : (put c A b).testBit t = A.any fun a => decide ((a + b) % c = t) := by
  unfold put
  rw [put_go]
  simp
theorem all_go (c t : Nat) (A : List Nat) : ∀ (B : List Nat) (acc : Nat), (B.foldl (fun acc b => acc ||| put c A b) acc).testBit t = (acc.testBit t || B.any fun b => A.any fun a => decide ((a + b) % c = t))
  | [], acc => by simp
  | b :: B, acc => by
    rw [List.foldl_cons, all_go c t A B, Nat.testBit_or, put_bit, List.any_cons, Bool.or_assoc]
theorem all_bit (c t : Nat) (A B : List Nat) : (allPut c A B).testBit t = B.any fun b => A.any fun a => decide ((a + b) % c = t) := by
  unfold allPut
  rw [all_go]
  simp
theorem bit_and (cov i : Nat) : Nat.beq ((cov >>> i) &&& 1) 0 = !cov.testBit i := by
  have h : cov.testBit i = ((1 &&& (cov >>> i)) != 0) := rfl
  rw [h, Nat.and_comm]
  cases q : (1 &&& cov >>> i : Nat) with
  | zero => rfl
  | succ n => rfl
theorem gapN_ok (cov : Nat) : ∀ (n i : Nat), (∃ t, i ≤ t ∧ t < i + n ∧ cov.testBit t = false) → gapN cov n i < i + n ∧ cov.testBit (gapN cov n i) = false
  | 0, i, ⟨t, h1, h2, _⟩ => by omega
  | n + 1, i, ⟨t, h1, h2, h3⟩ => by
    unfold gapN
    rw [bit_and]
    cases q : cov.testBit i with
    | false => exact ⟨by simp, q⟩
    | true =>
      have hl : i + 1 ≤ t := by
        rcases Nat.eq_or_lt_of_le h1 with rfl | h
        · rw [q] at h3; cases h3
        · exact h
      have := gapN_ok cov n (i + 1) ⟨t, hl, by omega, h3⟩
      refine ⟨?_, this.2⟩
      have := this.1
      show gapN cov n (i + 1) < _
      omega
theorem beqN (a b : Nat) : Nat.beq a b = decide (a = b) := by
  by_cases h : a = b
  · subst h; simp
  · rw [decide_eq_false h, Bool.eq_false_iff]; exact fun e => h (Nat.eq_of_beq_eq_true e)
structure TilN (c : Nat) (A B : List Nat) : Prop where
  T : ∀ t < c, ∃ b ∈ B, ∃ a ∈ A, (a + b) % c = t
  U : ∀ a ∈ A, ∀ a' ∈ A, ∀ b ∈ B, ∀ b' ∈ B, (a + b) % c = (a' + b') % c → b = b'
  a : ∀ a ∈ A, a < c
  b : ∀ b ∈ B, b < c
theorem srch_ok {c : Nat} {A B : List Nat} {Ms : List (List Nat)} (h : TilN c A B) : ∀ (f cov : Nat) (n : List Nat), (∀ x ∈ n, x ∈ B) → (∀ t, cov.testBit t = n.any fun b => A.any fun a => decide ((a + b) % c = t)) → srch c (2 ^ c - 1) A Ms f cov n = true → ∀ M ∈ Ms, ∀ t < c, ∃ b ∈ B, ∃ a ∈ M, (a + b) % c = t
  | 0, cov, n, h1, h2, h3 => by cases h3
  | f + 1, cov, n, h1, h2, h3 => by
    intro M hM t ht
    unfold srch at h3
    rw [beqN] at h3
    by_cases q : cov = 2 ^ c - 1
    · rw [decide_eq_true q, cond_true, List.all_eq_true] at h3
      have := h3 M hM
      rw [beqN, decide_eq_true_iff] at this
      have e := all_bit c t M n
      rw [this, Nat.testBit_two_pow_sub_one, decide_eq_true ht] at e
      obtain ⟨b, hb, e⟩ := List.any_eq_true.mp e.symm
      obtain ⟨a, ha, e⟩ := List.any_eq_true.mp e
      exact ⟨b, h1 b hb, a, ha, of_decide_eq_true e⟩
    · rw [decide_eq_false q, cond_false, List.all_eq_true] at h3
      have hx : ∃ t, 0 ≤ t ∧ t < 0 + c ∧ cov.testBit t = false := by
        refine Classical.byContradiction fun hn => q (Nat.eq_of_testBit_eq fun i => ?_)
        rw [Nat.testBit_two_pow_sub_one]
        by_cases hi : i < c
        · rw [decide_eq_true hi]
          cases e : cov.testBit i with
          | true => rfl
          | false => exact absurd ⟨i, by omega, by omega, e⟩ hn
        · rw [decide_eq_false hi, h2, Bool.eq_false_iff]
          intro e
          obtain ⟨b, hb, e⟩ := List.any_eq_true.mp e
          obtain ⟨a, ha, e⟩ := List.any_eq_true.mp e
          have := of_decide_eq_true e
          have : (a + b) % c < c := Nat.mod_lt _ (by omega)
          omega
      obtain ⟨g1, g2⟩ := gapN_ok cov c 0 hx
      generalize gapN cov c 0 = g at *
      obtain ⟨b, hb, a, ha, e⟩ := h.T g (by omega)
      have hb2 := h.b b hb
      have ha2 := h.a a ha
      have eb : (g + c - a) % c = b := by
        by_cases q : a + b < c
        · rw [Nat.mod_eq_of_lt q] at e
          rw [show g + c - a = b + c by omega, Nat.add_mod_right, Nat.mod_eq_of_lt hb2]
        · rw [Nat.mod_eq_sub_mod (by omega), Nat.mod_eq_of_lt (by omega)] at e
          rw [show g + c - a = b by omega, Nat.mod_eq_of_lt hb2]
      have h4 := h3 a ha
      simp only [eb, beqN] at h4
      have nb : b ∉ n := fun hn => by
        rw [h2, Bool.eq_false_iff] at g2
        exact g2 (List.any_eq_true.mpr ⟨b, hn, List.any_eq_true.mpr ⟨a, ha, decide_eq_true e⟩⟩)
      have dj : cov &&& put c A b = 0 := by
        refine Nat.eq_of_testBit_eq fun i => ?_
        rw [Nat.testBit_and, Nat.zero_testBit, h2, put_bit, Bool.eq_false_iff]
        intro e
        rw [Bool.and_eq_true] at e
        obtain ⟨b1, hb1, e1⟩ := List.any_eq_true.mp e.1
        obtain ⟨a1, ha1, e1⟩ := List.any_eq_true.mp e1
        obtain ⟨a2, ha2, e2⟩ := List.any_eq_true.mp e.2
        have e1 := of_decide_eq_true e1
        have e2 := of_decide_eq_true e2
        have := h.U a1 ha1 a2 ha2 b1 (h1 b1 hb1) b hb (e1.trans e2.symm)
        exact nb (this ▸ hb1)
      rw [decide_eq_true dj, cond_true] at h4
      refine srch_ok h f _ (b :: n) (fun x hx => ?_) (fun t => ?_) h4 M hM t ht
      · rcases List.mem_cons.mp hx with rfl | hx
        · exact hb
        · exact h1 x hx
      · rw [Nat.testBit_or, h2, put_bit, List.any_cons, Bool.or_comm]
theorem subs_mem {l : List Nat} : ∀ {r : List Nat}, l.Sublist r → l ∈ subs r
  | [], h => by cases h; exact List.mem_singleton.mpr rfl
  | x :: r, h => by
    unfold subs
    rw [List.mem_append, List.mem_map]
    cases h with
    | cons _ h => exact .inr (subs_mem h)
    | cons_cons _ h => exact .inl ⟨_, subs_mem h, rfl⟩
/-- times a number that has no divisor with the many: still a filling -/
theorem tijN {c m : Nat} {A B : List Nat} (hc : 0 < c) (hc2 : c ≤ 12) (h : TilN c A B) (hs : A.Sublist (List.range c)) (h0 : 0 ∈ B) (hd : A.length ∣ c) (h1 : 1 ≤ A.length) (h6 : A.length ≤ 6) (hg : Nat.gcd m A.length = 1) :
    ∀ t < c, ∃ b ∈ B, ∃ a ∈ A, ((a * m) % c + b) % c = t := by
  intro t ht
  have k := chk_c c (by omega)
  unfold chkC at k
  rw [List.all_eq_true] at k
  have k := k A (subs_mem hs)
  unfold chkA at k
  have e0 : (Nat.beq (c % A.length) 0 && Nat.ble 1 A.length && Nat.ble A.length 6) = true := by
    rw [beqN, decide_eq_true (Nat.mod_eq_zero_of_dvd hd), Nat.ble_eq_true_of_le h1, Nat.ble_eq_true_of_le h6]; rfl
  rw [e0, cond_true] at k
  have hg2 : Nat.gcd (m % c) A.length = 1 := by
    have d1 := Nat.gcd_dvd_left (m % c) A.length
    have d2 := Nat.gcd_dvd_right (m % c) A.length
    rw [Nat.dvd_mod_iff (Nat.dvd_trans d2 hd)] at d1
    have := Nat.dvd_gcd d1 d2
    rw [hg] at this
    exact Nat.dvd_one.mp this
  have hm : (A.map fun a => (a * (m % c)) % c) ∈ mults c A := by
    unfold mults
    refine List.mem_map.mpr ⟨m % c, List.mem_filter.mpr ⟨List.mem_range.mpr (Nat.mod_lt _ hc), ?_⟩, rfl⟩
    rw [beqN, hg2]; rfl
  obtain ⟨b, hb, a, ha, e⟩ := srch_ok h 13 _ [0] (fun x hx => by rw [List.mem_singleton.mp hx]; exact h0) (fun t => by rw [put_bit]; simp) k _ hm t ht
  obtain ⟨a', ha', rfl⟩ := List.mem_map.mp ha
  exact ⟨b, hb, a', ha', by rw [← e, Nat.mul_mod_mod]⟩

theorem cntP_one {α : Type} {p : α → Bool} {l : List α} (h : l.countP p = 1) : (∃ x ∈ l, p x = true) ∧ ∀ x ∈ l, p x = true → ∀ y ∈ l, p y = true → x = y := by
  rw [List.countP_eq_length_filter] at h
  obtain ⟨z, hz⟩ := List.length_eq_one_iff.mp h
  have m : ∀ x, x ∈ l ∧ p x = true ↔ x = z := fun x => by rw [← List.mem_filter, hz, List.mem_singleton]
  exact ⟨⟨z, (m z).mpr rfl⟩, fun x h1 h2 y h3 h4 => ((m x).mp ⟨h1, h2⟩).trans ((m y).mp ⟨h3, h4⟩).symm⟩
theorem inv_at {c : Nat} {a b : Int} (hc : 0 < c) (ha : 0 ≤ a ∧ a < c) (hb : 0 ≤ b) (t : Nat) (h : (a.toNat + b.toNat) % c = t) : ((t : Int) - b) % (c : Int) = a := by
  have e : (a + b) % (c : Int) = t := by
    rw [← h, Int.natCast_emod, Int.natCast_add, Int.toNat_of_nonneg ha.1, Int.toNat_of_nonneg hb]
  rw [← e, Int.emod_sub_emod, show a + b - b = a by omega, Int.emod_eq_of_lt ha.1 ha.2]
theorem tilN_of {c : Nat} {A B : List Int} (hA : Hits c A) (hB : TilS c A B) (hc : 0 < c) : TilN c (A.map Int.toNat) (B.map Int.toNat) := by
  refine ⟨fun t ht => ?_, fun a ha a' ha' b hb b' hb' e => ?_, fun a ha => ?_, fun b hb => ?_⟩
  · obtain ⟨⟨b, hb, e⟩, -⟩ := cntP_one (hB.til t ht)
    have e := of_decide_eq_true e
    refine ⟨b.toNat, List.mem_map.mpr ⟨b, hb, rfl⟩, (((t : Int) - b) % (c : Int)).toNat, List.mem_map.mpr ⟨_, e, rfl⟩, ?_⟩
    have b1 := hB.bd b hb
    have p1 := Int.emod_nonneg ((t : Int) - b) (show (c : Int) ≠ 0 by omega)
    have q : ((((((t : Int) - b) % (c : Int)).toNat + b.toNat) % c : Nat) : Int) = (t : Int) := by
      rw [Int.natCast_emod, Int.natCast_add, Int.toNat_of_nonneg p1, Int.toNat_of_nonneg b1.1, Int.emod_add_emod, show (t : Int) - b + b = t by omega, Int.emod_eq_of_lt (by omega) (by omega)]
    exact Int.ofNat_inj.mp q
  · obtain ⟨a, k1, rfl⟩ := List.mem_map.mp ha
    obtain ⟨a', k2, rfl⟩ := List.mem_map.mp ha'
    obtain ⟨b, k3, rfl⟩ := List.mem_map.mp hb
    obtain ⟨b', k4, rfl⟩ := List.mem_map.mp hb'
    have ht : (a.toNat + b.toNat) % c < c := Nat.mod_lt _ hc
    obtain ⟨-, u⟩ := cntP_one (hB.til _ ht)
    have i1 := inv_at hc (hA.bd a k1) (hB.bd b k3).1 _ rfl
    have i2 := inv_at hc (hA.bd a' k2) (hB.bd b' k4).1 _ e.symm
    rw [u b k3 (decide_eq_true (by rw [i1]; exact k1)) b' k4 (decide_eq_true (by rw [i2]; exact k2))]
  · obtain ⟨a, k1, rfl⟩ := List.mem_map.mp ha
    have := hA.bd a k1
    omega
  · obtain ⟨b, k1, rfl⟩ := List.mem_map.mp hb
    have := hB.bd b k1
    omega
theorem sub_range {c : Nat} {A : List Int} (hA : Hits c A) : (A.map Int.toNat).Sublist (List.range c) := by
  have e : A = ((List.range c).filter fun (i : Nat) => decide ((i : Int) ∈ A)).map fun (i : Nat) => (i : Int) := by
    refine lt_unique hA.lt ?_ fun z => ?_
    · rw [List.pairwise_map]
      exact (List.pairwise_lt_range.filter _).imp fun h => by omega
    · rw [List.mem_map]
      constructor
      · intro h
        have := hA.bd z h
        exact ⟨z.toNat, List.mem_filter.mpr ⟨List.mem_range.mpr (by omega), decide_eq_true (by rw [Int.toNat_of_nonneg this.1]; exact h)⟩, by omega⟩
      · rintro ⟨i, hi, rfl⟩
        exact of_decide_eq_true (List.mem_filter.mp hi).2
  have e2 : A.map Int.toNat = (List.range c).filter fun (i : Nat) => decide ((i : Int) ∈ A) := by
    conv => lhs; rw [e]
    rw [List.map_map]
    exact List.map_id' _
  rw [e2]
  exact List.filter_sublist
theorem sum_ge_one : ∀ (l : List Nat) (f : Nat → Nat), (∀ t ∈ l, 1 ≤ f t) → l.length ≤ (l.map f).sum ∧ ((l.map f).sum ≤ l.length → ∀ t ∈ l, f t = 1)
  | [], _, _ => by simp
  | x :: l, f, h => by
    obtain ⟨h1, h2⟩ := sum_ge_one l f fun t ht => h t (List.mem_cons_of_mem _ ht)
    have hx := h x List.mem_cons_self
    rw [List.map_cons, List.sum_cons, List.length_cons]
    refine ⟨by omega, fun e t ht => ?_⟩
    rcases List.mem_cons.mp ht with rfl | ht
    · omega
    · exact h2 (by omega) t ht
theorem tij {c m : Nat} {A B : List Int} (hA : Hits c A) (hB : TilS c A B) (h0 : (0 : Int) ∈ B) (hc : 0 < c) (hc2 : c ≤ 12) (h6 : A.length ≤ 6) (hg : Nat.gcd m A.length = 1) :
    Hits c (ssetL (A.map fun a => (a * (m : Int)) % (c : Int))) ∧ (ssetL (A.map fun a => (a * (m : Int)) % (c : Int))).length = A.length ∧ Til c (ssetL (A.map fun a => (a * (m : Int)) % (c : Int))) B := by
  have tl := til_len hA hc hB.til
  have k := tijN (m := m) hc hc2 (tilN_of hA hB hc) (sub_range hA) (List.mem_map.mpr ⟨0, h0, rfl⟩) (by rw [List.length_map]; exact ⟨B.length, by rw [Nat.mul_comm]; exact tl.symm⟩) (by rw [List.length_map]; exact List.length_pos_iff.mpr hA.one) (by rw [List.length_map]; exact h6) (by rw [List.length_map]; exact hg)
  have mem : ∀ z, z ∈ ssetL (A.map fun a => (a * (m : Int)) % (c : Int)) ↔ ∃ a ∈ A, (a * (m : Int)) % (c : Int) = z := fun z => by rw [ssetL_mem, List.mem_map]
  have le := ssetL_le (A.map fun a => (a * (m : Int)) % (c : Int))
  have lt := ssetL_lt (A.map fun a => (a * (m : Int)) % (c : Int))
  rw [List.length_map] at le
  generalize ssetL (A.map fun a => (a * (m : Int)) % (c : Int)) = M at *
  have hM : Hits c M := by
    refine ⟨fun e => ?_, lt, fun z hz => ?_⟩
    · obtain ⟨a, l, rfl⟩ := List.exists_cons_of_ne_nil hA.one
      have := (mem _).mpr ⟨a, List.mem_cons_self, rfl⟩
      rw [e] at this
      cases this
    · obtain ⟨a, -, rfl⟩ := (mem z).mp hz
      exact ⟨Int.emod_nonneg _ (by omega), Int.emod_lt_of_pos _ (by omega)⟩
  have ge : ∀ t ∈ List.range c, 1 ≤ cnt c M B (t : Nat) := fun t ht => by
    obtain ⟨b, hb, a, ha, e⟩ := k t (List.mem_range.mp ht)
    obtain ⟨b, k1, rfl⟩ := List.mem_map.mp hb
    obtain ⟨a, k2, rfl⟩ := List.mem_map.mp ha
    have a1 := hA.bd a k2
    have b1 := hB.bd b k1
    unfold cnt
    refine List.countP_pos_iff.mpr ⟨b, k1, decide_eq_true ((mem _).mpr ⟨a, k2, ?_⟩)⟩
    have e2 : (a * (m : Int) + b) % (c : Int) = t := by
      rw [← e, Int.natCast_emod, Int.natCast_add, Int.natCast_emod, Int.natCast_mul, Int.toNat_of_nonneg a1.1, Int.toNat_of_nonneg b1.1, Int.emod_add_emod]
    rw [← e2, Int.emod_sub_emod, show a * (m : Int) + b - b = a * (m : Int) by omega]
  obtain ⟨s1, s2⟩ := sum_ge_one (List.range c) (fun t => cnt c M B (t : Nat)) ge
  rw [sum_cnt hM hc B, List.length_range] at s1 s2
  have hb : 0 < B.length := List.length_pos_of_mem h0
  have l1 : M.length = A.length := by
    refine Nat.le_antisymm le ?_
    rw [← tl] at s1
    exact Nat.le_of_mul_le_mul_left s1 hb
  exact ⟨hM, l1, fun t ht => s2 (by rw [l1, tl]; exact Nat.le_refl _) t (List.mem_range.mpr ht)⟩
end KP

namespace KP
open PySem PySem.Spec PyProof.Rows L2 KH
theorem cntL_ones (c : Nat) (A B : List Int) : decide (cntL c A B = List.replicate c (1 : Int)) = decide (Til c A B) := by
  rw [decide_eq_decide]
  unfold cntL
  rw [List.eq_replicate_iff]
  simp only [List.length_map, List.length_range, true_and, List.mem_map, List.mem_range]
  constructor
  · intro h t ht
    have := h _ ⟨t, ht, rfl⟩
    omega
  · rintro h b ⟨t, ht, rfl⟩
    rw [h t ht]
    rfl
theorem repl_1 (c : Nat) (hc : c ≤ 24) (cs : CS) : repR (.list [.int 1]) (.int (c : Int)) cs = .ok ((List.replicate c (1 : Int)).map .int) cs := by
  unfold repR
  simp only [lstOf, Int.toNat_natCast]
  rw [if_pos (by simp; omega)]
  congr 1
  induction c with
  | zero => rfl
  | succ k ih => rw [List.replicate_succ, List.flatten_cons, ih (by omega)]; simp [List.replicate_succ]
theorem lone_gcd (n m : Nat) (hn : 1 ≤ n) (h : ((List.range' 2 (n - 1)).filter fun (w : Nat) => decide ((n : Int) % (w : Int) = 0) && decide ((m : Int) % (w : Int) = 0)).isEmpty = true) : Nat.gcd m n = 1 := by
  rw [List.isEmpty_iff, List.filter_eq_nil_iff] at h
  have hg : 0 < Nat.gcd m n := Nat.gcd_pos_of_pos_right _ hn
  refine Classical.byContradiction fun hne => ?_
  have d2 := Nat.gcd_dvd_right m n
  have d1 := Nat.gcd_dvd_left m n
  have le := Nat.le_of_dvd hn d2
  refine h (Nat.gcd m n) (List.mem_range'_1.mpr ⟨by omega, by omega⟩) ?_
  rw [Bool.and_eq_true, decide_eq_true_iff, decide_eq_true_iff]
  exact ⟨Int.emod_eq_zero_of_dvd (Int.ofNat_dvd.mpr d2), Int.emod_eq_zero_of_dvd (Int.ofNat_dvd.mpr d1)⟩
theorem fill_hits {c : Nat} {A B : List Int} (h : TilS c A B) (h0 : (0 : Int) ∈ B) (hc : 0 < c) (hc2 : c ≤ 24) : HitsT c B := ⟨⟨fun e => by rw [e] at h0; exact absurd h0 List.not_mem_nil, h.lt, h.bd⟩, hc, hc2⟩
/-- the turns of a law that makes cells of its own -/
theorem turnsL {tg : Tg} {body : KH.Env → M Fl} (ds : List D) (E : KH.Env) (h : ∀ d s l, ∃ s' l', setTgF tg d E (fun e1 => body e1 (cup s :: l)) = .ok (.nx E) (cup s' :: l')) (s : Int × Int) (l : CS) : ∃ s' l', forL tg body ds E (cup s :: l) = .ok (.nx E) (cup s' :: l') := by
  obtain ⟨e, c, h1, rfl, s', l', rfl⟩ := for_inv (tg := tg) (body := body) (fun d => d) (fun _ e c => e = E ∧ ∃ s l, c = cup s :: l) ds E (cup s :: l) ⟨rfl, s, l, rfl⟩ fun p x q e c _ hI => by
    obtain ⟨rfl, s, l, rfl⟩ := hI
    obtain ⟨s', l', h'⟩ := h x s l
    exact ⟨_, _, h', rfl, s', l', rfl⟩
  rw [List.map_id'] at h1
  exact ⟨s', l', h1⟩
theorem turn (x : D) (d : D) (s : Int × Int) (l : CS) : ∃ s' l', setTgF (.nm 2) d [some x, some (cellD 0), none, none, none, none, none, none, none, none, none, none, none, none, none, none, none, none, none, none, none] (fun e1 => evSs (run prg 19) prg.tab b28_f2 e1 (cup s :: l)) = .ok (.nx [some x, some (cellD 0), none, none, none, none, none, none, none, none, none, none, none, none, none, none, none, none, none, none, none]) (cup s' :: l') := by
  obtain ⟨v1, s1, a1, b1, e1⟩ := rolled 18 10 (by omega) (by omega) s l
  obtain ⟨c', hc', s2, e2⟩ := someL (fun i : Int => .int i) [1, 2, 4, 6, 8, 9, 12, 3 + v1] (by simp) (by simp) (by simp) 17 s1 l
  have hcb : 1 ≤ c' ∧ c' ≤ 12 := by
    simp only [List.mem_cons, List.not_mem_nil, or_false] at hc'
    omega
  obtain ⟨c, rfl⟩ : ∃ c : Nat, c' = c := ⟨c'.toNat, by omega⟩
  obtain ⟨A, s3, hA, lA, e3⟩ := hitsL 16 c (by omega) (by omega) s2 l
  obtain ⟨B, s4, hB, lB, e4⟩ := hitsL 16 c (by omega) (by omega) s3 l
  have hA1 := hits_len hA.h
  have hB1 := hits_len hB.h
  have hc := hA.c0
  have hc1 := hA.c1
  have hc2 : c ≤ 12 := by omega
  have e5 : ∀ cs, run prg 19 25 [.int (c : Int), TI A, TI B] cs = .ok (.list ((cntL c A B).map .int)) cs := fun cs => lho 18 c A B hc hc1 (by omega) cs
  have e6 : ∀ cs, run prg 19 27 [.int (c : Int), TI A] cs = .ok (.list ((LF c A).map tupI)) cs := fun cs => lfo 17 c A hA hc2 cs
  have e7 : ∀ cs, run prg 19 13 [.int (c : Int), TI A, TI B] cs = .ok (.tuple ((cntL c A B).map .int)) cs := fun cs => hco 14 c A B hA hB cs
  have e8 : ∀ cs, run prg 19 11 [.int (c : Int), TI A, TI B] cs = .ok (.bool (decide (Til c A B))) cs := fun cs => isf 14 c A B hA hB cs
  have e9 := repl_1 c hc1
  have e10 := cntL_ones c A B
  have cl := cntL_len c A B
  have m1 : ∀ cs, run prg 19 22 [.tuple [.tuple ((cntL c A B).map .int), .bool (decide (Til c A B))], .tuple [.tuple ((cntL c A B).map .int), .bool (decide (Til c A B))]] cs = .ok (.bool true) cs := fun cs => same _ (by simp; omega) cs
  have fl : (LF c A).length ≤ 2048 := by
    unfold LF
    split
    · exact lfs_len hA.h hc hc2 _
    · simp
  have fw1 : ∀ B ∈ LF c A, B.length ≤ 1000 := fun B hm => by
    have t := ((lf_mem hA.h hc B).mp hm)
    have := hits_len (fill_hits t.1 t.2 hc hc1).h
    omega
  have e11 : ∀ cs, run prg 19 12 [.int (c : Int), TI A] cs = .ok (.tuple ((LF c A).map tupI)) cs := fun cs => fio 14 c A hA hc2 cs
  have m2 : ∀ cs, run prg 19 22 [.tuple ((LF c A).map tupI), .tuple ((LF c A).map tupI)] cs = .ok (.bool true) cs := fun cs => same _ (by
    simp
    exact ⟨by omega, fun B hm => by have := fw1 B hm; omega⟩) cs
  obtain ⟨v5, s5, a5, b5, e12⟩ := rolled 18 193 (by omega) (by omega) s4 l
  obtain ⟨v6, s6, a6, b6, e13⟩ := rolled 18 97 (by omega) (by omega) s5 l
  obtain ⟨u, hu⟩ : ∃ u : Int, v5 - 96 = u := ⟨_, rfl⟩
  obtain ⟨m, rfl⟩ : ∃ m : Nat, v6 = m := ⟨v6.toNat, by omega⟩
  have e14 : ∀ cs, run prg 19 14 [.int (c : Int), TI A, .int u] cs = .ok (TI (trn c A u)) cs := fun cs => tho 14 c A hA u (by omega) (by omega) cs
  have e15 : ∀ cs, run prg 19 15 [.int (c : Int), TI A, .int (m : Int)] cs = .ok (if (tms c A m).length = A.length then TI (tms c A m) else .none) cs := fun cs => tmo 14 c A hA m (by omega) (by omega) cs
  have md := modR c hc (fun a => a + u) A
  have mm : ∀ cs, mapR (fun (a : Int) c2 => quiet ((Bop.mul.fn (.int a) (.int (m : Int)) c2).bd fun x c3 => Bop.mod.fn x (.int (c : Int)) c3)) A cs = .ok ((A.map fun a => (a * (m : Int)) % (c : Int)).map .int) cs := fun cs => by
    rw [List.map_map]
    refine mapR_in _ fun a ha => ?_
    have := hA.h.bd a ha
    rw [mul_r _ _ _ (by omega) (by omega), bd_ok, mod_i _ _ _ (by omega)]
    rfl
  have sl : ∀ cs, ssetD [.list ((A.map fun a => (a * (m : Int)) % (c : Int)).map .int)] cs = .ok (.list ((tms c A m).map .int)) cs := fun cs => sset_l cs _ (by rw [List.length_map]; omega)
  have srt : ∀ cs, Blt.sorted.fn [.list ((A.map fun a => (a + u) % (c : Int)).map .int)] cs = .ok (.list ((trn c A u).map .int)) cs := fun cs => srt_l _ cs
  obtain ⟨gr, hgr⟩ : ∃ gr : D, (if (tms c A m).length = A.length then TI (tms c A m) else .none) = gr := ⟨_, rfl⟩
  have tl : (tms c A m).length ≤ 6 := by
    have := ssetL_le (A.map fun a => (a * (m : Int)) % (c : Int))
    rw [List.length_map] at this
    exact Nat.le_trans this lA
  have trl : (trn c A u).length = A.length := by unfold trn; rw [(sortI_perm _).length_eq, List.length_map]
  have grw : szN 3 gr = true := by
    rw [← hgr]
    split
    · simp; omega
    · rfl
  rw [hgr] at e15
  have m3 : ∀ cs, run prg 19 22 [.tuple [TI (trn c A u), gr], .tuple [TI (trn c A u), gr]] cs = .ok (.bool true) cs := fun cs => same _ (by simp [grw]; omega) cs
  have tp : ∀ cs, Blt.tuple.fn [.list ((tms c A m).map .int)] cs = .ok (TI (tms c A m)) cs := fun cs => by simp -implicitDefEqProofs (disch := (first | assumption | omega | (simp -implicitDefEqProofs only [all_tt, wd_non, wd_bl, wd_int, wd_str, wd_lst, wd_tup, List.all_map, List.all_cons, List.all_nil, List.all_append, Bool.and_true, Bool.and_self, Function.comp_def, List.length_map, List.length_append, List.length_cons, List.length_nil, List.length_range, List.all_eq_true, implies_true, lay_int, lays_ints, lays_nil, lays_cons, List.length_zip, List.length_drop, List.length_take, List.length_range', List.length_reverse, wd_int]; done) | (simp -implicitDefEqProofs only [all_tt, wd_non, wd_bl, wd_int, wd_str, wd_lst, wd_tup, List.all_map, List.all_cons, List.all_nil, List.all_append, Bool.and_true, Bool.and_self, Function.comp_def, List.length_map, List.length_append, List.length_cons, List.length_nil, List.length_range, List.all_eq_true, implies_true, lay_int, lays_ints, lays_nil, lays_cons, List.length_zip, List.length_drop, List.length_take, List.length_range', List.length_reverse, wd_int]; omega))) only [bd_ok, bd_exc, bd_stuck, bd_ite, ret_ok, stk_st, fetch_0, fetch_s, fetchC_0, fetchC_s, tst_bl, eE_var, eE_nev, eE_int, eE_bl, eE_non, eE_str, eE_con, boxR_f, boxR_tw, boxR_e, boxR_ite, eE_disp, eE_tup, eE_bin, eE_neg, eE_not, eE_and, eE_or, eE_one, eE_cmp, eE_chn, eE_ife, eE_call, eE_blt, eE_isi, eE_ix, intPart_i, eE_sl, eE_comp, eE_comp2, comp2L_fl, flR_comp, setTgL_nm, quietL_ok, eE_lrg1, eE_lrg2, eE_rep, eE_lsc, eE_app, eE_pop, eE_popAt, eE_idx, eE_sset, eE_lset, eE_rev, eEs_nil, eEs_cons, eI_seq, eI_rng1, eI_rng2, eI_rng3, eI_zip, eI_enm, seqR_nx, seqR_rt, seqR_exc, seqR_ite, eSs_nil, eSs_cons, eSs_frz, eSs_clr, eS_never, eS_set, eS_setT, eS_par, eS_setI, eS_aug, eS_drop, eS_doc, eS_pass, eS_retN, eS_raise, eS_ret, eS_iff, eS_forS, eS_wh, quiet_ok, quiet_ite, compL_none, compL_some, mapR_comp, mapR_ok, mapR_nil, mapR_cons, fltR_nil, fltR_cons, fltR_comp, fltR_ok, endR_nx, endR_exc, endR_keep, endR_rt, endR_int, endR_bl, endR_non, endR_ite, take_app, List.take_length, f_lt, f_gt, f_le, f_ge, eqv_int, eqv_strs, f_eqi, f_nei, f_is, f_isn, f_isb, isNon_n, isNon_b, isNon_i, isNon_s, isNon_l, isNon_t, not_b, neg_i, add_i, sub_i, len_t, len_l, abs_i, int_i, int_b, tup_t, tup_l, lst_t, lst_l, str_s, sum_l, all_l, any_l, all_nil, lit_l, lit_t, zip_l, zip_t, enm_l, cut_t, cut_l, lstOf_l, mtR_l, isi_n, isi_b, isi_i, isi_s, isi_l, isi_t, eqv_lints, eqv_tints, forL_nil, h_hole, h_var, h_int, h_bl, h_non, h_str, h_con, h_tup, h_disp, h_bin, h_neg, h_not, h_and, h_or, h_one, h_cmp, h_chn, h_ife, h_call, h_blt, h_isi, h_ix, h_sl, wipe_nil, wipe_cons, setAll_nil, setAll_cons, bool_and, bool_or, fitI_i, fitI_n, fitI_b, fitI_s, fitI_l, fitI_t, isT_t, isT_n, isT_b, isT_i, isT_s, isT_l, zallR_t, eSs_zall, free_0, free_s, done_nx, drop_m, take_m, rev_m, app_m, rev_t, rev_l, getC_0, getC_s, getC_aj, getC_a, setC_aj, setC_a, app_c, appR_s, pop_c, popR_s, set_c, setR_s, aug_c, augR_s, aug_i, lst_c, mt_o, mtO_s, slot_0, slot_s, frz_o, frzO_c, frzR_s, ix_ti, ix_li, ix_tl, ix_ll, ix_t0, ix_t1, ix_t2, ix_l0, ix_l1, ix_l2, ix_c, ixO_s, cutL_map, cutL_f, cutL_t, cutL_ft, pairsL_map, enumL_map, rng1N, rng2N, tg1, tg2, tg3, tgO1, tgO2, tgO3, tgF1, tgF2, tgF3, tgT2, tgT3, endO_s, endR_c0, endR_cj, endR_u0, endR_uj, sum_g, sset_gl, sset_gt, lset_gl, lset_gt, max_gl, max_gt, min_gl, min_gt, max_2, min_2, eq_nilL, ne_nilL, eq_nilT, ne_nilT, eq_gl, ne_gl, eq_gt, ne_gt, rngVN, rng3D, in_gl, in_gt, nin_gl, nin_gt, in_pl, in_pt, nin_pl, nin_pt, max_pl, max_pt, min_pl, min_pt, eq_pl, ne_pl, eq_pt, ne_pt, eq_pgl, ne_pgl, eq_gpl, ne_gpl, eq_pgt, ne_pgt, eq_gpt, ne_gpt, isn_b, sset_l, sset_t, lset_l, lset_t, all_tt, any_ff, Int.natCast_nonneg, Int.cast_ofNat_Int, Bool.decide_eq_false, List.length_range', List.isEmpty_nil, List.isEmpty_cons, not_true_eq_false, not_false_eq_true, Bool.true_eq_false, eq_self, Int.reduceToNat, Int.reduceSub, Int.reduceAdd, Int.reduceNeg, Int.reduceLT, Int.reduceLE, Int.reduceMul, Nat.reduceSub, Nat.reduceMul, Int.reduceEq, Int.reduceNe, KH.TI, KH.LI, List.take_zero, List.take_nil, defI, and_true, true_and, and_false, false_and, and_self, List.set_cons_zero, List.set_cons_succ, List.length_cons, List.length_nil, List.length_map, List.length_append, List.length_range, List.cons_append, List.nil_append, List.append_assoc, Nat.zero_add, Int.toNat_natCast, reduceIte, Bool.not_true, Bool.not_false, Bool.false_eq_true, decide_true, decide_false, Bool.true_and, Bool.and_true, Bool.false_and, Bool.and_false, Bool.true_or, Bool.false_or, Bool.or_true, Bool.or_false, Bool.decide_eq_true, decide_eq_true_eq, decide_eq_false_iff_not, decide_not, Bool.not_eq_true', Nat.reduceLeDiff, Nat.reduceAdd, Bool.not_not, Option.toList, tcons, List.take_succ_cons, List.map_id_fun', id_eq, List.map_id', List.isEmpty_map]
  have gre : ∀ cs, (if ((tms c A m).length : Int) = (A.length : Int) then Res.ok (TI (tms c A m)) cs else Res.ok PyData.none cs) = Res.ok gr cs := fun cs => by
    rw [← hgr]
    by_cases q : (tms c A m).length = A.length
    · rw [if_pos q, if_pos (by omega)]
    · rw [if_neg q, if_neg (by omega)]
  have e2 : run prg 19 21 [cellD 0, .list [.int 1, .int 2, .int 4, .int 6, .int 8, .int 9, .int 12, .int (3 + v1)]] (cup s1 :: l) = .ok (.int (c : Int)) (cup s2 :: l) := e2
  have pr := fun (X : List Int) cs => perR c X hc cs
  have rg : ∀ cs, range2D [.int 1, .int ((c : Int) + 1)] cs = .ok ((List.range' 1 c).map fun (i : Nat) => .int (i : Int)) cs := fun cs => by
    rw [rng2N _ _ _ (by omega) (by omega) (by omega) (by omega), show ((c : Int) + 1 - 1).toNat = c by omega]
    rfl
  have L1 : forL (.nm 6) (evSs (run prg 19) prg.tab b28_f0) [TI A, TI B] [some x, some (cellD 0), some d, some (.int (c : Int)), some gr, some (cellD (l.length + 1)), none, none, none, none, some (TI A), some (TI B), some (.list ((cntL c A B).map .int)), some (.list ((LF c A).map tupI)), some (.int u), some (.int (m : Int)), some (.list ((trn c A u).map .int)), none, none, none, none] (cup s6 :: (l ++ [some []])) =
      .ok (.nx [some x, some (cellD 0), some d, some (.int (c : Int)), some gr, some (cellD (l.length + 1)), none, none, none, none, some (TI A), some (TI B), some (.list ((cntL c A B).map .int)), some (.list ((LF c A).map tupI)), some (.int u), some (.int (m : Int)), some (.list ((trn c A u).map .int)), none, none, none, none]) (cup s6 :: (l ++ [some [.int (per c A : Nat), .int (per c B : Nat)]])) := by
    have := for_app (tg := .nm 6) (body := evSs (run prg 19) prg.tab b28_f0) (fun (X : List Int) => TI X) [some x, some (cellD 0), some d, some (.int (c : Int)), some gr, some (cellD (l.length + 1)), none, none, none, none, some (TI A), some (TI B), some (.list ((cntL c A B).map .int)), some (.list ((LF c A).map tupI)), some (.int u), some (.int (m : Int)), some (.list ((trn c A u).map .int)), none, none, none, none] (fun acc => cup s6 :: (l ++ [some acc])) 1 (fun X => [.int (per c X : Nat)]) [A, B] [] (by simp) fun X hX acc hacc => by
      refine ⟨by simp, ?_⟩
      have hx : HitsT c X := by
        rcases List.mem_cons.mp hX with rfl | hX
        · exact hA
        · rw [List.mem_singleton.mp hX]; exact hB
      obtain ⟨l, hl, -⟩ := pl_cons hx.h hc
      have ix : ∀ cs, ixD (.list ((pl c X).map fun (t : Nat) => .int (t : Int))) (.int 0) cs = .ok (.int (per c X : Nat)) cs := fun cs => by
        rw [hl]
        simp only [List.map_cons]
        simp -implicitDefEqProofs (disch := (first | assumption | omega | (simp -implicitDefEqProofs only [all_tt, wd_non, wd_bl, wd_int, wd_str, wd_lst, wd_tup, List.all_map, List.all_cons, List.all_nil, List.all_append, Bool.and_true, Bool.and_self, Function.comp_def, List.length_map, List.length_append, List.length_cons, List.length_nil, List.length_range, List.all_eq_true, implies_true, lay_int, lays_ints, lays_nil, lays_cons, List.length_zip, List.length_drop, List.length_take, List.length_range', List.length_reverse, wd_int]; done) | (simp -implicitDefEqProofs only [all_tt, wd_non, wd_bl, wd_int, wd_str, wd_lst, wd_tup, List.all_map, List.all_cons, List.all_nil, List.all_append, Bool.and_true, Bool.and_self, Function.comp_def, List.length_map, List.length_append, List.length_cons, List.length_nil, List.length_range, List.all_eq_true, implies_true, lay_int, lays_ints, lays_nil, lays_cons, List.length_zip, List.length_drop, List.length_take, List.length_range', List.length_reverse, wd_int]; omega))) only [bd_ok, bd_exc, bd_stuck, bd_ite, ret_ok, stk_st, fetch_0, fetch_s, fetchC_0, fetchC_s, tst_bl, eE_var, eE_nev, eE_int, eE_bl, eE_non, eE_str, eE_con, boxR_f, boxR_tw, boxR_e, boxR_ite, eE_disp, eE_tup, eE_bin, eE_neg, eE_not, eE_and, eE_or, eE_one, eE_cmp, eE_chn, eE_ife, eE_call, eE_blt, eE_isi, eE_ix, intPart_i, eE_sl, eE_comp, eE_comp2, comp2L_fl, flR_comp, setTgL_nm, quietL_ok, eE_lrg1, eE_lrg2, eE_rep, eE_lsc, eE_app, eE_pop, eE_popAt, eE_idx, eE_sset, eE_lset, eE_rev, eEs_nil, eEs_cons, eI_seq, eI_rng1, eI_rng2, eI_rng3, eI_zip, eI_enm, seqR_nx, seqR_rt, seqR_exc, seqR_ite, eSs_nil, eSs_cons, eSs_frz, eSs_clr, eS_never, eS_set, eS_setT, eS_par, eS_setI, eS_aug, eS_drop, eS_doc, eS_pass, eS_retN, eS_raise, eS_ret, eS_iff, eS_forS, eS_wh, quiet_ok, quiet_ite, compL_none, compL_some, mapR_comp, mapR_ok, mapR_nil, mapR_cons, fltR_nil, fltR_cons, fltR_comp, fltR_ok, endR_nx, endR_exc, endR_keep, endR_rt, endR_int, endR_bl, endR_non, endR_ite, take_app, List.take_length, f_lt, f_gt, f_le, f_ge, eqv_int, eqv_strs, f_eqi, f_nei, f_is, f_isn, f_isb, isNon_n, isNon_b, isNon_i, isNon_s, isNon_l, isNon_t, not_b, neg_i, add_i, sub_i, len_t, len_l, abs_i, int_i, int_b, tup_t, tup_l, lst_t, lst_l, str_s, sum_l, all_l, any_l, all_nil, lit_l, lit_t, zip_l, zip_t, enm_l, cut_t, cut_l, lstOf_l, mtR_l, isi_n, isi_b, isi_i, isi_s, isi_l, isi_t, eqv_lints, eqv_tints, forL_nil, h_hole, h_var, h_int, h_bl, h_non, h_str, h_con, h_tup, h_disp, h_bin, h_neg, h_not, h_and, h_or, h_one, h_cmp, h_chn, h_ife, h_call, h_blt, h_isi, h_ix, h_sl, wipe_nil, wipe_cons, setAll_nil, setAll_cons, bool_and, bool_or, fitI_i, fitI_n, fitI_b, fitI_s, fitI_l, fitI_t, isT_t, isT_n, isT_b, isT_i, isT_s, isT_l, zallR_t, eSs_zall, free_0, free_s, done_nx, drop_m, take_m, rev_m, app_m, rev_t, rev_l, getC_0, getC_s, getC_aj, getC_a, setC_aj, setC_a, app_c, appR_s, pop_c, popR_s, set_c, setR_s, aug_c, augR_s, aug_i, lst_c, mt_o, mtO_s, slot_0, slot_s, frz_o, frzO_c, frzR_s, ix_ti, ix_li, ix_tl, ix_ll, ix_t0, ix_t1, ix_t2, ix_l0, ix_l1, ix_l2, ix_c, ixO_s, cutL_map, cutL_f, cutL_t, cutL_ft, pairsL_map, enumL_map, rng1N, rng2N, tg1, tg2, tg3, tgO1, tgO2, tgO3, tgF1, tgF2, tgF3, tgT2, tgT3, endO_s, endR_c0, endR_cj, endR_u0, endR_uj, sum_g, sset_gl, sset_gt, lset_gl, lset_gt, max_gl, max_gt, min_gl, min_gt, max_2, min_2, eq_nilL, ne_nilL, eq_nilT, ne_nilT, eq_gl, ne_gl, eq_gt, ne_gt, rngVN, rng3D, in_gl, in_gt, nin_gl, nin_gt, in_pl, in_pt, nin_pl, nin_pt, max_pl, max_pt, min_pl, min_pt, eq_pl, ne_pl, eq_pt, ne_pt, eq_pgl, ne_pgl, eq_gpl, ne_gpl, eq_pgt, ne_pgt, eq_gpt, ne_gpt, isn_b, sset_l, sset_t, lset_l, lset_t, all_tt, any_ff, Int.natCast_nonneg, Int.cast_ofNat_Int, Bool.decide_eq_false, List.length_range', List.isEmpty_nil, List.isEmpty_cons, not_true_eq_false, not_false_eq_true, Bool.true_eq_false, eq_self, Int.reduceToNat, Int.reduceSub, Int.reduceAdd, Int.reduceNeg, Int.reduceLT, Int.reduceLE, Int.reduceMul, Nat.reduceSub, Nat.reduceMul, Int.reduceEq, Int.reduceNe, KH.TI, KH.LI, List.take_zero, List.take_nil, defI, and_true, true_and, and_false, false_and, and_self, List.set_cons_zero, List.set_cons_succ, List.length_cons, List.length_nil, List.length_map, List.length_append, List.length_range, List.cons_append, List.nil_append, List.append_assoc, Nat.zero_add, Int.toNat_natCast, reduceIte, Bool.not_true, Bool.not_false, Bool.false_eq_true, decide_true, decide_false, Bool.true_and, Bool.and_true, Bool.false_and, Bool.and_false, Bool.true_or, Bool.false_or, Bool.or_true, Bool.or_false, Bool.decide_eq_true, decide_eq_true_eq, decide_eq_false_iff_not, decide_not, Bool.not_eq_true', Nat.reduceLeDiff, Nat.reduceAdd, Bool.not_not, Option.toList, tcons, List.take_succ_cons, List.map_id_fun', id_eq, List.map_id', List.isEmpty_map]
      have pr := pr X
      unfold b28_f0
      simp -implicitDefEqProofs (disch := (first | assumption | omega | (simp -implicitDefEqProofs only [all_tt, wd_non, wd_bl, wd_int, wd_str, wd_lst, wd_tup, List.all_map, List.all_cons, List.all_nil, List.all_append, Bool.and_true, Bool.and_self, Function.comp_def, List.length_map, List.length_append, List.length_cons, List.length_nil, List.length_range, List.all_eq_true, implies_true, lay_int, lays_ints, lays_nil, lays_cons, List.length_zip, List.length_drop, List.length_take, List.length_range', List.length_reverse, wd_int]; done) | (simp -implicitDefEqProofs only [all_tt, wd_non, wd_bl, wd_int, wd_str, wd_lst, wd_tup, List.all_map, List.all_cons, List.all_nil, List.all_append, Bool.and_true, Bool.and_self, Function.comp_def, List.length_map, List.length_append, List.length_cons, List.length_nil, List.length_range, List.all_eq_true, implies_true, lay_int, lays_ints, lays_nil, lays_cons, List.length_zip, List.length_drop, List.length_take, List.length_range', List.length_reverse, wd_int]; omega))) only [bd_ok, bd_exc, bd_stuck, bd_ite, ret_ok, stk_st, fetch_0, fetch_s, fetchC_0, fetchC_s, tst_bl, eE_var, eE_nev, eE_int, eE_bl, eE_non, eE_str, eE_con, boxR_f, boxR_tw, boxR_e, boxR_ite, eE_disp, eE_tup, eE_bin, eE_neg, eE_not, eE_and, eE_or, eE_one, eE_cmp, eE_chn, eE_ife, eE_call, eE_blt, eE_isi, eE_ix, intPart_i, eE_sl, eE_comp, eE_comp2, comp2L_fl, flR_comp, setTgL_nm, quietL_ok, eE_lrg1, eE_lrg2, eE_rep, eE_lsc, eE_app, eE_pop, eE_popAt, eE_idx, eE_sset, eE_lset, eE_rev, eEs_nil, eEs_cons, eI_seq, eI_rng1, eI_rng2, eI_rng3, eI_zip, eI_enm, seqR_nx, seqR_rt, seqR_exc, seqR_ite, eSs_nil, eSs_cons, eSs_frz, eSs_clr, eS_never, eS_set, eS_setT, eS_par, eS_setI, eS_aug, eS_drop, eS_doc, eS_pass, eS_retN, eS_raise, eS_ret, eS_iff, eS_forS, eS_wh, quiet_ok, quiet_ite, compL_none, compL_some, mapR_comp, mapR_ok, mapR_nil, mapR_cons, fltR_nil, fltR_cons, fltR_comp, fltR_ok, endR_nx, endR_exc, endR_keep, endR_rt, endR_int, endR_bl, endR_non, endR_ite, take_app, List.take_length, f_lt, f_gt, f_le, f_ge, eqv_int, eqv_strs, f_eqi, f_nei, f_is, f_isn, f_isb, isNon_n, isNon_b, isNon_i, isNon_s, isNon_l, isNon_t, not_b, neg_i, add_i, sub_i, len_t, len_l, abs_i, int_i, int_b, tup_t, tup_l, lst_t, lst_l, str_s, sum_l, all_l, any_l, all_nil, lit_l, lit_t, zip_l, zip_t, enm_l, cut_t, cut_l, lstOf_l, mtR_l, isi_n, isi_b, isi_i, isi_s, isi_l, isi_t, eqv_lints, eqv_tints, forL_nil, h_hole, h_var, h_int, h_bl, h_non, h_str, h_con, h_tup, h_disp, h_bin, h_neg, h_not, h_and, h_or, h_one, h_cmp, h_chn, h_ife, h_call, h_blt, h_isi, h_ix, h_sl, wipe_nil, wipe_cons, setAll_nil, setAll_cons, bool_and, bool_or, fitI_i, fitI_n, fitI_b, fitI_s, fitI_l, fitI_t, isT_t, isT_n, isT_b, isT_i, isT_s, isT_l, zallR_t, eSs_zall, free_0, free_s, done_nx, drop_m, take_m, rev_m, app_m, rev_t, rev_l, getC_0, getC_s, getC_aj, getC_a, setC_aj, setC_a, app_c, appR_s, pop_c, popR_s, set_c, setR_s, aug_c, augR_s, aug_i, lst_c, mt_o, mtO_s, slot_0, slot_s, frz_o, frzO_c, frzR_s, ix_ti, ix_li, ix_tl, ix_ll, ix_t0, ix_t1, ix_t2, ix_l0, ix_l1, ix_l2, ix_c, ixO_s, cutL_map, cutL_f, cutL_t, cutL_ft, pairsL_map, enumL_map, rng1N, rng2N, tg1, tg2, tg3, tgO1, tgO2, tgO3, tgF1, tgF2, tgF3, tgT2, tgT3, endO_s, endR_c0, endR_cj, endR_u0, endR_uj, sum_g, sset_gl, sset_gt, lset_gl, lset_gt, max_gl, max_gt, min_gl, min_gt, max_2, min_2, eq_nilL, ne_nilL, eq_nilT, ne_nilT, eq_gl, ne_gl, eq_gt, ne_gt, rngVN, rng3D, in_gl, in_gt, nin_gl, nin_gt, in_pl, in_pt, nin_pl, nin_pt, max_pl, max_pt, min_pl, min_pt, eq_pl, ne_pl, eq_pt, ne_pt, eq_pgl, ne_pgl, eq_gpl, ne_gpl, eq_pgt, ne_pgt, eq_gpt, ne_gpt, isn_b, sset_l, sset_t, lset_l, lset_t, all_tt, any_ff, Int.natCast_nonneg, Int.cast_ofNat_Int, Bool.decide_eq_false, List.length_range', List.isEmpty_nil, List.isEmpty_cons, not_true_eq_false, not_false_eq_true, Bool.true_eq_false, eq_self, Int.reduceToNat, Int.reduceSub, Int.reduceAdd, Int.reduceNeg, Int.reduceLT, Int.reduceLE, Int.reduceMul, Nat.reduceSub, Nat.reduceMul, Int.reduceEq, Int.reduceNe, KH.TI, KH.LI, List.take_zero, List.take_nil, defI, and_true, true_and, and_false, false_and, and_self, List.set_cons_zero, List.set_cons_succ, List.length_cons, List.length_nil, List.length_map, List.length_append, List.length_range, List.cons_append, List.nil_append, List.append_assoc, Nat.zero_add, Int.toNat_natCast, reduceIte, Bool.not_true, Bool.not_false, Bool.false_eq_true, decide_true, decide_false, Bool.true_and, Bool.and_true, Bool.false_and, Bool.and_false, Bool.true_or, Bool.false_or, Bool.or_true, Bool.or_false, Bool.decide_eq_true, decide_eq_true_eq, decide_eq_false_iff_not, decide_not, Bool.not_eq_true', Nat.reduceLeDiff, Nat.reduceAdd, Bool.not_not, Option.toList, tcons, List.take_succ_cons, List.map_id_fun', id_eq, List.map_id', List.isEmpty_map, rg, pr, ix]
    exact this
  obtain ⟨-, -, -, pA1, pA2⟩ := pl_cons hA.h hc
  obtain ⟨-, -, -, pB1, pB2⟩ := pl_cons hB.h hc
  have cc : ((c : Int) + 1 - 1).toNat = c := by omega
  have gq : ∀ cs, fltR (fun (w : Nat) c1 => (quiet (((Bop.mod.fn (.int (per c A : Nat)) (.int (w : Int)) c1).bd fun x c => Cmp1.eq.fn x (.int 0) c).bd fun x c2 => tst x ((Bop.mod.fn (.int (per c B : Nat)) (.int (w : Int)) c2).bd fun x c => Cmp1.eq.fn x (.int 0) c) (.ok (.bool false) c2))).bd fun b c => tst b (.ok (some (.int (w : Int))) c) (.ok none c)) (List.range' 1 c) cs = .ok (((List.range' 1 c).filter fun w => decide (per c A % w = 0) && decide (per c B % w = 0)).map fun (w : Nat) => .int (w : Int)) cs := fun cs => by
    refine fltR_in _ _ fun w hw => ?_
    have hw := List.mem_range'_1.mp hw
    have q1 : ((per c A : Int) % (w : Int) = 0) = (per c A % w = 0) := by rw [← Int.natCast_emod]; exact propext ⟨fun h => by omega, fun h => by omega⟩
    have q2 : ((per c B : Int) % (w : Int) = 0) = (per c B % w = 0) := by rw [← Int.natCast_emod]; exact propext ⟨fun h => by omega, fun h => by omega⟩
    by_cases h1 : per c A % w = 0
    · by_cases h2 : per c B % w = 0
      · simp -implicitDefEqProofs (disch := (first | assumption | omega | (simp -implicitDefEqProofs only [all_tt, wd_non, wd_bl, wd_int, wd_str, wd_lst, wd_tup, List.all_map, List.all_cons, List.all_nil, List.all_append, Bool.and_true, Bool.and_self, Function.comp_def, List.length_map, List.length_append, List.length_cons, List.length_nil, List.length_range, List.all_eq_true, implies_true, lay_int, lays_ints, lays_nil, lays_cons, List.length_zip, List.length_drop, List.length_take, List.length_range', List.length_reverse, wd_int]; done) | (simp -implicitDefEqProofs only [all_tt, wd_non, wd_bl, wd_int, wd_str, wd_lst, wd_tup, List.all_map, List.all_cons, List.all_nil, List.all_append, Bool.and_true, Bool.and_self, Function.comp_def, List.length_map, List.length_append, List.length_cons, List.length_nil, List.length_range, List.all_eq_true, implies_true, lay_int, lays_ints, lays_nil, lays_cons, List.length_zip, List.length_drop, List.length_take, List.length_range', List.length_reverse, wd_int]; omega))) only [bd_ok, bd_exc, bd_stuck, bd_ite, ret_ok, stk_st, fetch_0, fetch_s, fetchC_0, fetchC_s, tst_bl, eE_var, eE_nev, eE_int, eE_bl, eE_non, eE_str, eE_con, boxR_f, boxR_tw, boxR_e, boxR_ite, eE_disp, eE_tup, eE_bin, eE_neg, eE_not, eE_and, eE_or, eE_one, eE_cmp, eE_chn, eE_ife, eE_call, eE_blt, eE_isi, eE_ix, intPart_i, eE_sl, eE_comp, eE_comp2, comp2L_fl, flR_comp, setTgL_nm, quietL_ok, eE_lrg1, eE_lrg2, eE_rep, eE_lsc, eE_app, eE_pop, eE_popAt, eE_idx, eE_sset, eE_lset, eE_rev, eEs_nil, eEs_cons, eI_seq, eI_rng1, eI_rng2, eI_rng3, eI_zip, eI_enm, seqR_nx, seqR_rt, seqR_exc, seqR_ite, eSs_nil, eSs_cons, eSs_frz, eSs_clr, eS_never, eS_set, eS_setT, eS_par, eS_setI, eS_aug, eS_drop, eS_doc, eS_pass, eS_retN, eS_raise, eS_ret, eS_iff, eS_forS, eS_wh, quiet_ok, quiet_ite, compL_none, compL_some, mapR_comp, mapR_ok, mapR_nil, mapR_cons, fltR_nil, fltR_cons, fltR_comp, fltR_ok, endR_nx, endR_exc, endR_keep, endR_rt, endR_int, endR_bl, endR_non, endR_ite, take_app, List.take_length, f_lt, f_gt, f_le, f_ge, eqv_int, eqv_strs, f_eqi, f_nei, f_is, f_isn, f_isb, isNon_n, isNon_b, isNon_i, isNon_s, isNon_l, isNon_t, not_b, neg_i, add_i, sub_i, len_t, len_l, abs_i, int_i, int_b, tup_t, tup_l, lst_t, lst_l, str_s, sum_l, all_l, any_l, all_nil, lit_l, lit_t, zip_l, zip_t, enm_l, cut_t, cut_l, lstOf_l, mtR_l, isi_n, isi_b, isi_i, isi_s, isi_l, isi_t, eqv_lints, eqv_tints, forL_nil, h_hole, h_var, h_int, h_bl, h_non, h_str, h_con, h_tup, h_disp, h_bin, h_neg, h_not, h_and, h_or, h_one, h_cmp, h_chn, h_ife, h_call, h_blt, h_isi, h_ix, h_sl, wipe_nil, wipe_cons, setAll_nil, setAll_cons, bool_and, bool_or, fitI_i, fitI_n, fitI_b, fitI_s, fitI_l, fitI_t, isT_t, isT_n, isT_b, isT_i, isT_s, isT_l, zallR_t, eSs_zall, free_0, free_s, done_nx, drop_m, take_m, rev_m, app_m, rev_t, rev_l, getC_0, getC_s, getC_aj, getC_a, setC_aj, setC_a, app_c, appR_s, pop_c, popR_s, set_c, setR_s, aug_c, augR_s, aug_i, lst_c, mt_o, mtO_s, slot_0, slot_s, frz_o, frzO_c, frzR_s, ix_ti, ix_li, ix_tl, ix_ll, ix_t0, ix_t1, ix_t2, ix_l0, ix_l1, ix_l2, ix_c, ixO_s, cutL_map, cutL_f, cutL_t, cutL_ft, pairsL_map, enumL_map, rng1N, rng2N, tg1, tg2, tg3, tgO1, tgO2, tgO3, tgF1, tgF2, tgF3, tgT2, tgT3, endO_s, endR_c0, endR_cj, endR_u0, endR_uj, sum_g, sset_gl, sset_gt, lset_gl, lset_gt, max_gl, max_gt, min_gl, min_gt, max_2, min_2, eq_nilL, ne_nilL, eq_nilT, ne_nilT, eq_gl, ne_gl, eq_gt, ne_gt, rngVN, rng3D, in_gl, in_gt, nin_gl, nin_gt, in_pl, in_pt, nin_pl, nin_pt, max_pl, max_pt, min_pl, min_pt, eq_pl, ne_pl, eq_pt, ne_pt, eq_pgl, ne_pgl, eq_gpl, ne_gpl, eq_pgt, ne_pgt, eq_gpt, ne_gpt, isn_b, sset_l, sset_t, lset_l, lset_t, all_tt, any_ff, Int.natCast_nonneg, Int.cast_ofNat_Int, Bool.decide_eq_false, List.length_range', List.isEmpty_nil, List.isEmpty_cons, not_true_eq_false, not_false_eq_true, Bool.true_eq_false, eq_self, Int.reduceToNat, Int.reduceSub, Int.reduceAdd, Int.reduceNeg, Int.reduceLT, Int.reduceLE, Int.reduceMul, Nat.reduceSub, Nat.reduceMul, Int.reduceEq, Int.reduceNe, KH.TI, KH.LI, List.take_zero, List.take_nil, defI, and_true, true_and, and_false, false_and, and_self, List.set_cons_zero, List.set_cons_succ, List.length_cons, List.length_nil, List.length_map, List.length_append, List.length_range, List.cons_append, List.nil_append, List.append_assoc, Nat.zero_add, Int.toNat_natCast, reduceIte, Bool.not_true, Bool.not_false, Bool.false_eq_true, decide_true, decide_false, Bool.true_and, Bool.and_true, Bool.false_and, Bool.and_false, Bool.true_or, Bool.false_or, Bool.or_true, Bool.or_false, Bool.decide_eq_true, decide_eq_true_eq, decide_eq_false_iff_not, decide_not, Bool.not_eq_true', Nat.reduceLeDiff, Nat.reduceAdd, Bool.not_not, Option.toList, tcons, List.take_succ_cons, List.map_id_fun', id_eq, List.map_id', List.isEmpty_map, mod_i, q1, q2, h1, h2]
      · simp -implicitDefEqProofs (disch := (first | assumption | omega | (simp -implicitDefEqProofs only [all_tt, wd_non, wd_bl, wd_int, wd_str, wd_lst, wd_tup, List.all_map, List.all_cons, List.all_nil, List.all_append, Bool.and_true, Bool.and_self, Function.comp_def, List.length_map, List.length_append, List.length_cons, List.length_nil, List.length_range, List.all_eq_true, implies_true, lay_int, lays_ints, lays_nil, lays_cons, List.length_zip, List.length_drop, List.length_take, List.length_range', List.length_reverse, wd_int]; done) | (simp -implicitDefEqProofs only [all_tt, wd_non, wd_bl, wd_int, wd_str, wd_lst, wd_tup, List.all_map, List.all_cons, List.all_nil, List.all_append, Bool.and_true, Bool.and_self, Function.comp_def, List.length_map, List.length_append, List.length_cons, List.length_nil, List.length_range, List.all_eq_true, implies_true, lay_int, lays_ints, lays_nil, lays_cons, List.length_zip, List.length_drop, List.length_take, List.length_range', List.length_reverse, wd_int]; omega))) only [bd_ok, bd_exc, bd_stuck, bd_ite, ret_ok, stk_st, fetch_0, fetch_s, fetchC_0, fetchC_s, tst_bl, eE_var, eE_nev, eE_int, eE_bl, eE_non, eE_str, eE_con, boxR_f, boxR_tw, boxR_e, boxR_ite, eE_disp, eE_tup, eE_bin, eE_neg, eE_not, eE_and, eE_or, eE_one, eE_cmp, eE_chn, eE_ife, eE_call, eE_blt, eE_isi, eE_ix, intPart_i, eE_sl, eE_comp, eE_comp2, comp2L_fl, flR_comp, setTgL_nm, quietL_ok, eE_lrg1, eE_lrg2, eE_rep, eE_lsc, eE_app, eE_pop, eE_popAt, eE_idx, eE_sset, eE_lset, eE_rev, eEs_nil, eEs_cons, eI_seq, eI_rng1, eI_rng2, eI_rng3, eI_zip, eI_enm, seqR_nx, seqR_rt, seqR_exc, seqR_ite, eSs_nil, eSs_cons, eSs_frz, eSs_clr, eS_never, eS_set, eS_setT, eS_par, eS_setI, eS_aug, eS_drop, eS_doc, eS_pass, eS_retN, eS_raise, eS_ret, eS_iff, eS_forS, eS_wh, quiet_ok, quiet_ite, compL_none, compL_some, mapR_comp, mapR_ok, mapR_nil, mapR_cons, fltR_nil, fltR_cons, fltR_comp, fltR_ok, endR_nx, endR_exc, endR_keep, endR_rt, endR_int, endR_bl, endR_non, endR_ite, take_app, List.take_length, f_lt, f_gt, f_le, f_ge, eqv_int, eqv_strs, f_eqi, f_nei, f_is, f_isn, f_isb, isNon_n, isNon_b, isNon_i, isNon_s, isNon_l, isNon_t, not_b, neg_i, add_i, sub_i, len_t, len_l, abs_i, int_i, int_b, tup_t, tup_l, lst_t, lst_l, str_s, sum_l, all_l, any_l, all_nil, lit_l, lit_t, zip_l, zip_t, enm_l, cut_t, cut_l, lstOf_l, mtR_l, isi_n, isi_b, isi_i, isi_s, isi_l, isi_t, eqv_lints, eqv_tints, forL_nil, h_hole, h_var, h_int, h_bl, h_non, h_str, h_con, h_tup, h_disp, h_bin, h_neg, h_not, h_and, h_or, h_one, h_cmp, h_chn, h_ife, h_call, h_blt, h_isi, h_ix, h_sl, wipe_nil, wipe_cons, setAll_nil, setAll_cons, bool_and, bool_or, fitI_i, fitI_n, fitI_b, fitI_s, fitI_l, fitI_t, isT_t, isT_n, isT_b, isT_i, isT_s, isT_l, zallR_t, eSs_zall, free_0, free_s, done_nx, drop_m, take_m, rev_m, app_m, rev_t, rev_l, getC_0, getC_s, getC_aj, getC_a, setC_aj, setC_a, app_c, appR_s, pop_c, popR_s, set_c, setR_s, aug_c, augR_s, aug_i, lst_c, mt_o, mtO_s, slot_0, slot_s, frz_o, frzO_c, frzR_s, ix_ti, ix_li, ix_tl, ix_ll, ix_t0, ix_t1, ix_t2, ix_l0, ix_l1, ix_l2, ix_c, ixO_s, cutL_map, cutL_f, cutL_t, cutL_ft, pairsL_map, enumL_map, rng1N, rng2N, tg1, tg2, tg3, tgO1, tgO2, tgO3, tgF1, tgF2, tgF3, tgT2, tgT3, endO_s, endR_c0, endR_cj, endR_u0, endR_uj, sum_g, sset_gl, sset_gt, lset_gl, lset_gt, max_gl, max_gt, min_gl, min_gt, max_2, min_2, eq_nilL, ne_nilL, eq_nilT, ne_nilT, eq_gl, ne_gl, eq_gt, ne_gt, rngVN, rng3D, in_gl, in_gt, nin_gl, nin_gt, in_pl, in_pt, nin_pl, nin_pt, max_pl, max_pt, min_pl, min_pt, eq_pl, ne_pl, eq_pt, ne_pt, eq_pgl, ne_pgl, eq_gpl, ne_gpl, eq_pgt, ne_pgt, eq_gpt, ne_gpt, isn_b, sset_l, sset_t, lset_l, lset_t, all_tt, any_ff, Int.natCast_nonneg, Int.cast_ofNat_Int, Bool.decide_eq_false, List.length_range', List.isEmpty_nil, List.isEmpty_cons, not_true_eq_false, not_false_eq_true, Bool.true_eq_false, eq_self, Int.reduceToNat, Int.reduceSub, Int.reduceAdd, Int.reduceNeg, Int.reduceLT, Int.reduceLE, Int.reduceMul, Nat.reduceSub, Nat.reduceMul, Int.reduceEq, Int.reduceNe, KH.TI, KH.LI, List.take_zero, List.take_nil, defI, and_true, true_and, and_false, false_and, and_self, List.set_cons_zero, List.set_cons_succ, List.length_cons, List.length_nil, List.length_map, List.length_append, List.length_range, List.cons_append, List.nil_append, List.append_assoc, Nat.zero_add, Int.toNat_natCast, reduceIte, Bool.not_true, Bool.not_false, Bool.false_eq_true, decide_true, decide_false, Bool.true_and, Bool.and_true, Bool.false_and, Bool.and_false, Bool.true_or, Bool.false_or, Bool.or_true, Bool.or_false, Bool.decide_eq_true, decide_eq_true_eq, decide_eq_false_iff_not, decide_not, Bool.not_eq_true', Nat.reduceLeDiff, Nat.reduceAdd, Bool.not_not, Option.toList, tcons, List.take_succ_cons, List.map_id_fun', id_eq, List.map_id', List.isEmpty_map, mod_i, q1, q2, h1, h2]
    · simp -implicitDefEqProofs (disch := (first | assumption | omega | (simp -implicitDefEqProofs only [all_tt, wd_non, wd_bl, wd_int, wd_str, wd_lst, wd_tup, List.all_map, List.all_cons, List.all_nil, List.all_append, Bool.and_true, Bool.and_self, Function.comp_def, List.length_map, List.length_append, List.length_cons, List.length_nil, List.length_range, List.all_eq_true, implies_true, lay_int, lays_ints, lays_nil, lays_cons, List.length_zip, List.length_drop, List.length_take, List.length_range', List.length_reverse, wd_int]; done) | (simp -implicitDefEqProofs only [all_tt, wd_non, wd_bl, wd_int, wd_str, wd_lst, wd_tup, List.all_map, List.all_cons, List.all_nil, List.all_append, Bool.and_true, Bool.and_self, Function.comp_def, List.length_map, List.length_append, List.length_cons, List.length_nil, List.length_range, List.all_eq_true, implies_true, lay_int, lays_ints, lays_nil, lays_cons, List.length_zip, List.length_drop, List.length_take, List.length_range', List.length_reverse, wd_int]; omega))) only [bd_ok, bd_exc, bd_stuck, bd_ite, ret_ok, stk_st, fetch_0, fetch_s, fetchC_0, fetchC_s, tst_bl, eE_var, eE_nev, eE_int, eE_bl, eE_non, eE_str, eE_con, boxR_f, boxR_tw, boxR_e, boxR_ite, eE_disp, eE_tup, eE_bin, eE_neg, eE_not, eE_and, eE_or, eE_one, eE_cmp, eE_chn, eE_ife, eE_call, eE_blt, eE_isi, eE_ix, intPart_i, eE_sl, eE_comp, eE_comp2, comp2L_fl, flR_comp, setTgL_nm, quietL_ok, eE_lrg1, eE_lrg2, eE_rep, eE_lsc, eE_app, eE_pop, eE_popAt, eE_idx, eE_sset, eE_lset, eE_rev, eEs_nil, eEs_cons, eI_seq, eI_rng1, eI_rng2, eI_rng3, eI_zip, eI_enm, seqR_nx, seqR_rt, seqR_exc, seqR_ite, eSs_nil, eSs_cons, eSs_frz, eSs_clr, eS_never, eS_set, eS_setT, eS_par, eS_setI, eS_aug, eS_drop, eS_doc, eS_pass, eS_retN, eS_raise, eS_ret, eS_iff, eS_forS, eS_wh, quiet_ok, quiet_ite, compL_none, compL_some, mapR_comp, mapR_ok, mapR_nil, mapR_cons, fltR_nil, fltR_cons, fltR_comp, fltR_ok, endR_nx, endR_exc, endR_keep, endR_rt, endR_int, endR_bl, endR_non, endR_ite, take_app, List.take_length, f_lt, f_gt, f_le, f_ge, eqv_int, eqv_strs, f_eqi, f_nei, f_is, f_isn, f_isb, isNon_n, isNon_b, isNon_i, isNon_s, isNon_l, isNon_t, not_b, neg_i, add_i, sub_i, len_t, len_l, abs_i, int_i, int_b, tup_t, tup_l, lst_t, lst_l, str_s, sum_l, all_l, any_l, all_nil, lit_l, lit_t, zip_l, zip_t, enm_l, cut_t, cut_l, lstOf_l, mtR_l, isi_n, isi_b, isi_i, isi_s, isi_l, isi_t, eqv_lints, eqv_tints, forL_nil, h_hole, h_var, h_int, h_bl, h_non, h_str, h_con, h_tup, h_disp, h_bin, h_neg, h_not, h_and, h_or, h_one, h_cmp, h_chn, h_ife, h_call, h_blt, h_isi, h_ix, h_sl, wipe_nil, wipe_cons, setAll_nil, setAll_cons, bool_and, bool_or, fitI_i, fitI_n, fitI_b, fitI_s, fitI_l, fitI_t, isT_t, isT_n, isT_b, isT_i, isT_s, isT_l, zallR_t, eSs_zall, free_0, free_s, done_nx, drop_m, take_m, rev_m, app_m, rev_t, rev_l, getC_0, getC_s, getC_aj, getC_a, setC_aj, setC_a, app_c, appR_s, pop_c, popR_s, set_c, setR_s, aug_c, augR_s, aug_i, lst_c, mt_o, mtO_s, slot_0, slot_s, frz_o, frzO_c, frzR_s, ix_ti, ix_li, ix_tl, ix_ll, ix_t0, ix_t1, ix_t2, ix_l0, ix_l1, ix_l2, ix_c, ixO_s, cutL_map, cutL_f, cutL_t, cutL_ft, pairsL_map, enumL_map, rng1N, rng2N, tg1, tg2, tg3, tgO1, tgO2, tgO3, tgF1, tgF2, tgF3, tgT2, tgT3, endO_s, endR_c0, endR_cj, endR_u0, endR_uj, sum_g, sset_gl, sset_gt, lset_gl, lset_gt, max_gl, max_gt, min_gl, min_gt, max_2, min_2, eq_nilL, ne_nilL, eq_nilT, ne_nilT, eq_gl, ne_gl, eq_gt, ne_gt, rngVN, rng3D, in_gl, in_gt, nin_gl, nin_gt, in_pl, in_pt, nin_pl, nin_pt, max_pl, max_pt, min_pl, min_pt, eq_pl, ne_pl, eq_pt, ne_pt, eq_pgl, ne_pgl, eq_gpl, ne_gpl, eq_pgt, ne_pgt, eq_gpt, ne_gpt, isn_b, sset_l, sset_t, lset_l, lset_t, all_tt, any_ff, Int.natCast_nonneg, Int.cast_ofNat_Int, Bool.decide_eq_false, List.length_range', List.isEmpty_nil, List.isEmpty_cons, not_true_eq_false, not_false_eq_true, Bool.true_eq_false, eq_self, Int.reduceToNat, Int.reduceSub, Int.reduceAdd, Int.reduceNeg, Int.reduceLT, Int.reduceLE, Int.reduceMul, Nat.reduceSub, Nat.reduceMul, Int.reduceEq, Int.reduceNe, KH.TI, KH.LI, List.take_zero, List.take_nil, defI, and_true, true_and, and_false, false_and, and_self, List.set_cons_zero, List.set_cons_succ, List.length_cons, List.length_nil, List.length_map, List.length_append, List.length_range, List.cons_append, List.nil_append, List.append_assoc, Nat.zero_add, Int.toNat_natCast, reduceIte, Bool.not_true, Bool.not_false, Bool.false_eq_true, decide_true, decide_false, Bool.true_and, Bool.and_true, Bool.false_and, Bool.and_false, Bool.true_or, Bool.false_or, Bool.or_true, Bool.or_false, Bool.decide_eq_true, decide_eq_true_eq, decide_eq_false_iff_not, decide_not, Bool.not_eq_true', Nat.reduceLeDiff, Nat.reduceAdd, Bool.not_not, Option.toList, tcons, List.take_succ_cons, List.map_id_fun', id_eq, List.map_id', List.isEmpty_map, mod_i, q1, q2, h1]
  have gpos : 0 < ((List.range' 1 c).filter fun w => decide (per c A % w = 0) && decide (per c B % w = 0)).length := List.length_pos_of_mem (List.mem_filter.mpr ⟨List.mem_range'_1.mpr (show 1 ≤ 1 ∧ 1 < 1 + c by omega), by simp [Nat.mod_one]⟩)
  have gm : ∀ cs, Blt.max.fn [.list (((List.range' 1 c).filter fun w => decide (per c A % w = 0) && decide (per c B % w = 0)).map fun (w : Nat) => .int (w : Int))] cs = .ok (.int (Nat.gcd (per c A) (per c B) : Nat)) cs := fun cs => by
    have := max_pl cs (((List.range' 1 c).filter fun w => decide (per c A % w = 0) && decide (per c B % w = 0)).map fun (w : Nat) => (w : Int)) (by rw [List.length_map]; exact gpos)
    rw [gcd_max pA1 pA2 pB1, List.map_map] at this
    exact this
  have e16 : ∀ cs, run prg 19 16 [.int (c : Int), TI A] cs = .ok (.int (per c A : Nat)) cs := fun cs => hpo 14 c A hA cs
  have e17 : ∀ cs, run prg 19 18 [.int (c : Int), TI A, TI B] cs = .ok (.int (Nat.gcd (per c A) (per c B) : Nat)) cs := fun cs => cpo 13 c A B hA hB cs
  have m4 : ∀ (a b : Int) cs, run prg 19 22 [.tuple [.int a, .int b], .tuple [.int a, .int b]] cs = .ok (.bool true) cs := fun a b cs => same _ (by simp) cs
  obtain ⟨v7, s7, a7, b7, e18⟩ := rolled 18 (c : Int) (by omega) (by omega) s6 (l ++ [none])
  obtain ⟨n, hn⟩ : ∃ n : Nat, 1 + v7 = n := ⟨(1 + v7).toNat, by omega⟩
  have e19 : ∀ cs, run prg 19 17 [.int (c : Int), .int (n : Int)] cs = .ok (.tuple ((List.range n).map fun (i : Nat) => .int ((c : Int) * (i : Int) / (n : Int)))) cs := fun cs => eho 15 c n (by omega) (by omega) hc1 cs
  have ev : ∀ cs, mapR (fun (x : Nat) c2 => quiet ((Bop.mul.fn (.int (c : Int)) (.int (x : Int)) c2).bd fun x c3 => Bop.fdiv.fn x (.int (n : Int)) c3)) (List.range n) cs = .ok ((List.range n).map fun (i : Nat) => .int ((c : Int) * (i : Int) / (n : Int))) cs := fun cs => by
    refine mapR_in _ fun i _ => ?_
    rw [mul_l _ _ _ (by omega) (by omega), bd_ok, fdiv_i _ _ _ (by omega) (by omega)]
    rfl
  have m5 : ∀ cs, run prg 19 22 [.tuple ((List.range n).map fun (i : Nat) => .int ((c : Int) * (i : Int) / (n : Int))), .tuple ((List.range n).map fun (i : Nat) => .int ((c : Int) * (i : Int) / (n : Int)))] cs = .ok (.bool true) cs := fun cs => same _ (by simp; omega) cs
  have L2 : forL (.nm 6) (evSs (run prg 19) prg.tab b28_f1) (((LF c A).take 3).map tupI) [some x, some (cellD 0), some d, some (.int (c : Int)), some gr, some (.list [.int (per c A : Nat), .int (per c B : Nat)]), none, some (.int (Nat.gcd (per c A) (per c B) : Nat)), some (.int (n : Int)), none, some (TI A), some (TI B), some (.list ((cntL c A B).map .int)), some (.list ((LF c A).map tupI)), some (.int u), some (.int (m : Int)), some (.list ((trn c A u).map .int)), none, none, none, none] (cup s7 :: (l ++ [none])) =
      .ok (.nx [some x, some (cellD 0), some d, some (.int (c : Int)), some gr, some (.list [.int (per c A : Nat), .int (per c B : Nat)]), none, some (.int (Nat.gcd (per c A) (per c B) : Nat)), some (.int (n : Int)), none, some (TI A), some (TI B), some (.list ((cntL c A B).map .int)), some (.list ((LF c A).map tupI)), some (.int u), some (.int (m : Int)), some (.list ((trn c A u).map .int)), none, none, none, none]) (cup s7 :: (l ++ [none])) := by
    refine for_same _ _ _ fun dd hd => ?_
    obtain ⟨F, hF, rfl⟩ := List.mem_map.mp hd
    obtain ⟨tF, zF⟩ := (lf_mem hA.h hc F).mp (List.mem_of_mem_take hF)
    have hT := fill_hits tF zF hc hc1
    have t1 : Til c F A := til_comm hA.h hT.h tF.til
    have t2 : Til c (trn c A u) F := til_trn hA.h hc u tF.til
    have hU : HitsT c (trn c A u) := ⟨(trn_hits hA.h hc u).1, hc, hc1⟩
    have f1 : ∀ cs, run prg 19 11 [.int (c : Int), tupI F, TI A] cs = .ok (.bool true) cs := fun cs => by
      have := isf 14 c F A hT hA cs
      rw [decide_eq_true t1] at this
      exact this
    have f2 : ∀ cs, run prg 19 11 [.int (c : Int), TI (trn c A u), tupI F] cs = .ok (.bool true) cs := fun cs => by
      have := isf 14 c (trn c A u) F hU hT cs
      rw [decide_eq_true t2] at this
      exact this
    have lo : ∀ cs, fltR (fun (w : Nat) c1 => (quiet (((Bop.mod.fn (.int (A.length : Int)) (.int (w : Int)) c1).bd fun x c => Cmp1.eq.fn x (.int 0) c).bd fun x c2 => tst x ((Bop.mod.fn (.int (m : Int)) (.int (w : Int)) c2).bd fun x c => Cmp1.eq.fn x (.int 0) c) (.ok (.bool false) c2))).bd fun b c => tst b (.ok (some (.int (w : Int))) c) (.ok none c)) (List.range' 2 (A.length - 1)) cs = .ok (((List.range' 2 (A.length - 1)).filter fun (w : Nat) => decide ((A.length : Int) % (w : Int) = 0) && decide ((m : Int) % (w : Int) = 0)).map fun (w : Nat) => .int (w : Int)) cs := fun cs => by
      refine fltR_in _ _ fun w hw => ?_
      have hw := List.mem_range'_1.mp hw
      by_cases h1 : (A.length : Int) % (w : Int) = 0
      · by_cases h2 : (m : Int) % (w : Int) = 0
        · simp -implicitDefEqProofs (disch := (first | assumption | omega | (simp -implicitDefEqProofs only [all_tt, wd_non, wd_bl, wd_int, wd_str, wd_lst, wd_tup, List.all_map, List.all_cons, List.all_nil, List.all_append, Bool.and_true, Bool.and_self, Function.comp_def, List.length_map, List.length_append, List.length_cons, List.length_nil, List.length_range, List.all_eq_true, implies_true, lay_int, lays_ints, lays_nil, lays_cons, List.length_zip, List.length_drop, List.length_take, List.length_range', List.length_reverse, wd_int]; done) | (simp -implicitDefEqProofs only [all_tt, wd_non, wd_bl, wd_int, wd_str, wd_lst, wd_tup, List.all_map, List.all_cons, List.all_nil, List.all_append, Bool.and_true, Bool.and_self, Function.comp_def, List.length_map, List.length_append, List.length_cons, List.length_nil, List.length_range, List.all_eq_true, implies_true, lay_int, lays_ints, lays_nil, lays_cons, List.length_zip, List.length_drop, List.length_take, List.length_range', List.length_reverse, wd_int]; omega))) only [bd_ok, bd_exc, bd_stuck, bd_ite, ret_ok, stk_st, fetch_0, fetch_s, fetchC_0, fetchC_s, tst_bl, eE_var, eE_nev, eE_int, eE_bl, eE_non, eE_str, eE_con, boxR_f, boxR_tw, boxR_e, boxR_ite, eE_disp, eE_tup, eE_bin, eE_neg, eE_not, eE_and, eE_or, eE_one, eE_cmp, eE_chn, eE_ife, eE_call, eE_blt, eE_isi, eE_ix, intPart_i, eE_sl, eE_comp, eE_comp2, comp2L_fl, flR_comp, setTgL_nm, quietL_ok, eE_lrg1, eE_lrg2, eE_rep, eE_lsc, eE_app, eE_pop, eE_popAt, eE_idx, eE_sset, eE_lset, eE_rev, eEs_nil, eEs_cons, eI_seq, eI_rng1, eI_rng2, eI_rng3, eI_zip, eI_enm, seqR_nx, seqR_rt, seqR_exc, seqR_ite, eSs_nil, eSs_cons, eSs_frz, eSs_clr, eS_never, eS_set, eS_setT, eS_par, eS_setI, eS_aug, eS_drop, eS_doc, eS_pass, eS_retN, eS_raise, eS_ret, eS_iff, eS_forS, eS_wh, quiet_ok, quiet_ite, compL_none, compL_some, mapR_comp, mapR_ok, mapR_nil, mapR_cons, fltR_nil, fltR_cons, fltR_comp, fltR_ok, endR_nx, endR_exc, endR_keep, endR_rt, endR_int, endR_bl, endR_non, endR_ite, take_app, List.take_length, f_lt, f_gt, f_le, f_ge, eqv_int, eqv_strs, f_eqi, f_nei, f_is, f_isn, f_isb, isNon_n, isNon_b, isNon_i, isNon_s, isNon_l, isNon_t, not_b, neg_i, add_i, sub_i, len_t, len_l, abs_i, int_i, int_b, tup_t, tup_l, lst_t, lst_l, str_s, sum_l, all_l, any_l, all_nil, lit_l, lit_t, zip_l, zip_t, enm_l, cut_t, cut_l, lstOf_l, mtR_l, isi_n, isi_b, isi_i, isi_s, isi_l, isi_t, eqv_lints, eqv_tints, forL_nil, h_hole, h_var, h_int, h_bl, h_non, h_str, h_con, h_tup, h_disp, h_bin, h_neg, h_not, h_and, h_or, h_one, h_cmp, h_chn, h_ife, h_call, h_blt, h_isi, h_ix, h_sl, wipe_nil, wipe_cons, setAll_nil, setAll_cons, bool_and, bool_or, fitI_i, fitI_n, fitI_b, fitI_s, fitI_l, fitI_t, isT_t, isT_n, isT_b, isT_i, isT_s, isT_l, zallR_t, eSs_zall, free_0, free_s, done_nx, drop_m, take_m, rev_m, app_m, rev_t, rev_l, getC_0, getC_s, getC_aj, getC_a, setC_aj, setC_a, app_c, appR_s, pop_c, popR_s, set_c, setR_s, aug_c, augR_s, aug_i, lst_c, mt_o, mtO_s, slot_0, slot_s, frz_o, frzO_c, frzR_s, ix_ti, ix_li, ix_tl, ix_ll, ix_t0, ix_t1, ix_t2, ix_l0, ix_l1, ix_l2, ix_c, ixO_s, cutL_map, cutL_f, cutL_t, cutL_ft, pairsL_map, enumL_map, rng1N, rng2N, tg1, tg2, tg3, tgO1, tgO2, tgO3, tgF1, tgF2, tgF3, tgT2, tgT3, endO_s, endR_c0, endR_cj, endR_u0, endR_uj, sum_g, sset_gl, sset_gt, lset_gl, lset_gt, max_gl, max_gt, min_gl, min_gt, max_2, min_2, eq_nilL, ne_nilL, eq_nilT, ne_nilT, eq_gl, ne_gl, eq_gt, ne_gt, rngVN, rng3D, in_gl, in_gt, nin_gl, nin_gt, in_pl, in_pt, nin_pl, nin_pt, max_pl, max_pt, min_pl, min_pt, eq_pl, ne_pl, eq_pt, ne_pt, eq_pgl, ne_pgl, eq_gpl, ne_gpl, eq_pgt, ne_pgt, eq_gpt, ne_gpt, isn_b, sset_l, sset_t, lset_l, lset_t, all_tt, any_ff, Int.natCast_nonneg, Int.cast_ofNat_Int, Bool.decide_eq_false, List.length_range', List.isEmpty_nil, List.isEmpty_cons, not_true_eq_false, not_false_eq_true, Bool.true_eq_false, eq_self, Int.reduceToNat, Int.reduceSub, Int.reduceAdd, Int.reduceNeg, Int.reduceLT, Int.reduceLE, Int.reduceMul, Nat.reduceSub, Nat.reduceMul, Int.reduceEq, Int.reduceNe, KH.TI, KH.LI, List.take_zero, List.take_nil, defI, and_true, true_and, and_false, false_and, and_self, List.set_cons_zero, List.set_cons_succ, List.length_cons, List.length_nil, List.length_map, List.length_append, List.length_range, List.cons_append, List.nil_append, List.append_assoc, Nat.zero_add, Int.toNat_natCast, reduceIte, Bool.not_true, Bool.not_false, Bool.false_eq_true, decide_true, decide_false, Bool.true_and, Bool.and_true, Bool.false_and, Bool.and_false, Bool.true_or, Bool.false_or, Bool.or_true, Bool.or_false, Bool.decide_eq_true, decide_eq_true_eq, decide_eq_false_iff_not, decide_not, Bool.not_eq_true', Nat.reduceLeDiff, Nat.reduceAdd, Bool.not_not, Option.toList, tcons, List.take_succ_cons, List.map_id_fun', id_eq, List.map_id', List.isEmpty_map, mod_i, h1, h2]
        · simp -implicitDefEqProofs (disch := (first | assumption | omega | (simp -implicitDefEqProofs only [all_tt, wd_non, wd_bl, wd_int, wd_str, wd_lst, wd_tup, List.all_map, List.all_cons, List.all_nil, List.all_append, Bool.and_true, Bool.and_self, Function.comp_def, List.length_map, List.length_append, List.length_cons, List.length_nil, List.length_range, List.all_eq_true, implies_true, lay_int, lays_ints, lays_nil, lays_cons, List.length_zip, List.length_drop, List.length_take, List.length_range', List.length_reverse, wd_int]; done) | (simp -implicitDefEqProofs only [all_tt, wd_non, wd_bl, wd_int, wd_str, wd_lst, wd_tup, List.all_map, List.all_cons, List.all_nil, List.all_append, Bool.and_true, Bool.and_self, Function.comp_def, List.length_map, List.length_append, List.length_cons, List.length_nil, List.length_range, List.all_eq_true, implies_true, lay_int, lays_ints, lays_nil, lays_cons, List.length_zip, List.length_drop, List.length_take, List.length_range', List.length_reverse, wd_int]; omega))) only [bd_ok, bd_exc, bd_stuck, bd_ite, ret_ok, stk_st, fetch_0, fetch_s, fetchC_0, fetchC_s, tst_bl, eE_var, eE_nev, eE_int, eE_bl, eE_non, eE_str, eE_con, boxR_f, boxR_tw, boxR_e, boxR_ite, eE_disp, eE_tup, eE_bin, eE_neg, eE_not, eE_and, eE_or, eE_one, eE_cmp, eE_chn, eE_ife, eE_call, eE_blt, eE_isi, eE_ix, intPart_i, eE_sl, eE_comp, eE_comp2, comp2L_fl, flR_comp, setTgL_nm, quietL_ok, eE_lrg1, eE_lrg2, eE_rep, eE_lsc, eE_app, eE_pop, eE_popAt, eE_idx, eE_sset, eE_lset, eE_rev, eEs_nil, eEs_cons, eI_seq, eI_rng1, eI_rng2, eI_rng3, eI_zip, eI_enm, seqR_nx, seqR_rt, seqR_exc, seqR_ite, eSs_nil, eSs_cons, eSs_frz, eSs_clr, eS_never, eS_set, eS_setT, eS_par, eS_setI, eS_aug, eS_drop, eS_doc, eS_pass, eS_retN, eS_raise, eS_ret, eS_iff, eS_forS, eS_wh, quiet_ok, quiet_ite, compL_none, compL_some, mapR_comp, mapR_ok, mapR_nil, mapR_cons, fltR_nil, fltR_cons, fltR_comp, fltR_ok, endR_nx, endR_exc, endR_keep, endR_rt, endR_int, endR_bl, endR_non, endR_ite, take_app, List.take_length, f_lt, f_gt, f_le, f_ge, eqv_int, eqv_strs, f_eqi, f_nei, f_is, f_isn, f_isb, isNon_n, isNon_b, isNon_i, isNon_s, isNon_l, isNon_t, not_b, neg_i, add_i, sub_i, len_t, len_l, abs_i, int_i, int_b, tup_t, tup_l, lst_t, lst_l, str_s, sum_l, all_l, any_l, all_nil, lit_l, lit_t, zip_l, zip_t, enm_l, cut_t, cut_l, lstOf_l, mtR_l, isi_n, isi_b, isi_i, isi_s, isi_l, isi_t, eqv_lints, eqv_tints, forL_nil, h_hole, h_var, h_int, h_bl, h_non, h_str, h_con, h_tup, h_disp, h_bin, h_neg, h_not, h_and, h_or, h_one, h_cmp, h_chn, h_ife, h_call, h_blt, h_isi, h_ix, h_sl, wipe_nil, wipe_cons, setAll_nil, setAll_cons, bool_and, bool_or, fitI_i, fitI_n, fitI_b, fitI_s, fitI_l, fitI_t, isT_t, isT_n, isT_b, isT_i, isT_s, isT_l, zallR_t, eSs_zall, free_0, free_s, done_nx, drop_m, take_m, rev_m, app_m, rev_t, rev_l, getC_0, getC_s, getC_aj, getC_a, setC_aj, setC_a, app_c, appR_s, pop_c, popR_s, set_c, setR_s, aug_c, augR_s, aug_i, lst_c, mt_o, mtO_s, slot_0, slot_s, frz_o, frzO_c, frzR_s, ix_ti, ix_li, ix_tl, ix_ll, ix_t0, ix_t1, ix_t2, ix_l0, ix_l1, ix_l2, ix_c, ixO_s, cutL_map, cutL_f, cutL_t, cutL_ft, pairsL_map, enumL_map, rng1N, rng2N, tg1, tg2, tg3, tgO1, tgO2, tgO3, tgF1, tgF2, tgF3, tgT2, tgT3, endO_s, endR_c0, endR_cj, endR_u0, endR_uj, sum_g, sset_gl, sset_gt, lset_gl, lset_gt, max_gl, max_gt, min_gl, min_gt, max_2, min_2, eq_nilL, ne_nilL, eq_nilT, ne_nilT, eq_gl, ne_gl, eq_gt, ne_gt, rngVN, rng3D, in_gl, in_gt, nin_gl, nin_gt, in_pl, in_pt, nin_pl, nin_pt, max_pl, max_pt, min_pl, min_pt, eq_pl, ne_pl, eq_pt, ne_pt, eq_pgl, ne_pgl, eq_gpl, ne_gpl, eq_pgt, ne_pgt, eq_gpt, ne_gpt, isn_b, sset_l, sset_t, lset_l, lset_t, all_tt, any_ff, Int.natCast_nonneg, Int.cast_ofNat_Int, Bool.decide_eq_false, List.length_range', List.isEmpty_nil, List.isEmpty_cons, not_true_eq_false, not_false_eq_true, Bool.true_eq_false, eq_self, Int.reduceToNat, Int.reduceSub, Int.reduceAdd, Int.reduceNeg, Int.reduceLT, Int.reduceLE, Int.reduceMul, Nat.reduceSub, Nat.reduceMul, Int.reduceEq, Int.reduceNe, KH.TI, KH.LI, List.take_zero, List.take_nil, defI, and_true, true_and, and_false, false_and, and_self, List.set_cons_zero, List.set_cons_succ, List.length_cons, List.length_nil, List.length_map, List.length_append, List.length_range, List.cons_append, List.nil_append, List.append_assoc, Nat.zero_add, Int.toNat_natCast, reduceIte, Bool.not_true, Bool.not_false, Bool.false_eq_true, decide_true, decide_false, Bool.true_and, Bool.and_true, Bool.false_and, Bool.and_false, Bool.true_or, Bool.false_or, Bool.or_true, Bool.or_false, Bool.decide_eq_true, decide_eq_true_eq, decide_eq_false_iff_not, decide_not, Bool.not_eq_true', Nat.reduceLeDiff, Nat.reduceAdd, Bool.not_not, Option.toList, tcons, List.take_succ_cons, List.map_id_fun', id_eq, List.map_id', List.isEmpty_map, mod_i, h1, h2]
      · simp -implicitDefEqProofs (disch := (first | assumption | omega | (simp -implicitDefEqProofs only [all_tt, wd_non, wd_bl, wd_int, wd_str, wd_lst, wd_tup, List.all_map, List.all_cons, List.all_nil, List.all_append, Bool.and_true, Bool.and_self, Function.comp_def, List.length_map, List.length_append, List.length_cons, List.length_nil, List.length_range, List.all_eq_true, implies_true, lay_int, lays_ints, lays_nil, lays_cons, List.length_zip, List.length_drop, List.length_take, List.length_range', List.length_reverse, wd_int]; done) | (simp -implicitDefEqProofs only [all_tt, wd_non, wd_bl, wd_int, wd_str, wd_lst, wd_tup, List.all_map, List.all_cons, List.all_nil, List.all_append, Bool.and_true, Bool.and_self, Function.comp_def, List.length_map, List.length_append, List.length_cons, List.length_nil, List.length_range, List.all_eq_true, implies_true, lay_int, lays_ints, lays_nil, lays_cons, List.length_zip, List.length_drop, List.length_take, List.length_range', List.length_reverse, wd_int]; omega))) only [bd_ok, bd_exc, bd_stuck, bd_ite, ret_ok, stk_st, fetch_0, fetch_s, fetchC_0, fetchC_s, tst_bl, eE_var, eE_nev, eE_int, eE_bl, eE_non, eE_str, eE_con, boxR_f, boxR_tw, boxR_e, boxR_ite, eE_disp, eE_tup, eE_bin, eE_neg, eE_not, eE_and, eE_or, eE_one, eE_cmp, eE_chn, eE_ife, eE_call, eE_blt, eE_isi, eE_ix, intPart_i, eE_sl, eE_comp, eE_comp2, comp2L_fl, flR_comp, setTgL_nm, quietL_ok, eE_lrg1, eE_lrg2, eE_rep, eE_lsc, eE_app, eE_pop, eE_popAt, eE_idx, eE_sset, eE_lset, eE_rev, eEs_nil, eEs_cons, eI_seq, eI_rng1, eI_rng2, eI_rng3, eI_zip, eI_enm, seqR_nx, seqR_rt, seqR_exc, seqR_ite, eSs_nil, eSs_cons, eSs_frz, eSs_clr, eS_never, eS_set, eS_setT, eS_par, eS_setI, eS_aug, eS_drop, eS_doc, eS_pass, eS_retN, eS_raise, eS_ret, eS_iff, eS_forS, eS_wh, quiet_ok, quiet_ite, compL_none, compL_some, mapR_comp, mapR_ok, mapR_nil, mapR_cons, fltR_nil, fltR_cons, fltR_comp, fltR_ok, endR_nx, endR_exc, endR_keep, endR_rt, endR_int, endR_bl, endR_non, endR_ite, take_app, List.take_length, f_lt, f_gt, f_le, f_ge, eqv_int, eqv_strs, f_eqi, f_nei, f_is, f_isn, f_isb, isNon_n, isNon_b, isNon_i, isNon_s, isNon_l, isNon_t, not_b, neg_i, add_i, sub_i, len_t, len_l, abs_i, int_i, int_b, tup_t, tup_l, lst_t, lst_l, str_s, sum_l, all_l, any_l, all_nil, lit_l, lit_t, zip_l, zip_t, enm_l, cut_t, cut_l, lstOf_l, mtR_l, isi_n, isi_b, isi_i, isi_s, isi_l, isi_t, eqv_lints, eqv_tints, forL_nil, h_hole, h_var, h_int, h_bl, h_non, h_str, h_con, h_tup, h_disp, h_bin, h_neg, h_not, h_and, h_or, h_one, h_cmp, h_chn, h_ife, h_call, h_blt, h_isi, h_ix, h_sl, wipe_nil, wipe_cons, setAll_nil, setAll_cons, bool_and, bool_or, fitI_i, fitI_n, fitI_b, fitI_s, fitI_l, fitI_t, isT_t, isT_n, isT_b, isT_i, isT_s, isT_l, zallR_t, eSs_zall, free_0, free_s, done_nx, drop_m, take_m, rev_m, app_m, rev_t, rev_l, getC_0, getC_s, getC_aj, getC_a, setC_aj, setC_a, app_c, appR_s, pop_c, popR_s, set_c, setR_s, aug_c, augR_s, aug_i, lst_c, mt_o, mtO_s, slot_0, slot_s, frz_o, frzO_c, frzR_s, ix_ti, ix_li, ix_tl, ix_ll, ix_t0, ix_t1, ix_t2, ix_l0, ix_l1, ix_l2, ix_c, ixO_s, cutL_map, cutL_f, cutL_t, cutL_ft, pairsL_map, enumL_map, rng1N, rng2N, tg1, tg2, tg3, tgO1, tgO2, tgO3, tgF1, tgF2, tgF3, tgT2, tgT3, endO_s, endR_c0, endR_cj, endR_u0, endR_uj, sum_g, sset_gl, sset_gt, lset_gl, lset_gt, max_gl, max_gt, min_gl, min_gt, max_2, min_2, eq_nilL, ne_nilL, eq_nilT, ne_nilT, eq_gl, ne_gl, eq_gt, ne_gt, rngVN, rng3D, in_gl, in_gt, nin_gl, nin_gt, in_pl, in_pt, nin_pl, nin_pt, max_pl, max_pt, min_pl, min_pt, eq_pl, ne_pl, eq_pt, ne_pt, eq_pgl, ne_pgl, eq_gpl, ne_gpl, eq_pgt, ne_pgt, eq_gpt, ne_gpt, isn_b, sset_l, sset_t, lset_l, lset_t, all_tt, any_ff, Int.natCast_nonneg, Int.cast_ofNat_Int, Bool.decide_eq_false, List.length_range', List.isEmpty_nil, List.isEmpty_cons, not_true_eq_false, not_false_eq_true, Bool.true_eq_false, eq_self, Int.reduceToNat, Int.reduceSub, Int.reduceAdd, Int.reduceNeg, Int.reduceLT, Int.reduceLE, Int.reduceMul, Nat.reduceSub, Nat.reduceMul, Int.reduceEq, Int.reduceNe, KH.TI, KH.LI, List.take_zero, List.take_nil, defI, and_true, true_and, and_false, false_and, and_self, List.set_cons_zero, List.set_cons_succ, List.length_cons, List.length_nil, List.length_map, List.length_append, List.length_range, List.cons_append, List.nil_append, List.append_assoc, Nat.zero_add, Int.toNat_natCast, reduceIte, Bool.not_true, Bool.not_false, Bool.false_eq_true, decide_true, decide_false, Bool.true_and, Bool.and_true, Bool.false_and, Bool.and_false, Bool.true_or, Bool.false_or, Bool.or_true, Bool.or_false, Bool.decide_eq_true, decide_eq_true_eq, decide_eq_false_iff_not, decide_not, Bool.not_eq_true', Nat.reduceLeDiff, Nat.reduceAdd, Bool.not_not, Option.toList, tcons, List.take_succ_cons, List.map_id_fun', id_eq, List.map_id', List.isEmpty_map, mod_i, h1]
    have c2 : ((A.length : Int) + 1 - 2).toNat = A.length - 1 := by omega
    have lg := lone_gcd A.length m hA1.1
    have tij := fun hg => tij (m := m) hA.h tF zF hc hc2 lA hg
    unfold b28_f1
    generalize ((List.range' 2 (A.length - 1)).filter fun (w : Nat) => decide ((A.length : Int) % (w : Int) = 0) && decide ((m : Int) % (w : Int) = 0)) = W at *
    cases hW : W.isEmpty with
    | false => simp -implicitDefEqProofs (disch := (first | assumption | omega | (simp -implicitDefEqProofs only [all_tt, wd_non, wd_bl, wd_int, wd_str, wd_lst, wd_tup, List.all_map, List.all_cons, List.all_nil, List.all_append, Bool.and_true, Bool.and_self, Function.comp_def, List.length_map, List.length_append, List.length_cons, List.length_nil, List.length_range, List.all_eq_true, implies_true, lay_int, lays_ints, lays_nil, lays_cons, List.length_zip, List.length_drop, List.length_take, List.length_range', List.length_reverse, wd_int]; done) | (simp -implicitDefEqProofs only [all_tt, wd_non, wd_bl, wd_int, wd_str, wd_lst, wd_tup, List.all_map, List.all_cons, List.all_nil, List.all_append, Bool.and_true, Bool.and_self, Function.comp_def, List.length_map, List.length_append, List.length_cons, List.length_nil, List.length_range, List.all_eq_true, implies_true, lay_int, lays_ints, lays_nil, lays_cons, List.length_zip, List.length_drop, List.length_take, List.length_range', List.length_reverse, wd_int]; omega))) only [bd_ok, bd_exc, bd_stuck, bd_ite, ret_ok, stk_st, fetch_0, fetch_s, fetchC_0, fetchC_s, tst_bl, eE_var, eE_nev, eE_int, eE_bl, eE_non, eE_str, eE_con, boxR_f, boxR_tw, boxR_e, boxR_ite, eE_disp, eE_tup, eE_bin, eE_neg, eE_not, eE_and, eE_or, eE_one, eE_cmp, eE_chn, eE_ife, eE_call, eE_blt, eE_isi, eE_ix, intPart_i, eE_sl, eE_comp, eE_comp2, comp2L_fl, flR_comp, setTgL_nm, quietL_ok, eE_lrg1, eE_lrg2, eE_rep, eE_lsc, eE_app, eE_pop, eE_popAt, eE_idx, eE_sset, eE_lset, eE_rev, eEs_nil, eEs_cons, eI_seq, eI_rng1, eI_rng2, eI_rng3, eI_zip, eI_enm, seqR_nx, seqR_rt, seqR_exc, seqR_ite, eSs_nil, eSs_cons, eSs_frz, eSs_clr, eS_never, eS_set, eS_setT, eS_par, eS_setI, eS_aug, eS_drop, eS_doc, eS_pass, eS_retN, eS_raise, eS_ret, eS_iff, eS_forS, eS_wh, quiet_ok, quiet_ite, compL_none, compL_some, mapR_comp, mapR_ok, mapR_nil, mapR_cons, fltR_nil, fltR_cons, fltR_comp, fltR_ok, endR_nx, endR_exc, endR_keep, endR_rt, endR_int, endR_bl, endR_non, endR_ite, take_app, List.take_length, f_lt, f_gt, f_le, f_ge, eqv_int, eqv_strs, f_eqi, f_nei, f_is, f_isn, f_isb, isNon_n, isNon_b, isNon_i, isNon_s, isNon_l, isNon_t, not_b, neg_i, add_i, sub_i, len_t, len_l, abs_i, int_i, int_b, tup_t, tup_l, lst_t, lst_l, str_s, sum_l, all_l, any_l, all_nil, lit_l, lit_t, zip_l, zip_t, enm_l, cut_t, cut_l, lstOf_l, mtR_l, isi_n, isi_b, isi_i, isi_s, isi_l, isi_t, eqv_lints, eqv_tints, forL_nil, h_hole, h_var, h_int, h_bl, h_non, h_str, h_con, h_tup, h_disp, h_bin, h_neg, h_not, h_and, h_or, h_one, h_cmp, h_chn, h_ife, h_call, h_blt, h_isi, h_ix, h_sl, wipe_nil, wipe_cons, setAll_nil, setAll_cons, bool_and, bool_or, fitI_i, fitI_n, fitI_b, fitI_s, fitI_l, fitI_t, isT_t, isT_n, isT_b, isT_i, isT_s, isT_l, zallR_t, eSs_zall, free_0, free_s, done_nx, drop_m, take_m, rev_m, app_m, rev_t, rev_l, getC_0, getC_s, getC_aj, getC_a, setC_aj, setC_a, app_c, appR_s, pop_c, popR_s, set_c, setR_s, aug_c, augR_s, aug_i, lst_c, mt_o, mtO_s, slot_0, slot_s, frz_o, frzO_c, frzR_s, ix_ti, ix_li, ix_tl, ix_ll, ix_t0, ix_t1, ix_t2, ix_l0, ix_l1, ix_l2, ix_c, ixO_s, cutL_map, cutL_f, cutL_t, cutL_ft, pairsL_map, enumL_map, rng1N, rng2N, tg1, tg2, tg3, tgO1, tgO2, tgO3, tgF1, tgF2, tgF3, tgT2, tgT3, endO_s, endR_c0, endR_cj, endR_u0, endR_uj, sum_g, sset_gl, sset_gt, lset_gl, lset_gt, max_gl, max_gt, min_gl, min_gt, max_2, min_2, eq_nilL, ne_nilL, eq_nilT, ne_nilT, eq_gl, ne_gl, eq_gt, ne_gt, rngVN, rng3D, in_gl, in_gt, nin_gl, nin_gt, in_pl, in_pt, nin_pl, nin_pt, max_pl, max_pt, min_pl, min_pt, eq_pl, ne_pl, eq_pt, ne_pt, eq_pgl, ne_pgl, eq_gpl, ne_gpl, eq_pgt, ne_pgt, eq_gpt, ne_gpt, isn_b, sset_l, sset_t, lset_l, lset_t, all_tt, any_ff, Int.natCast_nonneg, Int.cast_ofNat_Int, Bool.decide_eq_false, List.length_range', List.isEmpty_nil, List.isEmpty_cons, not_true_eq_false, not_false_eq_true, Bool.true_eq_false, eq_self, Int.reduceToNat, Int.reduceSub, Int.reduceAdd, Int.reduceNeg, Int.reduceLT, Int.reduceLE, Int.reduceMul, Nat.reduceSub, Nat.reduceMul, Int.reduceEq, Int.reduceNe, KH.TI, KH.LI, List.take_zero, List.take_nil, defI, and_true, true_and, and_false, false_and, and_self, List.set_cons_zero, List.set_cons_succ, List.length_cons, List.length_nil, List.length_map, List.length_append, List.length_range, List.cons_append, List.nil_append, List.append_assoc, Nat.zero_add, Int.toNat_natCast, reduceIte, Bool.not_true, Bool.not_false, Bool.false_eq_true, decide_true, decide_false, Bool.true_and, Bool.and_true, Bool.false_and, Bool.and_false, Bool.true_or, Bool.false_or, Bool.or_true, Bool.or_false, Bool.decide_eq_true, decide_eq_true_eq, decide_eq_false_iff_not, decide_not, Bool.not_eq_true', Nat.reduceLeDiff, Nat.reduceAdd, Bool.not_not, Option.toList, tcons, List.take_succ_cons, List.map_id_fun', id_eq, List.map_id', List.isEmpty_map, f1, f2, e14, c2, lo, hW]
    | true =>
      obtain ⟨j1, j2, j3⟩ := tij (lg hW)
      have f3 : ∀ cs, run prg 19 15 [.int (c : Int), TI A, .int (m : Int)] cs = .ok (TI (tms c A m)) cs := fun cs => by
        have := tmo 14 c A hA m (by omega) (by omega) cs
        rw [if_pos (show (tms c A m).length = A.length from j2)] at this
        exact this
      have f4 : ∀ cs, run prg 19 11 [.int (c : Int), TI (tms c A m), tupI F] cs = .ok (.bool true) cs := fun cs => by
        have := isf 14 c (tms c A m) F ⟨j1, hc, hc1⟩ hT cs
        rw [decide_eq_true (show Til c (tms c A m) F from j3)] at this
        exact this
      by_cases hm : (m : Int) > 0
      · simp -implicitDefEqProofs (disch := (first | assumption | omega | (simp -implicitDefEqProofs only [all_tt, wd_non, wd_bl, wd_int, wd_str, wd_lst, wd_tup, List.all_map, List.all_cons, List.all_nil, List.all_append, Bool.and_true, Bool.and_self, Function.comp_def, List.length_map, List.length_append, List.length_cons, List.length_nil, List.length_range, List.all_eq_true, implies_true, lay_int, lays_ints, lays_nil, lays_cons, List.length_zip, List.length_drop, List.length_take, List.length_range', List.length_reverse, wd_int]; done) | (simp -implicitDefEqProofs only [all_tt, wd_non, wd_bl, wd_int, wd_str, wd_lst, wd_tup, List.all_map, List.all_cons, List.all_nil, List.all_append, Bool.and_true, Bool.and_self, Function.comp_def, List.length_map, List.length_append, List.length_cons, List.length_nil, List.length_range, List.all_eq_true, implies_true, lay_int, lays_ints, lays_nil, lays_cons, List.length_zip, List.length_drop, List.length_take, List.length_range', List.length_reverse, wd_int]; omega))) only [bd_ok, bd_exc, bd_stuck, bd_ite, ret_ok, stk_st, fetch_0, fetch_s, fetchC_0, fetchC_s, tst_bl, eE_var, eE_nev, eE_int, eE_bl, eE_non, eE_str, eE_con, boxR_f, boxR_tw, boxR_e, boxR_ite, eE_disp, eE_tup, eE_bin, eE_neg, eE_not, eE_and, eE_or, eE_one, eE_cmp, eE_chn, eE_ife, eE_call, eE_blt, eE_isi, eE_ix, intPart_i, eE_sl, eE_comp, eE_comp2, comp2L_fl, flR_comp, setTgL_nm, quietL_ok, eE_lrg1, eE_lrg2, eE_rep, eE_lsc, eE_app, eE_pop, eE_popAt, eE_idx, eE_sset, eE_lset, eE_rev, eEs_nil, eEs_cons, eI_seq, eI_rng1, eI_rng2, eI_rng3, eI_zip, eI_enm, seqR_nx, seqR_rt, seqR_exc, seqR_ite, eSs_nil, eSs_cons, eSs_frz, eSs_clr, eS_never, eS_set, eS_setT, eS_par, eS_setI, eS_aug, eS_drop, eS_doc, eS_pass, eS_retN, eS_raise, eS_ret, eS_iff, eS_forS, eS_wh, quiet_ok, quiet_ite, compL_none, compL_some, mapR_comp, mapR_ok, mapR_nil, mapR_cons, fltR_nil, fltR_cons, fltR_comp, fltR_ok, endR_nx, endR_exc, endR_keep, endR_rt, endR_int, endR_bl, endR_non, endR_ite, take_app, List.take_length, f_lt, f_gt, f_le, f_ge, eqv_int, eqv_strs, f_eqi, f_nei, f_is, f_isn, f_isb, isNon_n, isNon_b, isNon_i, isNon_s, isNon_l, isNon_t, not_b, neg_i, add_i, sub_i, len_t, len_l, abs_i, int_i, int_b, tup_t, tup_l, lst_t, lst_l, str_s, sum_l, all_l, any_l, all_nil, lit_l, lit_t, zip_l, zip_t, enm_l, cut_t, cut_l, lstOf_l, mtR_l, isi_n, isi_b, isi_i, isi_s, isi_l, isi_t, eqv_lints, eqv_tints, forL_nil, h_hole, h_var, h_int, h_bl, h_non, h_str, h_con, h_tup, h_disp, h_bin, h_neg, h_not, h_and, h_or, h_one, h_cmp, h_chn, h_ife, h_call, h_blt, h_isi, h_ix, h_sl, wipe_nil, wipe_cons, setAll_nil, setAll_cons, bool_and, bool_or, fitI_i, fitI_n, fitI_b, fitI_s, fitI_l, fitI_t, isT_t, isT_n, isT_b, isT_i, isT_s, isT_l, zallR_t, eSs_zall, free_0, free_s, done_nx, drop_m, take_m, rev_m, app_m, rev_t, rev_l, getC_0, getC_s, getC_aj, getC_a, setC_aj, setC_a, app_c, appR_s, pop_c, popR_s, set_c, setR_s, aug_c, augR_s, aug_i, lst_c, mt_o, mtO_s, slot_0, slot_s, frz_o, frzO_c, frzR_s, ix_ti, ix_li, ix_tl, ix_ll, ix_t0, ix_t1, ix_t2, ix_l0, ix_l1, ix_l2, ix_c, ixO_s, cutL_map, cutL_f, cutL_t, cutL_ft, pairsL_map, enumL_map, rng1N, rng2N, tg1, tg2, tg3, tgO1, tgO2, tgO3, tgF1, tgF2, tgF3, tgT2, tgT3, endO_s, endR_c0, endR_cj, endR_u0, endR_uj, sum_g, sset_gl, sset_gt, lset_gl, lset_gt, max_gl, max_gt, min_gl, min_gt, max_2, min_2, eq_nilL, ne_nilL, eq_nilT, ne_nilT, eq_gl, ne_gl, eq_gt, ne_gt, rngVN, rng3D, in_gl, in_gt, nin_gl, nin_gt, in_pl, in_pt, nin_pl, nin_pt, max_pl, max_pt, min_pl, min_pt, eq_pl, ne_pl, eq_pt, ne_pt, eq_pgl, ne_pgl, eq_gpl, ne_gpl, eq_pgt, ne_pgt, eq_gpt, ne_gpt, isn_b, sset_l, sset_t, lset_l, lset_t, all_tt, any_ff, Int.natCast_nonneg, Int.cast_ofNat_Int, Bool.decide_eq_false, List.length_range', List.isEmpty_nil, List.isEmpty_cons, not_true_eq_false, not_false_eq_true, Bool.true_eq_false, eq_self, Int.reduceToNat, Int.reduceSub, Int.reduceAdd, Int.reduceNeg, Int.reduceLT, Int.reduceLE, Int.reduceMul, Nat.reduceSub, Nat.reduceMul, Int.reduceEq, Int.reduceNe, KH.TI, KH.LI, List.take_zero, List.take_nil, defI, and_true, true_and, and_false, false_and, and_self, List.set_cons_zero, List.set_cons_succ, List.length_cons, List.length_nil, List.length_map, List.length_append, List.length_range, List.cons_append, List.nil_append, List.append_assoc, Nat.zero_add, Int.toNat_natCast, reduceIte, Bool.not_true, Bool.not_false, Bool.false_eq_true, decide_true, decide_false, Bool.true_and, Bool.and_true, Bool.false_and, Bool.and_false, Bool.true_or, Bool.false_or, Bool.or_true, Bool.or_false, Bool.decide_eq_true, decide_eq_true_eq, decide_eq_false_iff_not, decide_not, Bool.not_eq_true', Nat.reduceLeDiff, Nat.reduceAdd, Bool.not_not, Option.toList, tcons, List.take_succ_cons, List.map_id_fun', id_eq, List.map_id', List.isEmpty_map, f1, f2, e14, c2, lo, hW, hm, f3, f4]
      · simp -implicitDefEqProofs (disch := (first | assumption | omega | (simp -implicitDefEqProofs only [all_tt, wd_non, wd_bl, wd_int, wd_str, wd_lst, wd_tup, List.all_map, List.all_cons, List.all_nil, List.all_append, Bool.and_true, Bool.and_self, Function.comp_def, List.length_map, List.length_append, List.length_cons, List.length_nil, List.length_range, List.all_eq_true, implies_true, lay_int, lays_ints, lays_nil, lays_cons, List.length_zip, List.length_drop, List.length_take, List.length_range', List.length_reverse, wd_int]; done) | (simp -implicitDefEqProofs only [all_tt, wd_non, wd_bl, wd_int, wd_str, wd_lst, wd_tup, List.all_map, List.all_cons, List.all_nil, List.all_append, Bool.and_true, Bool.and_self, Function.comp_def, List.length_map, List.length_append, List.length_cons, List.length_nil, List.length_range, List.all_eq_true, implies_true, lay_int, lays_ints, lays_nil, lays_cons, List.length_zip, List.length_drop, List.length_take, List.length_range', List.length_reverse, wd_int]; omega))) only [bd_ok, bd_exc, bd_stuck, bd_ite, ret_ok, stk_st, fetch_0, fetch_s, fetchC_0, fetchC_s, tst_bl, eE_var, eE_nev, eE_int, eE_bl, eE_non, eE_str, eE_con, boxR_f, boxR_tw, boxR_e, boxR_ite, eE_disp, eE_tup, eE_bin, eE_neg, eE_not, eE_and, eE_or, eE_one, eE_cmp, eE_chn, eE_ife, eE_call, eE_blt, eE_isi, eE_ix, intPart_i, eE_sl, eE_comp, eE_comp2, comp2L_fl, flR_comp, setTgL_nm, quietL_ok, eE_lrg1, eE_lrg2, eE_rep, eE_lsc, eE_app, eE_pop, eE_popAt, eE_idx, eE_sset, eE_lset, eE_rev, eEs_nil, eEs_cons, eI_seq, eI_rng1, eI_rng2, eI_rng3, eI_zip, eI_enm, seqR_nx, seqR_rt, seqR_exc, seqR_ite, eSs_nil, eSs_cons, eSs_frz, eSs_clr, eS_never, eS_set, eS_setT, eS_par, eS_setI, eS_aug, eS_drop, eS_doc, eS_pass, eS_retN, eS_raise, eS_ret, eS_iff, eS_forS, eS_wh, quiet_ok, quiet_ite, compL_none, compL_some, mapR_comp, mapR_ok, mapR_nil, mapR_cons, fltR_nil, fltR_cons, fltR_comp, fltR_ok, endR_nx, endR_exc, endR_keep, endR_rt, endR_int, endR_bl, endR_non, endR_ite, take_app, List.take_length, f_lt, f_gt, f_le, f_ge, eqv_int, eqv_strs, f_eqi, f_nei, f_is, f_isn, f_isb, isNon_n, isNon_b, isNon_i, isNon_s, isNon_l, isNon_t, not_b, neg_i, add_i, sub_i, len_t, len_l, abs_i, int_i, int_b, tup_t, tup_l, lst_t, lst_l, str_s, sum_l, all_l, any_l, all_nil, lit_l, lit_t, zip_l, zip_t, enm_l, cut_t, cut_l, lstOf_l, mtR_l, isi_n, isi_b, isi_i, isi_s, isi_l, isi_t, eqv_lints, eqv_tints, forL_nil, h_hole, h_var, h_int, h_bl, h_non, h_str, h_con, h_tup, h_disp, h_bin, h_neg, h_not, h_and, h_or, h_one, h_cmp, h_chn, h_ife, h_call, h_blt, h_isi, h_ix, h_sl, wipe_nil, wipe_cons, setAll_nil, setAll_cons, bool_and, bool_or, fitI_i, fitI_n, fitI_b, fitI_s, fitI_l, fitI_t, isT_t, isT_n, isT_b, isT_i, isT_s, isT_l, zallR_t, eSs_zall, free_0, free_s, done_nx, drop_m, take_m, rev_m, app_m, rev_t, rev_l, getC_0, getC_s, getC_aj, getC_a, setC_aj, setC_a, app_c, appR_s, pop_c, popR_s, set_c, setR_s, aug_c, augR_s, aug_i, lst_c, mt_o, mtO_s, slot_0, slot_s, frz_o, frzO_c, frzR_s, ix_ti, ix_li, ix_tl, ix_ll, ix_t0, ix_t1, ix_t2, ix_l0, ix_l1, ix_l2, ix_c, ixO_s, cutL_map, cutL_f, cutL_t, cutL_ft, pairsL_map, enumL_map, rng1N, rng2N, tg1, tg2, tg3, tgO1, tgO2, tgO3, tgF1, tgF2, tgF3, tgT2, tgT3, endO_s, endR_c0, endR_cj, endR_u0, endR_uj, sum_g, sset_gl, sset_gt, lset_gl, lset_gt, max_gl, max_gt, min_gl, min_gt, max_2, min_2, eq_nilL, ne_nilL, eq_nilT, ne_nilT, eq_gl, ne_gl, eq_gt, ne_gt, rngVN, rng3D, in_gl, in_gt, nin_gl, nin_gt, in_pl, in_pt, nin_pl, nin_pt, max_pl, max_pt, min_pl, min_pt, eq_pl, ne_pl, eq_pt, ne_pt, eq_pgl, ne_pgl, eq_gpl, ne_gpl, eq_pgt, ne_pgt, eq_gpt, ne_gpt, isn_b, sset_l, sset_t, lset_l, lset_t, all_tt, any_ff, Int.natCast_nonneg, Int.cast_ofNat_Int, Bool.decide_eq_false, List.length_range', List.isEmpty_nil, List.isEmpty_cons, not_true_eq_false, not_false_eq_true, Bool.true_eq_false, eq_self, Int.reduceToNat, Int.reduceSub, Int.reduceAdd, Int.reduceNeg, Int.reduceLT, Int.reduceLE, Int.reduceMul, Nat.reduceSub, Nat.reduceMul, Int.reduceEq, Int.reduceNe, KH.TI, KH.LI, List.take_zero, List.take_nil, defI, and_true, true_and, and_false, false_and, and_self, List.set_cons_zero, List.set_cons_succ, List.length_cons, List.length_nil, List.length_map, List.length_append, List.length_range, List.cons_append, List.nil_append, List.append_assoc, Nat.zero_add, Int.toNat_natCast, reduceIte, Bool.not_true, Bool.not_false, Bool.false_eq_true, decide_true, decide_false, Bool.true_and, Bool.and_true, Bool.false_and, Bool.and_false, Bool.true_or, Bool.false_or, Bool.or_true, Bool.or_false, Bool.decide_eq_true, decide_eq_true_eq, decide_eq_false_iff_not, decide_not, Bool.not_eq_true', Nat.reduceLeDiff, Nat.reduceAdd, Bool.not_not, Option.toList, tcons, List.take_succ_cons, List.map_id_fun', id_eq, List.map_id', List.isEmpty_map, f1, f2, e14, c2, lo, hW, hm]
  obtain ⟨a0, A', hA'⟩ := List.exists_cons_of_ne_nil hA.h.one
  have o1 := fun cs => ah_any 15 c hc hc1 .none false (fun k cs => fh_any k c .none (by simp) rfl cs) cs
  have o2 := fun cs => ah_any 15 c hc hc1 (.tuple []) false (fun k cs => fh_any k c (.tuple []) (by simp) rfl cs) cs
  have o3 := fun cs => ah_any 15 c hc hc1 (.tuple [.int (c : Int)]) false (fun k cs => fh_ints k c [(c : Int)] (by simp) (fun h => by have := h.1 (c : Int) List.mem_cons_self; omega) cs) cs
  have o4 := fun cs => ah_any 15 c hc hc1 (TI (A.reverse ++ A.take 1)) false (fun k cs => odd_rep c A.reverse (A.take 1) a0 (by rw [hA']; simp) (by rw [hA']; simp) (by rw [List.length_append, List.length_reverse, List.length_take]; omega) k cs) cs
  have o5 := fun cs => ah_any 15 c hc hc1 (.list (A.map .int)) false (fun k cs => fh_any k c (.list (A.map .int)) (by simp) rfl cs) cs
  have o6 := fun cs => ah_any 15 c hc hc1 (.tuple [.bool true, .bool true]) false (fun k cs => odd_tt c k cs) cs
  have o7 := fun cs => ah_any 15 c hc hc1 (.tuple [.int (-1)]) false (fun k cs => fh_ints k c [-1] (by simp) (fun h => by have := h.1 (-1) List.mem_cons_self; omega) cs) cs
  have o8 := fun cs => ah_any 15 c hc hc1 (TI (A ++ A)) false (fun k cs => odd_rep c A A a0 (by rw [hA']; simp) (by rw [hA']; simp) (by rw [List.length_append]; omega) k cs) cs
  have o9 := fun cs => ah_any 15 c hc hc1 (TI A) true (fun k cs => fh k c A hA cs) cs
  have tt2 : ∀ cs, Bop.mul.fn (.tuple [.bool true]) (.int 2) cs = .ok (.tuple [.bool true, .bool true]) cs := fun cs => rfl
  have ad1 : ∀ cs, Bop.add.fn (.tuple (A.reverse.map .int)) (.tuple ((A.take 1).map .int)) cs = .ok (TI (A.reverse ++ A.take 1)) cs := fun cs => by
    rw [add_t _ _ _ (by simp; omega)]
    simp
  have ad2 : ∀ cs, Bop.add.fn (TI A) (TI A) cs = .ok (TI (A ++ A)) cs := fun cs => by
    rw [add_t _ _ _ (by simp; omega)]
    simp
  have an : ∀ cs, Blt.any.fn [.list [.bool false, .bool false, .bool false, .bool false, .bool false, .bool false, .bool false, .bool false]] cs = .ok (.bool false) cs := fun cs => rfl
  refine ⟨s7, l ++ [none], ?_⟩
  unfold b28_f2
  simp -implicitDefEqProofs (maxSteps := 2000000) (disch := (first | assumption | omega | (simp -implicitDefEqProofs only [all_tt, wd_non, wd_bl, wd_int, wd_str, wd_lst, wd_tup, List.all_map, List.all_cons, List.all_nil, List.all_append, Bool.and_true, Bool.and_self, Function.comp_def, List.length_map, List.length_append, List.length_cons, List.length_nil, List.length_range, List.all_eq_true, implies_true, lay_int, lays_ints, lays_nil, lays_cons, List.length_zip, List.length_drop, List.length_take, List.length_range', List.length_reverse, wd_int]; done) | (simp -implicitDefEqProofs only [all_tt, wd_non, wd_bl, wd_int, wd_str, wd_lst, wd_tup, List.all_map, List.all_cons, List.all_nil, List.all_append, Bool.and_true, Bool.and_self, Function.comp_def, List.length_map, List.length_append, List.length_cons, List.length_nil, List.length_range, List.all_eq_true, implies_true, lay_int, lays_ints, lays_nil, lays_cons, List.length_zip, List.length_drop, List.length_take, List.length_range', List.length_reverse, wd_int]; omega))) only [bd_ok, bd_exc, bd_stuck, bd_ite, ret_ok, stk_st, fetch_0, fetch_s, fetchC_0, fetchC_s, tst_bl, eE_var, eE_nev, eE_int, eE_bl, eE_non, eE_str, eE_con, boxR_f, boxR_tw, boxR_e, boxR_ite, eE_disp, eE_tup, eE_bin, eE_neg, eE_not, eE_and, eE_or, eE_one, eE_cmp, eE_chn, eE_ife, eE_call, eE_blt, eE_isi, eE_ix, intPart_i, eE_sl, eE_comp, eE_comp2, comp2L_fl, flR_comp, setTgL_nm, quietL_ok, eE_lrg1, eE_lrg2, eE_rep, eE_lsc, eE_app, eE_pop, eE_popAt, eE_idx, eE_sset, eE_lset, eE_rev, eEs_nil, eEs_cons, eI_seq, eI_rng1, eI_rng2, eI_rng3, eI_zip, eI_enm, seqR_nx, seqR_rt, seqR_exc, seqR_ite, eSs_nil, eSs_cons, eSs_frz, eSs_clr, eS_never, eS_set, eS_setT, eS_par, eS_setI, eS_aug, eS_drop, eS_doc, eS_pass, eS_retN, eS_raise, eS_ret, eS_iff, eS_forS, eS_wh, quiet_ok, quiet_ite, compL_none, compL_some, mapR_comp, mapR_ok, mapR_nil, mapR_cons, fltR_nil, fltR_cons, fltR_comp, fltR_ok, endR_nx, endR_exc, endR_keep, endR_rt, endR_int, endR_bl, endR_non, endR_ite, take_app, List.take_length, f_lt, f_gt, f_le, f_ge, eqv_int, eqv_strs, f_eqi, f_nei, f_is, f_isn, f_isb, isNon_n, isNon_b, isNon_i, isNon_s, isNon_l, isNon_t, not_b, neg_i, add_i, sub_i, len_t, len_l, abs_i, int_i, int_b, tup_t, tup_l, lst_t, lst_l, str_s, sum_l, all_l, any_l, all_nil, lit_l, lit_t, zip_l, zip_t, enm_l, cut_t, cut_l, lstOf_l, mtR_l, isi_n, isi_b, isi_i, isi_s, isi_l, isi_t, eqv_lints, eqv_tints, forL_nil, h_hole, h_var, h_int, h_bl, h_non, h_str, h_con, h_tup, h_disp, h_bin, h_neg, h_not, h_and, h_or, h_one, h_cmp, h_chn, h_ife, h_call, h_blt, h_isi, h_ix, h_sl, wipe_nil, wipe_cons, setAll_nil, setAll_cons, bool_and, bool_or, fitI_i, fitI_n, fitI_b, fitI_s, fitI_l, fitI_t, isT_t, isT_n, isT_b, isT_i, isT_s, isT_l, zallR_t, eSs_zall, free_0, free_s, done_nx, drop_m, take_m, rev_m, app_m, rev_t, rev_l, getC_0, getC_s, getC_aj, getC_a, setC_aj, setC_a, app_c, appR_s, pop_c, popR_s, set_c, setR_s, aug_c, augR_s, aug_i, lst_c, mt_o, mtO_s, slot_0, slot_s, frz_o, frzO_c, frzR_s, ix_ti, ix_li, ix_tl, ix_ll, ix_t0, ix_t1, ix_t2, ix_l0, ix_l1, ix_l2, ix_c, ixO_s, cutL_map, cutL_f, cutL_t, cutL_ft, pairsL_map, enumL_map, rng1N, rng2N, tg1, tg2, tg3, tgO1, tgO2, tgO3, tgF1, tgF2, tgF3, tgT2, tgT3, endO_s, endR_c0, endR_cj, endR_u0, endR_uj, sum_g, sset_gl, sset_gt, lset_gl, lset_gt, max_gl, max_gt, min_gl, min_gt, max_2, min_2, eq_nilL, ne_nilL, eq_nilT, ne_nilT, eq_gl, ne_gl, eq_gt, ne_gt, rngVN, rng3D, in_gl, in_gt, nin_gl, nin_gt, in_pl, in_pt, nin_pl, nin_pt, max_pl, max_pt, min_pl, min_pt, eq_pl, ne_pl, eq_pt, ne_pt, eq_pgl, ne_pgl, eq_gpl, ne_gpl, eq_pgt, ne_pgt, eq_gpt, ne_gpt, isn_b, sset_l, sset_t, lset_l, lset_t, all_tt, any_ff, Int.natCast_nonneg, Int.cast_ofNat_Int, Bool.decide_eq_false, List.length_range', List.isEmpty_nil, List.isEmpty_cons, not_true_eq_false, not_false_eq_true, Bool.true_eq_false, eq_self, Int.reduceToNat, Int.reduceSub, Int.reduceAdd, Int.reduceNeg, Int.reduceLT, Int.reduceLE, Int.reduceMul, Nat.reduceSub, Nat.reduceMul, Int.reduceEq, Int.reduceNe, KH.TI, KH.LI, List.take_zero, List.take_nil, defI, and_true, true_and, and_false, false_and, and_self, List.set_cons_zero, List.set_cons_succ, List.length_cons, List.length_nil, List.length_map, List.length_append, List.length_range, List.cons_append, List.nil_append, List.append_assoc, Nat.zero_add, Int.toNat_natCast, reduceIte, Bool.not_true, Bool.not_false, Bool.false_eq_true, decide_true, decide_false, Bool.true_and, Bool.and_true, Bool.false_and, Bool.and_false, Bool.true_or, Bool.false_or, Bool.or_true, Bool.or_false, Bool.decide_eq_true, decide_eq_true_eq, decide_eq_false_iff_not, decide_not, Bool.not_eq_true', Nat.reduceLeDiff, Nat.reduceAdd, Bool.not_not, Option.toList, tcons, List.take_succ_cons, List.map_id_fun', id_eq, List.map_id', List.isEmpty_map, e1, e2, e3, e4, e5, e6, e7, e8, e9, e10, m1, e11, m2, e12, hu, e13, e14, e15, md, mm, sl, srt, m3, gre, L1, cc, gq, gm, e16, e17, m4, e18, hn, e19, ev, m5, L2, tt2, ad1, ad2, o1, o2, o3, o4, o5, o6, o7, o8, o9, an]
theorem law_ok : LawOk prg 20 lawIx := by
  intro ns hn
  obtain ⟨s, e0⟩ := cup_at h__law_cup (by decide) (by decide) (by decide) (by decide) 18 ns hn
  have e1 := rr [cup s]
  obtain ⟨s', l', e2⟩ := turnsL (tg := .nm 2) (body := evSs (run prg 19) prg.tab b28_f2) ((List.range 4).map fun (i : Nat) => .int (i : Int)) _ (fun d s l => turn (scrD ns) d s l) s []
  refine ⟨[], ?_⟩
  show run prg (19 + 1) 28 [scrD ns] [] = _
  rw [r_law]
  unfold b28
  simp -implicitDefEqProofs (disch := (first | assumption | omega | (simp -implicitDefEqProofs only [all_tt, wd_non, wd_bl, wd_int, wd_str, wd_lst, wd_tup, List.all_map, List.all_cons, List.all_nil, List.all_append, Bool.and_true, Bool.and_self, Function.comp_def, List.length_map, List.length_append, List.length_cons, List.length_nil, List.length_range, List.all_eq_true, implies_true, lay_int, lays_ints, lays_nil, lays_cons, List.length_zip, List.length_drop, List.length_take, List.length_range', List.length_reverse, wd_int]; done) | (simp -implicitDefEqProofs only [all_tt, wd_non, wd_bl, wd_int, wd_str, wd_lst, wd_tup, List.all_map, List.all_cons, List.all_nil, List.all_append, Bool.and_true, Bool.and_self, Function.comp_def, List.length_map, List.length_append, List.length_cons, List.length_nil, List.length_range, List.all_eq_true, implies_true, lay_int, lays_ints, lays_nil, lays_cons, List.length_zip, List.length_drop, List.length_take, List.length_range', List.length_reverse, wd_int]; omega))) only [bd_ok, bd_exc, bd_stuck, bd_ite, ret_ok, stk_st, fetch_0, fetch_s, fetchC_0, fetchC_s, tst_bl, eE_var, eE_nev, eE_int, eE_bl, eE_non, eE_str, eE_con, boxR_f, boxR_tw, boxR_e, boxR_ite, eE_disp, eE_tup, eE_bin, eE_neg, eE_not, eE_and, eE_or, eE_one, eE_cmp, eE_chn, eE_ife, eE_call, eE_blt, eE_isi, eE_ix, intPart_i, eE_sl, eE_comp, eE_comp2, comp2L_fl, flR_comp, setTgL_nm, quietL_ok, eE_lrg1, eE_lrg2, eE_rep, eE_lsc, eE_app, eE_pop, eE_popAt, eE_idx, eE_sset, eE_lset, eE_rev, eEs_nil, eEs_cons, eI_seq, eI_rng1, eI_rng2, eI_rng3, eI_zip, eI_enm, seqR_nx, seqR_rt, seqR_exc, seqR_ite, eSs_nil, eSs_cons, eSs_frz, eSs_clr, eS_never, eS_set, eS_setT, eS_par, eS_setI, eS_aug, eS_drop, eS_doc, eS_pass, eS_retN, eS_raise, eS_ret, eS_iff, eS_forS, eS_wh, quiet_ok, quiet_ite, compL_none, compL_some, mapR_comp, mapR_ok, mapR_nil, mapR_cons, fltR_nil, fltR_cons, fltR_comp, fltR_ok, endR_nx, endR_exc, endR_keep, endR_rt, endR_int, endR_bl, endR_non, endR_ite, take_app, List.take_length, f_lt, f_gt, f_le, f_ge, eqv_int, eqv_strs, f_eqi, f_nei, f_is, f_isn, f_isb, isNon_n, isNon_b, isNon_i, isNon_s, isNon_l, isNon_t, not_b, neg_i, add_i, sub_i, len_t, len_l, abs_i, int_i, int_b, tup_t, tup_l, lst_t, lst_l, str_s, sum_l, all_l, any_l, all_nil, lit_l, lit_t, zip_l, zip_t, enm_l, cut_t, cut_l, lstOf_l, mtR_l, isi_n, isi_b, isi_i, isi_s, isi_l, isi_t, eqv_lints, eqv_tints, forL_nil, h_hole, h_var, h_int, h_bl, h_non, h_str, h_con, h_tup, h_disp, h_bin, h_neg, h_not, h_and, h_or, h_one, h_cmp, h_chn, h_ife, h_call, h_blt, h_isi, h_ix, h_sl, wipe_nil, wipe_cons, setAll_nil, setAll_cons, bool_and, bool_or, fitI_i, fitI_n, fitI_b, fitI_s, fitI_l, fitI_t, isT_t, isT_n, isT_b, isT_i, isT_s, isT_l, zallR_t, eSs_zall, free_0, free_s, done_nx, drop_m, take_m, rev_m, app_m, rev_t, rev_l, getC_0, getC_s, getC_aj, getC_a, setC_aj, setC_a, app_c, appR_s, pop_c, popR_s, set_c, setR_s, aug_c, augR_s, aug_i, lst_c, mt_o, mtO_s, slot_0, slot_s, frz_o, frzO_c, frzR_s, ix_ti, ix_li, ix_tl, ix_ll, ix_t0, ix_t1, ix_t2, ix_l0, ix_l1, ix_l2, ix_c, ixO_s, cutL_map, cutL_f, cutL_t, cutL_ft, pairsL_map, enumL_map, rng1N, rng2N, tg1, tg2, tg3, tgO1, tgO2, tgO3, tgF1, tgF2, tgF3, tgT2, tgT3, endO_s, endR_c0, endR_cj, endR_u0, endR_uj, sum_g, sset_gl, sset_gt, lset_gl, lset_gt, max_gl, max_gt, min_gl, min_gt, max_2, min_2, eq_nilL, ne_nilL, eq_nilT, ne_nilT, eq_gl, ne_gl, eq_gt, ne_gt, rngVN, rng3D, in_gl, in_gt, nin_gl, nin_gt, in_pl, in_pt, nin_pl, nin_pt, max_pl, max_pt, min_pl, min_pt, eq_pl, ne_pl, eq_pt, ne_pt, eq_pgl, ne_pgl, eq_gpl, ne_gpl, eq_pgt, ne_pgt, eq_gpt, ne_gpt, isn_b, sset_l, sset_t, lset_l, lset_t, all_tt, any_ff, Int.natCast_nonneg, Int.cast_ofNat_Int, Bool.decide_eq_false, List.length_range', List.isEmpty_nil, List.isEmpty_cons, not_true_eq_false, not_false_eq_true, Bool.true_eq_false, eq_self, Int.reduceToNat, Int.reduceSub, Int.reduceAdd, Int.reduceNeg, Int.reduceLT, Int.reduceLE, Int.reduceMul, Nat.reduceSub, Nat.reduceMul, Int.reduceEq, Int.reduceNe, KH.TI, KH.LI, List.take_zero, List.take_nil, defI, and_true, true_and, and_false, false_and, and_self, List.set_cons_zero, List.set_cons_succ, List.length_cons, List.length_nil, List.length_map, List.length_append, List.length_range, List.cons_append, List.nil_append, List.append_assoc, Nat.zero_add, Int.toNat_natCast, reduceIte, Bool.not_true, Bool.not_false, Bool.false_eq_true, decide_true, decide_false, Bool.true_and, Bool.and_true, Bool.false_and, Bool.and_false, Bool.true_or, Bool.false_or, Bool.or_true, Bool.or_false, Bool.decide_eq_true, decide_eq_true_eq, decide_eq_false_iff_not, decide_not, Bool.not_eq_true', Nat.reduceLeDiff, Nat.reduceAdd, Bool.not_not, Option.toList, tcons, List.take_succ_cons, List.map_id_fun', id_eq, List.map_id', List.isEmpty_map, e0, e1, e2]
end KP

namespace KP
open PySem PySem.Spec PyProof.Rows L2 KH
abbrev RR : PySem.W.OpenRow := PySem.W.OpenLaw.row row
def fa : List He.Fa := prg.fa
def fn : List He.FnD := prg.fn sts
abbrev hk : PySem.W.Hook := He.hookE 4 fa fn
def ob (s : PySem.W.SharedT) : He.Al := He.obsG 4 fa fn (HandSHeadRun.getT s)
theorem ob_eq (s : PySem.W.SharedT) : ob s = hk.obs s.abs := He.obsG_eq (HandSHeadRun.getT_eq s)
theorem headRun (w : World) : HandSHeadRun.RunEq RR (PySem.W.view RR.prog [36]) hk ob 6000 names w := by
  intro os
  kernel_rfl
end KP
open PySem PySem.W PySem.Calls PyProof.Rows
theorem PySem.Challenge.cw_keysinhand_k81_whole_hits_that_fill_cycl_holds : PySem.Challenge.rw_keysinhand_k81_whole_hits_that_fill_cycl.Holds := by
  w_on; o_law
  refine HandSHeadRun.head_any (r := OpenLaw.row PySem.Challenge.rw_keysinhand_k81_whole_hits_that_fill_cycl) (q := view (OpenLaw.row PySem.Challenge.rw_keysinhand_k81_whole_hits_that_fill_cycl).prog [36]) (H := KP.hk) (ob := KP.ob) (M := 6000) (loose := KP.names) (d := HandSHeadRun.topDef (OpenLaw.row PySem.Challenge.rw_keysinhand_k81_whole_hits_that_fill_cycl).prog 36) (kwd := []) KP.ob_eq
    (by kernel_rfl) (fun s => by kernel_rfl) KP.headRun (by kernel_rfl) (by kernel_rfl) (by kernel_rfl) (by rfl) (by first | assumption | decide +kernel) (by decide +kernel) ⟨rfl, rfl, rfl, rfl, rfl, by decide +kernel⟩ ?hw ?hc
  case hw => w_witness2
  case hc =>
    exact KH.walk_law (l := PySem.Challenge.rw_keysinhand_k81_whole_hits_that_fill_cycl) (p := KP.prg) (sts := KP.sts) (f := KP.lawIx) (k := 19) (d := KP.d28) (st := KP.st28) rfl (by kernel_rfl) ⟨rfl, by decide, by decide⟩ (fun w h Y => Y) KP.defs_ok (by decide +kernel) rfl rfl rfl (by kernel_rfl) KP.law_ok

