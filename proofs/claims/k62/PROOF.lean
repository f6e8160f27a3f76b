import PyProof.Rows.All
import Wide.All
import OpenK.AllK
import Wide.FinOn
import HandS.Base
import HandS.Call
import HandS.List
import HandS.Comp
import HandS.Exc
import HandS.Words
import HandS.Lambda
import HandS.ForMost
import HandS.ForExc
import HandS.IsInst
import HandS.Wide
import HandS.Gcd
import HandS.FStr
import HandS.TryMany
import HandS.ExcOwn
import HandS.CallSlots
import HandS.Flow
import HandS.Style
import HandS.TupAny
import HandS.TupMul
import HandS.Ends
import KE.KTupSum
import KE.GoesEnum
import KE.KMathGC
import HandS.EndTab
import PySem.Challenge.RW_bandrims_k62_whole_euler_numbers
set_option Elab.async false
set_option linter.all false
set_option maxRecDepth 100000
set_option maxHeartbeats 4000000
noncomputable section
namespace VE
open PySem PySem.Spec PyProof.Rows L2


inductive CV where
  | non | bl (b : Bool) | int (i : Int) | str (x : Str)
  | tup (xs : List CV) | lst (xs : List CV) | frz (xs : List CV)
  | ref (l : Nat) | cls (k : Nat) | fn (k : Nat) | ty (n : String)
  deriving Inhabited

inductive CO where
  | lst (xs : List CV)
  | none_

abbrev Mem := List CO
abbrev Sl := List (Option CV)
structure Exn where
  cls : Nat
  args : List CV

inductive Out (α : Type) where
  | ok (a : α) (h : Mem) | exc (x : Exn) (h : Mem) | bad
abbrev M (α : Type) := Mem → Out α
def bnd {α β : Type} (m : M α) (k : α → M β) : M β := fun h => Out.rec (fun a h' => k a h') (fun x h' => .exc x h') .bad (m h)
def ret {α : Type} (a : α) : M α := fun h => .ok a h
def stuck {α : Type} : M α := fun _ => .bad

def frN {α : Type} (n : Nat) (k : Nat → α) : α := Nat.rec (k 0) (fun m _ => k (Nat.succ m)) n
def frI {α : Type} (i : Int) (k : Int → α) : α := Int.rec (fun n => frN n fun n => k (.ofNat n)) (fun n => frN n fun n => k (.negSucc n)) i
def frB {α : Type} (b : Bool) (k : Bool → α) : α := Bool.rec (k false) (k true) b
def frLs {α : Type} (f : CV → (CV → α) → α) (xs : List CV) : (List CV → α) → α := List.rec (fun k => k []) (fun x _ ih k => f x fun x => ih fun xs => k (x :: xs)) xs
def frV {α : Type} (n : Nat) : CV → (CV → α) → α := Nat.rec (fun x k => k x) (fun _ ih x k => match x with
  | .int i => frI i fun i => k (.int i)
  | .bl b => frB b fun b => k (.bl b)
  | .tup xs => frLs ih xs fun xs => k (.tup xs)
  | .lst xs => frLs ih xs fun xs => k (.lst xs)
  | x => k x) n
def sget {α : Type} (l : List α) : Nat → Option α := List.rec (fun _ => none) (fun a _ ih n => Nat.rec (some a) (fun m _ => ih m) n) l
def sset {α β : Type} (l : List α) : Nat → α → (List α → β) → β := List.rec (fun _ _ k => k []) (fun a t ih n v k => Nat.rec (k (v :: t)) (fun m _ => ih m v fun t' => k (a :: t')) n) l
def sapp {α β : Type} (l : List α) : List α → (List α → β) → β := List.rec (fun r k => k r) (fun a _ ih r k => ih r fun t => k (a :: t)) l
theorem frN_eq {α : Type} (n : Nat) (k : Nat → α) : frN n k = k n := by cases n <;> rfl
theorem frI_eq {α : Type} (i : Int) (k : Int → α) : frI i k = k i := by
  cases i with
  | ofNat n => exact frN_eq n fun n => k (.ofNat n)
  | negSucc n => exact frN_eq n fun n => k (.negSucc n)
theorem frB_eq {α : Type} (b : Bool) (k : Bool → α) : frB b k = k b := by cases b <;> rfl
theorem frLs_eq {α : Type} {f : CV → (CV → α) → α} (hf : ∀ x k, f x k = k x) : ∀ (xs : List CV) (k : List CV → α), frLs f xs k = k xs
  | [], _ => rfl
  | x :: xs, k => by
    show f x (fun x => frLs f xs fun xs => k (x :: xs)) = _
    rw [hf, frLs_eq hf xs]
theorem frV_eq {α : Type} : ∀ (n : Nat) (x : CV) (k : CV → α), frV n x k = k x
  | 0, _, _ => rfl
  | n + 1, x, k => by
    cases x with
    | int i => exact frI_eq i fun i => k (.int i)
    | bl b => exact frB_eq b fun b => k (.bl b)
    | tup xs => exact frLs_eq (frV_eq n) xs fun xs => k (.tup xs)
    | lst xs => exact frLs_eq (frV_eq n) xs fun xs => k (.lst xs)
    | _ => rfl
theorem sget_eq {α : Type} : ∀ (l : List α) (n : Nat), sget l n = l[n]?
  | [], _ => rfl
  | _ :: _, 0 => rfl
  | _ :: t, n + 1 => by
    show sget t n = _
    rw [sget_eq t n, List.getElem?_cons_succ]
theorem sset_eq {α β : Type} : ∀ (l : List α) (n : Nat) (v : α) (k : List α → β), sset l n v k = k (l.set n v)
  | [], _, _, _ => rfl
  | _ :: _, 0, _, _ => rfl
  | a :: t, n + 1, v, k => by
    show sset t n v (fun t' => k (a :: t')) = _
    rw [sset_eq t n v]; rfl
theorem sapp_eq {α β : Type} : ∀ (l r : List α) (k : List α → β), sapp l r k = k (l ++ r)
  | [], _, _ => rfl
  | a :: t, r, k => by
    show sapp t r (fun t' => k (a :: t')) = _
    rw [sapp_eq t r]; rfl
/-- a number's size -/
def big : Nat := 2 ^ 400000
structure Cfg where
  K : PySem.W.Frag
  cls : Nat → Addr
  fn : Nat → Addr
  fld : Nat → List Str
  T : List (Addr × Str)

/-- the addresses of the memory's objects; those that are hidden from it -/
structure Wd where
  d : List Addr
  r : List Addr
def Wd.has (ρ : Wd) (a : Addr) : Prop := a ∈ ρ.r ∨ a ∈ ρ.d
/-- a list that nobody writes: not in the memory, or of the text's own -/
def SqF (K : PySem.W.Frag) (ρ : Wd) (H : Hp) (a : Addr) (ys : List V) : Prop := (¬ ρ.has a ∧ Rd H a (.lst ys)) ∨ SqL K (fun _ => none) a ys
theorem SqF.l {K : PySem.W.Frag} {ρ : Wd} {H : Hp} {a : Addr} {ys : List V} (r : SqF K ρ H a ys) : SqL K H a ys := by
  rcases r with ⟨_, r⟩ | r | r
  · exact .inl r
  · rcases r with r | ⟨_, r⟩ <;> cases r
  · exact .inr r
mutual
def ValR (G : Cfg) (ρ : Wd) (H : Hp) : CV → V → Prop
  | .non, v => v = .non
  | .bl b, v => v = .bl b
  | .int i, v => v = .int i
  | .str x, v => v = .str x
  | .tup xs, v => ∃ a ys, v = .ref a ∧ SqT G.K H a ys ∧ ValsR G ρ H xs ys
  | .lst xs, v => ∃ a ys, v = .ref a ∧ ¬ ρ.has a ∧ H a = some (.lst ys) ∧ ValsR G ρ H xs ys
  | .frz xs, v => ∃ a ys, v = .ref a ∧ SqF G.K ρ H a ys ∧ ValsR G ρ H xs ys
  | .ref l, v => ∃ a, ρ.r[l]? = some a ∧ v = .ref a
  | .cls k, v => v = .ref (G.cls k)
  | .fn k, v => v = .ref (G.fn k)
  | .ty n, v => v = .ty n
def ValsR (G : Cfg) (ρ : Wd) (H : Hp) : List CV → List V → Prop
  | [], ys => ys = []
  | x :: xs, ys => ∃ y r, ys = y :: r ∧ ValR G ρ H x y ∧ ValsR G ρ H xs r
end

def ObjR (G : Cfg) (ρ : Wd) (H : Hp) : CO → Addr → Prop
  | .lst xs, a => ∃ ys, H a = some (.lst ys) ∧ ValsR G ρ H xs ys
  | .none_, _ => False

structure MemR (G : Cfg) (ρ : Wd) (h : Mem) (H : Hp) : Prop where
  len : ρ.r.length = h.length
  nd : ρ.r.Nodup
  obj : ∀ (i : Nat) (a : Addr) (co : CO), ρ.r[i]? = some a → h[i]? = some co → ObjR G ρ H co a
  hid : ∀ a ∈ ρ.d, (∃ ys, H a = some (.lst ys)) ∧ a ∉ ρ.r
  tab : LamX.Tabs G.T H

structure Ext (ρ : Wd) (H : Hp) (ρ' : Wd) (H' : Hp) : Prop where
  hid : ρ'.d = ρ.d
  pre : ∀ (i : Nat) (a : Addr), ρ.r[i]? = some a → ρ'.r[i]? = some a
  keep : ∀ a o, H a = some o → a ∉ ρ.r → (∀ ps, o ≠ .tbl ps) → H' a = some o
  tbl : ∀ a ps, H a = some (.tbl ps) → ∃ ps', H' a = some (.tbl ps')
  new : ∀ a, a ∈ ρ'.r → a ∈ ρ.r ∨ H a = none

/-- .. and more may be hidden -/
structure ExtH (ρ : Wd) (H : Hp) (ρ' : Wd) (H' : Hp) : Prop where
  hid : ∀ a ∈ ρ'.d, a ∈ ρ.d ∨ H a = none
  pre : ∀ (i : Nat) (a : Addr), ρ.r[i]? = some a → ρ'.r[i]? = some a
  keep : ∀ a o, H a = some o → a ∉ ρ.r → (∀ ps, o ≠ .tbl ps) → H' a = some o
  new : ∀ a, a ∈ ρ'.r → a ∈ ρ.r ∨ H a = none
section
variable {G : Cfg} {ρ ρ1 ρ2 : Wd} {h : Mem} {H H1 H2 : Hp}
theorem Ext.toH (a : Ext ρ H ρ1 H1) : ExtH ρ H ρ1 H1 := ⟨fun x e => .inl (a.hid ▸ e), a.pre, a.keep, a.new⟩
theorem Ext.refl : Ext ρ H ρ H := ⟨rfl, fun _ _ e => e, fun _ _ e _ _ => e, fun _ ps e => ⟨ps, e⟩, fun _ e => .inl e⟩
theorem Ext.there (a : Ext ρ H ρ1 H1) {x : Addr} {o : HO} (e : H x = some o) (n : x ∉ ρ.r) : H1 x ≠ none := fun z => by
  by_cases ht : ∃ ps, o = .tbl ps
  · obtain ⟨ps, rfl⟩ := ht
    obtain ⟨q, hq⟩ := a.tbl x ps e
    rw [hq] at z; cases z
  · rw [a.keep x o e n fun ps e => ht ⟨ps, e⟩] at z; cases z
theorem Ext.trans (a : Ext ρ H ρ1 H1) (b : Ext ρ1 H1 ρ2 H2) : Ext ρ H ρ2 H2 where
  hid := b.hid.trans a.hid
  pre := fun i x e => b.pre i x (a.pre i x e)
  keep := fun x o e n t => b.keep x o (a.keep x o e n t) (fun z => by
    rcases a.new x z with z | z
    · exact n z
    · rw [e] at z; cases z) t
  tbl := fun x ps e => by
    obtain ⟨q, hq⟩ := a.tbl x ps e
    exact b.tbl x q hq
  new := fun x e => by
    rcases b.new x e with z | z
    · exact a.new x z
    · by_cases hx : x ∈ ρ.r
      · exact .inl hx
      · cases q : H x with
        | none => exact .inr rfl
        | some o => exact absurd z (a.there q hx)
theorem ObjR.some {co : CO} {x : Addr} (r : ObjR G ρ H co x) : ∃ ys, H x = .some (.lst ys) := by
  cases co with
  | lst xs => obtain ⟨ys, e, _⟩ := r; exact ⟨ys, e⟩
  | none_ => exact r.elim
theorem MemR.at_ (m : MemR G ρ h H) {x : Addr} (hx : ρ.has x) : ∃ ys, H x = .some (.lst ys) := by
  rcases hx with hx | hx
  · obtain ⟨i, hi⟩ := List.getElem?_of_mem hx
    obtain ⟨hl, _⟩ := List.getElem?_eq_some_iff.mp hi
    have hl' : i < h.length := by rw [← m.len]; exact hl
    exact (m.obj i x h[i] hi (by simp [hl'])).some
  · exact (m.hid x hx).1
theorem MemR.notin (m : MemR G ρ h H) {x : Addr} {o : HO} (e : H x = .some o) (n : ∀ ys, o ≠ .lst ys) : ¬ ρ.has x := fun hx => by
  obtain ⟨ys, q⟩ := m.at_ hx
  rw [e] at q
  exact n ys (Option.some.inj q)
theorem MemR.free (m : MemR G ρ h H) {x : Addr} (e : H x = none) : ¬ ρ.has x := fun hx => by
  obtain ⟨ys, q⟩ := m.at_ hx
  rw [e] at q; cases q
theorem nr {x : Addr} (n : ¬ ρ.has x) : x ∉ ρ.r := fun z => n (.inl z)
/-- a thing that is read and never written stays -/
theorem ExtH.rd (a : ExtH ρ H ρ1 H1) {x : Addr} {u : HO} (r : Rd H x u) (n : x ∉ ρ.r) (t : ∀ ps, u ≠ .tbl ps) : Rd H1 x u := by
  rcases r with r | ⟨o, r⟩
  · exact .inl (a.keep x _ r n t)
  · exact .inr ⟨o, a.keep x _ r n fun ps e => by cases e⟩
theorem ExtH.notin (a : ExtH ρ H ρ1 H1) {x : Addr} {u : HO} (r : Rd H x u) (n : ¬ ρ.has x) : ¬ ρ1.has x := fun z => by
  rcases z with z | z
  · rcases a.new x z with z | z
    · exact n (.inl z)
    · rcases r with r | ⟨o, r⟩ <;> rw [r] at z <;> cases z
  · rcases a.hid x z with z | z
    · exact n (.inr z)
    · rcases r with r | ⟨o, r⟩ <;> rw [r] at z <;> cases z
theorem Ext.rd (a : Ext ρ H ρ1 H1) {x : Addr} {u : HO} (r : Rd H x u) (n : x ∉ ρ.r) (t : ∀ ps, u ≠ .tbl ps) : Rd H1 x u := a.toH.rd r n t
theorem Ext.notin (a : Ext ρ H ρ1 H1) {x : Addr} {u : HO} (r : Rd H x u) (n : ¬ ρ.has x) : ¬ ρ1.has x := a.toH.notin r n
theorem MemR.rdTup (m : MemR G ρ h H) {x : Addr} {ys : List V} (r : Rd H x (.tup ys)) : ¬ ρ.has x := by
  rcases r with r | ⟨o, r⟩
  · exact m.notin r fun _ e => by cases e
  · exact m.notin r fun _ e => by cases e
theorem ExtH.sqT (a : ExtH ρ H ρ1 H1) (m : MemR G ρ h H) {x : Addr} {ys : List V} (r : SqT G.K H x ys) : SqT G.K H1 x ys := by
  rcases r with r | r
  · exact .inl (a.rd r (nr (m.rdTup r)) fun _ e => by cases e)
  · exact .inr r
mutual
theorem ValR.extH (m : MemR G ρ h H) (a : ExtH ρ H ρ1 H1) : ∀ {x : CV} {v : V}, ValR G ρ H x v → ValR G ρ1 H1 x v
  | .non, _, r => r
  | .bl _, _, r => r
  | .int _, _, r => r
  | .str _, _, r => r
  | .cls _, _, r => r
  | .fn _, _, r => r
  | .ty _, _, r => r
  | .ref l, _, ⟨x, e, q⟩ => ⟨x, a.pre l x e, q⟩
  | .tup xs, _, ⟨x, ys, e, s, r⟩ => ⟨x, ys, e, a.sqT m s, ValsR.extH m a r⟩
  | .lst xs, _, ⟨x, ys, e, n, s, r⟩ => ⟨x, ys, e, a.notin (.inl s) n, a.keep x _ s (nr n) (fun _ e => nomatch e), ValsR.extH m a r⟩
  | .frz xs, _, ⟨x, ys, e, s, r⟩ => by
    refine ⟨x, ys, e, ?_, ValsR.extH m a r⟩
    rcases s with ⟨n, s⟩ | s
    · exact .inl ⟨a.notin s n, a.rd s (nr n) fun _ e => by cases e⟩
    · exact .inr s
theorem ValsR.extH (m : MemR G ρ h H) (a : ExtH ρ H ρ1 H1) : ∀ {xs : List CV} {vs : List V}, ValsR G ρ H xs vs → ValsR G ρ1 H1 xs vs
  | [], _, r => r
  | x :: xs, _, ⟨y, r, e, q, s⟩ => ⟨y, r, e, ValR.extH m a q, ValsR.extH m a s⟩
end
theorem ValR.ext (m : MemR G ρ h H) (a : Ext ρ H ρ1 H1) {x : CV} {v : V} (r : ValR G ρ H x v) : ValR G ρ1 H1 x v := r.extH m a.toH
theorem ValsR.ext (m : MemR G ρ h H) (a : Ext ρ H ρ1 H1) {x : List CV} {v : List V} (r : ValsR G ρ H x v) : ValsR G ρ1 H1 x v := r.extH m a.toH
theorem Ext.sqT (a : Ext ρ H ρ1 H1) (m : MemR G ρ h H) {x : Addr} {ys : List V} (r : SqT G.K H x ys) : SqT G.K H1 x ys := a.toH.sqT m r
end

def ExcR (G : Cfg) (ρ : Wd) (H : Hp) (x : Exn) (c : Value) (d : Option Addr) : Prop :=
  c = .ref (G.cls x.cls) ∧ (x.args = [] ∨ ∃ da fs, d = some da ∧ H da = some (.xd fs) ∧ fs.map (·.1) = G.fld x.cls ∧ ValsR G ρ H x.args (fs.map (·.2)))
def SlR (G : Cfg) (ρ : Wd) (H : Hp) (τ : Sl) (σ : L2.St) : Prop :=
  τ.length = σ.length ∧ ∀ (i : Nat) (v : CV), τ[i]? = some (some v) → ∃ u, σ[i]? = some (some u) ∧ ValR G ρ H v u
section
variable {G : Cfg} {ρ ρ1 ρ2 : Wd} {h : Mem} {H H1 H2 : Hp} {τ : Sl} {σ : L2.St}
theorem SlR.ext (m : MemR G ρ h H) (a : Ext ρ H ρ1 H1) (r : SlR G ρ H τ σ) : SlR G ρ1 H1 τ σ :=
  ⟨r.1, fun i v e => let ⟨u, q, z⟩ := r.2 i v e; ⟨u, q, z.ext m a⟩⟩
theorem SlR.set (r : SlR G ρ H τ σ) (i : Nat) {x : CV} {v : V} (q : ValR G ρ H x v) : SlR G ρ H (τ.set i (some x)) (σ.set i (some v)) := by
  refine ⟨by simpa using r.1, fun j y e => ?_⟩
  by_cases hj : i = j
  · subst hj
    by_cases hl : i < τ.length
    · rw [List.getElem?_set_self hl] at e
      cases e
      exact ⟨v, by rw [List.getElem?_set_self (by rw [← r.1]; exact hl)], q⟩
    · rw [List.getElem?_eq_none (by simpa using hl)] at e; cases e
  · rw [List.getElem?_set_ne hj] at e
    obtain ⟨u, a, b⟩ := r.2 j y e
    exact ⟨u, by rw [List.getElem?_set_ne hj]; exact a, b⟩
theorem SlR.unset (r : SlR G ρ H τ σ) (i : Nat) : SlR G ρ H (τ.set i none) (σ.set i none) := by
  refine ⟨by simpa using r.1, fun j y e => ?_⟩
  by_cases hj : i = j
  · subst hj
    by_cases hl : i < τ.length
    · rw [List.getElem?_set_self hl] at e; cases e
    · rw [List.getElem?_eq_none (by simpa using hl)] at e; cases e
  · rw [List.getElem?_set_ne hj] at e
    obtain ⟨u, a, b⟩ := r.2 j y e
    exact ⟨u, by rw [List.getElem?_set_ne hj]; exact a, b⟩
end

section
variable (G : Cfg) (W : WX)
def Post {α β : Type} (R : Wd → Hp → α → β → Prop) (σ : L2.St) (ρ : Wd) (H : Hp) (o : Out α) (Q : β → Hp → Prop) : Prop :=
  match o with
  | .ok a h' => ∀ ρ' H' b, MemR G ρ' h' H' → Ext ρ H ρ' H' → R ρ' H' a b → Q b H'
  | .exc x h' => ∀ ρ' H' c d, MemR G ρ' h' H' → Ext ρ H ρ' H' → ExcR G ρ' H' x c d → W c d σ H'
  | .bad => False
def tM {α β : Type} (R : Wd → Hp → α → β → Prop) (m : Sl → M α) : L2.St → Hp → (β → Hp → Prop) → Prop :=
  fun σ H Q => ∃ ρ h τ, MemR G ρ h H ∧ SlR G ρ H τ σ ∧ Post G W R σ ρ H (m τ h) Q
abbrev tV (m : Sl → M CV) : TE := tM G W (ValR G) m
abbrev tBo (m : Sl → M Bool) : TT := tM G W (fun _ _ (a b : Bool) => a = b) m
abbrev tL (m : Sl → M (List CV)) : TA := tM G W (ValsR G) m
abbrev SE (X : Cx) (e : Expr) (m : Sl → M CV) : Prop := PE X e (tV G W m)
abbrev ST (X : Cx) (e : Expr) (m : Sl → M Bool) : Prop := PT X e (tBo G W m)
abbrev SW (X : Cx) (e : Expr) (m : Sl → M Bool) : Prop := PW X e (tBo G W m)
abbrev SA (X : Cx) (es : List Expr) (m : Sl → M (List CV)) : Prop := PA X es (tL G W m)
end
structure Bx (G : Cfg) (W : WX) (X : Cx) : Prop where
  k : G.K = X.K
  tk : Takes X W

section
variable {G : Cfg} {W : WX} {ρ ρ1 : Wd} {h : Mem} {H H1 : Hp} {τ : Sl} {σ : L2.St} {α β γ δ : Type} {R : Wd → Hp → α → β → Prop} {S : Wd → Hp → γ → δ → Prop}
theorem Post.ext {o : Out α} {Q : β → Hp → Prop} (p : Post G W R σ ρ H o Q) (a : Ext ρ H ρ1 H1) : Post G W R σ ρ1 H1 o Q := by
  cases o with
  | ok x h' => exact fun ρ' H' b m e r => p ρ' H' b m (a.trans e) r
  | exc x h' => exact fun ρ' H' c d m e r => p ρ' H' c d m (a.trans e) r
  | bad => exact p
/-- the first of two -/
theorem tM_bind {ma : Sl → M α} {k : α → M γ} {Q : δ → Hp → Prop} {C : β → Hp → Prop} (m : MemR G ρ h H) (s : SlR G ρ H τ σ) (p : Post G W S σ ρ H (bnd (ma τ) k h) Q)
    (hC : ∀ a h1 ρ1 H1 b, MemR G ρ1 h1 H1 → Ext ρ H ρ1 H1 → SlR G ρ1 H1 τ σ → R ρ1 H1 a b → Post G W S σ ρ1 H1 (k a h1) Q → C b H1) : tM G W R ma σ H C := by
  refine ⟨ρ, h, τ, m, s, ?_⟩
  unfold bnd at p
  cases e : ma τ h with
  | ok a h1 =>
    rw [e] at p
    exact fun ρ1 H1 b m1 e1 r => hC a h1 ρ1 H1 b m1 e1 (s.ext m e1) r (Post.ext (G := G) (W := W) p e1)
  | exc x h1 => rw [e] at p; exact p
  | bad => rw [e] at p; exact p
theorem Post.fin {a : α} {b : β} {Q : β → Hp → Prop} (m : MemR G ρ h H) (p : Post G W R σ ρ H (ret a h) Q) (r : R ρ H a b) : Q b H := p ρ H b m Ext.refl r
end
theorem _root_.L2.PE.wk {X : Cx} {e : Expr} {t t' : TE} (h : PE X e t) (w : ∀ σ H Q, t' σ H Q → t σ H Q) : PE X e t' := ⟨fun pins s σ H Q I q => h.run pins s σ H Q I (w σ H Q q)⟩
theorem _root_.L2.PT.wk {X : Cx} {e : Expr} {t t' : TT} (h : PT X e t) (w : ∀ σ H Q, t' σ H Q → t σ H Q) : PT X e t' := ⟨fun pins s σ H Q I q => h.run pins s σ H Q I (w σ H Q q)⟩
theorem _root_.L2.PW.wk {X : Cx} {e : Expr} {t t' : TT} (h : PW X e t) (w : ∀ σ H Q, t' σ H Q → t σ H Q) : PW X e t' := ⟨fun wh pins s σ H Q I q => h.run wh pins s σ H Q I (w σ H Q q)⟩
theorem _root_.L2.PA.wk {X : Cx} {es : List Expr} {t t' : TA} (h : PA X es t) (w : ∀ σ H Q, t' σ H Q → t σ H Q) : PA X es t' := ⟨fun p pins s σ H Q I q => h.run p pins s σ H Q I (w σ H Q q)⟩
theorem _root_.L2.PS.wk {X : Cx} {e : Stmt} {t t' : TS} (h : PS X e t) (w : ∀ D σ H, t' D σ H → t D σ H) : PS X e t' := ⟨fun pins s σ H D I q => h.run pins s σ H D I (w D σ H q)⟩
theorem _root_.L2.PSs.wk {X : Cx} {e : List Stmt} {t t' : TS} (h : PSs X e t) (w : ∀ D σ H, t' D σ H → t D σ H) : PSs X e t' := ⟨fun pins s σ H D I q => h.run pins s σ H D I (w D σ H q)⟩

def eVar (i : Nat) : Sl → M CV := fun τ h => Option.rec .bad (fun o => Option.rec .bad (fun v => .ok v h) o) (sget τ i)
def eC (v : CV) : Sl → M CV := fun _ => ret v
def eOp (g : CV → CV → M CV) (a b : Sl → M CV) : Sl → M CV := fun τ => bnd (a τ) fun x => bnd (b τ) fun y => g x y
def eUn (g : CV → M CV) (a : Sl → M CV) : Sl → M CV := fun τ => bnd (a τ) g
def eNilA : Sl → M (List CV) := fun _ => ret []
def eConsA (a : Sl → M CV) (r : Sl → M (List CV)) : Sl → M (List CV) := fun τ => bnd (a τ) fun x => bnd (r τ) fun xs => ret (x :: xs)
def eApp (g : List CV → M CV) (a : Sl → M (List CV)) : Sl → M CV := fun τ => bnd (a τ) g
/-- a two-place rule, by plain values -/
def Op2 (G : Cfg) (r : R2) (g : CV → CV → M CV) : Prop :=
  ∀ (W : WX) (σ : L2.St) (ρ : Wd) (h : Mem) (H : Hp) (x y : CV) (u v : V) (Q : VK), MemR G ρ h H → ValR G ρ H x u → ValR G ρ H y v → Post G W (ValR G) σ ρ H (g x y h) Q → r u v H Q
def Op1 (G : Cfg) (r : V → Hp → VK → Prop) (g : CV → M CV) : Prop :=
  ∀ (W : WX) (σ : L2.St) (ρ : Wd) (h : Mem) (H : Hp) (x : CV) (u : V) (Q : VK), MemR G ρ h H → ValR G ρ H x u → Post G W (ValR G) σ ρ H (g x h) Q → r u H Q
def OpL (G : Cfg) (r : List V → Hp → VK → Prop) (g : List CV → M CV) : Prop :=
  ∀ (W : WX) (σ : L2.St) (ρ : Wd) (h : Mem) (H : Hp) (xs : List CV) (us : List V) (Q : VK), MemR G ρ h H → ValsR G ρ H xs us → Post G W (ValR G) σ ρ H (g xs h) Q → r us H Q

section
variable {G : Cfg} {W : WX} {X : Cx} {pos : Pos}
theorem se_var (i : Nat) {x : Str} (hN : X.N[i]? = some x := by rfl) (hv : Vis X.env.scope x := by first | exact Or.inl rfl | exact Or.inr (Or.inl rfl) | exact Or.inr (Or.inr rfl)) (hd : (x == ("__debug__" : Str)) = false := by decide)
    (hcd : (x == ("__classdict__" : Str)) = false := by decide) : SE G W X (.Name x pos) (eVar i) :=
  (pe_var hN hv hd hcd).wk fun σ H Q ⟨ρ, h, τ, m, s, p⟩ => by
    unfold eVar at p
    rw [sget_eq] at p
    cases e : τ[i]? with
    | none => rw [e] at p; exact p.elim
    | some o =>
      rw [e] at p
      cases o with
      | none => exact p.elim
      | some v =>
        obtain ⟨u, q, r⟩ := s.2 i v e
        exact ⟨u, q, p ρ H u m Ext.refl r⟩
theorem se_const {e : Expr} {v : V} {x : CV} (he : PE X e (tC v)) (r : ∀ ρ H, ValR G ρ H x v) : SE G W X e (eC x) :=
  he.wk fun σ H Q ⟨ρ, h, τ, m, s, p⟩ => p ρ H v m Ext.refl (r ρ H)
theorem se_int {i : Int} {j pos} : SE G W X (.Constant (.int i) j pos) (eC (.int i)) := se_const pe_int fun _ _ => rfl
theorem se_bl {b : Bool} {j pos} : SE G W X (.Constant (.bool b) j pos) (eC (.bl b)) := se_const pe_bl fun _ _ => rfl
theorem se_non {j pos} : SE G W X (.Constant .none j pos) (eC .non) := se_const pe_non fun _ _ => rfl
theorem se_str {x : Str} {j pos} : SE G W X (.Constant (.str x) j pos) (eC (.str x)) := se_const pe_str fun _ _ => rfl
variable {a b c : Expr} {ma mb mc : Sl → M CV} {es : List Expr} {ml : Sl → M (List CV)}
theorem se_op {op : Operator} {r : R2} {g : CV → CV → M CV} (ho : OpR X (binaryOp op) r) (hg : Op2 G r g) (ha : SE G W X a ma) (hb : SE G W X b mb) : SE G W X (.BinOp a op b pos) (eOp g ma mb) :=
  (pe_op ho ha hb).wk fun σ H Q ⟨ρ, h, τ, m, s, p⟩ => tM_bind m s p fun x h1 ρ1 H1 u m1 e1 s1 r1 p1 => tM_bind m1 s1 p1 fun y h2 ρ2 H2 v m2 e2 s2 r2 p2 => hg W σ ρ2 h2 H2 x y u v Q m2 (r1.ext m1 e2) r2 p2
theorem se_un {op : UnaryOp} {r : V → Hp → VK → Prop} {g : CV → M CV} (ho : UnR X (unaryOp op) r) (hg : Op1 G r g) (ha : SE G W X a ma) : SE G W X (.UnaryOp op a pos) (eUn g ma) :=
  (pe_un ho ha).wk fun σ H Q ⟨ρ, h, τ, m, s, p⟩ => tM_bind m s p fun x h1 ρ1 H1 u m1 e1 s1 r1 p1 => hg W σ ρ1 h1 H1 x u Q m1 r1 p1
theorem se_cmp {op : CmpOp} {r : R2} {g : CV → CV → M CV} (ho : OpR X (compareOp op) r) (hg : Op2 G r g) (ha : SE G W X a ma) (hb : SE G W X b mb) (hm : behindInMarks op b = false := by first | exact nomark _ | rfl) : SE G W X (.Compare a [op] [b] pos) (eOp g ma mb) :=
  (pe_cmpR ho ha hb hm).wk fun σ H Q ⟨ρ, h, τ, m, s, p⟩ => tM_bind m s p fun x h1 ρ1 H1 u m1 e1 s1 r1 p1 => tM_bind m1 s1 p1 fun y h2 ρ2 H2 v m2 e2 s2 r2 p2 => hg W σ ρ2 h2 H2 x y u v Q m2 (r1.ext m1 e2) r2 p2
theorem sa_nil : SA G W X [] eNilA := pa_nil.wk fun σ H Q ⟨ρ, h, τ, m, s, p⟩ => p ρ H [] m Ext.refl rfl
theorem sa_cons (ha : SE G W X a ma) (hr : SA G W X es ml) (hs : starEach (a :: es) X.env = (false, eval a X.env) :: starEach es X.env := by rfl) : SA G W X (a :: es) (eConsA ma ml) :=
  (pa_cons ha hr hs).wk fun σ H Q ⟨ρ, h, τ, m, s, p⟩ => tM_bind m s p fun x h1 ρ1 H1 u m1 e1 s1 r1 p1 => tM_bind m1 s1 p1 fun y h2 ρ2 H2 v m2 e2 s2 r2 p2 => p2 ρ2 H2 (u :: v) m2 Ext.refl ⟨u, v, rfl, r1.ext m1 e2, r2⟩
end
end VE

noncomputable section
namespace VE
open PySem PySem.Spec PyProof.Rows L2

inductive Fl where
  | nx (τ : Sl) | rt (v : CV) | bk (τ : Sl) | ct (τ : Sl) | ex (x : Exn) (τ : Sl)
inductive OS where
  | mk (f : Fl) (h : Mem) | bad
abbrev MS := Sl → Mem → OS
/-- an expression within a statement -/
def inS {α : Type} (m : M α) (τ : Sl) (k : α → Mem → OS) : Mem → OS := fun h => Out.rec (fun a h' => k a h') (fun x h' => .mk (.ex x τ) h') .bad (m h)
section
variable (G : Cfg) (W : WX)
def PostS (ρ : Wd) (H : Hp) (o : OS) (D : Ends) : Prop :=
  match o with
  | .mk (.nx τ) h' => ∀ ρ' H' σ', MemR G ρ' h' H' → Ext ρ H ρ' H' → SlR G ρ' H' τ σ' → D.nx σ' H'
  | .mk (.bk τ) h' => ∀ ρ' H' σ', MemR G ρ' h' H' → Ext ρ H ρ' H' → SlR G ρ' H' τ σ' → D.bk σ' H'
  | .mk (.ct τ) h' => ∀ ρ' H' σ', MemR G ρ' h' H' → Ext ρ H ρ' H' → SlR G ρ' H' τ σ' → D.ct σ' H'
  | .mk (.rt v) h' => ∀ ρ' H' u, MemR G ρ' h' H' → Ext ρ H ρ' H' → ValR G ρ' H' v u → D.rt u H'
  | .mk (.ex x τ) h' => ∀ ρ' H' c d σ', MemR G ρ' h' H' → Ext ρ H ρ' H' → SlR G ρ' H' τ σ' → ExcR G ρ' H' x c d → W c d σ' H'
  | .bad => False
def tS (m : MS) : TS := fun D σ H => ∃ ρ h τ, MemR G ρ h H ∧ SlR G ρ H τ σ ∧ PostS G W ρ H (m τ h) D
abbrev SS (X : Cx) (st : Stmt) (m : MS) : Prop := PS X st (tS G W m)
abbrev SSs (X : Cx) (st : List Stmt) (m : MS) : Prop := PSs X st (tS G W m)
def tGt (g : CV → Sl → M Sl) : TG := fun v σ H Q => ∃ ρ h τ x, MemR G ρ h H ∧ SlR G ρ H τ σ ∧ ValR G ρ H x v ∧ match g x τ h with
  | .ok τ' h' => ∀ ρ' H' σ', MemR G ρ' h' H' → Ext ρ H ρ' H' → SlR G ρ' H' τ' σ' → Q σ' H'
  | _ => False
def tGts (g : List CV → Sl → M Sl) : TGs := fun vs σ H Q => ∃ ρ h τ xs, MemR G ρ h H ∧ SlR G ρ H τ σ ∧ ValsR G ρ H xs vs ∧ match g xs τ h with
  | .ok τ' h' => ∀ ρ' H' σ', MemR G ρ' h' H' → Ext ρ H ρ' H' → SlR G ρ' H' τ' σ' → Q σ' H'
  | _ => False
abbrev SG (X : Cx) (tg : Expr) (g : CV → Sl → M Sl) : Prop := PG X tg (tGt G g)
abbrev SGs (X : Cx) (tg : List Expr) (g : List CV → Sl → M Sl) : Prop := PGs X tg (tGts G g)
end
theorem _root_.L2.PG.wk {X : Cx} {e : Expr} {t t' : TG} (h : PG X e t) (w : ∀ v σ H Q, t' v σ H Q → t v σ H Q) : PG X e t' := ⟨fun pins s σ H v u Q I r q => h.run pins s σ H v u Q I r (w v σ H Q q)⟩
theorem _root_.L2.PGs.wk {X : Cx} {e : List Expr} {t t' : TGs} (h : PGs X e t) (w : ∀ v σ H Q, t' v σ H Q → t v σ H Q) : PGs X e t' := ⟨fun pins s σ H v u Q I r q => h.run pins s σ H v u Q I r (w v σ H Q q)⟩
theorem _root_.L2.PI.wk {X : Cx} {tg e : Expr} {t t' : TI} (h : PI X tg e t) (w : ∀ σ H R, t' σ H R → t σ H R) : PI X tg e t' := ⟨fun pins s σ H R I q => h.run pins s σ H R I (w σ H R q)⟩

section
variable {G : Cfg} {W : WX} {ρ ρ1 : Wd} {h : Mem} {H H1 : Hp} {τ : Sl} {σ : L2.St} {α β : Type} {R : Wd → Hp → α → β → Prop} {D : Ends}
theorem PostS.ext {o : OS} (p : PostS G W ρ H o D) (a : Ext ρ H ρ1 H1) : PostS G W ρ1 H1 o D := by
  cases o with
  | mk f h' =>
    cases f with
    | nx τ => exact fun ρ' H' σ' m e r => p ρ' H' σ' m (a.trans e) r
    | bk τ => exact fun ρ' H' σ' m e r => p ρ' H' σ' m (a.trans e) r
    | ct τ => exact fun ρ' H' σ' m e r => p ρ' H' σ' m (a.trans e) r
    | rt v => exact fun ρ' H' σ' m e r => p ρ' H' σ' m (a.trans e) r
    | ex x τ => exact fun ρ' H' c d σ' m e r z => p ρ' H' c d σ' m (a.trans e) r z
  | bad => exact p
theorem tM_inS {ma : Sl → M α} {k : α → Mem → OS} {C : β → Hp → Prop} (m : MemR G ρ h H) (s : SlR G ρ H τ σ) (p : PostS G W ρ H (inS (ma τ) τ k h) D)
    (hC : ∀ a h1 ρ1 H1 b, MemR G ρ1 h1 H1 → Ext ρ H ρ1 H1 → SlR G ρ1 H1 τ σ → R ρ1 H1 a b → PostS G W ρ1 H1 (k a h1) D → C b H1) : tM G W R ma σ H C := by
  refine ⟨ρ, h, τ, m, s, ?_⟩
  unfold inS at p
  cases e : ma τ h with
  | ok a h1 =>
    rw [e] at p
    exact fun ρ1 H1 b m1 e1 r => hC a h1 ρ1 H1 b m1 e1 (s.ext m e1) r (PostS.ext (G := G) (W := W) p e1)
  | exc x h1 =>
    rw [e] at p
    exact fun ρ1 H1 c d m1 e1 r => p ρ1 H1 c d σ m1 e1 (s.ext m e1) r
  | bad => rw [e] at p; exact p
theorem PostS.nx' (m : MemR G ρ h H) (s : SlR G ρ H τ σ) (p : PostS G W ρ H (.mk (.nx τ) h) D) : D.nx σ H := p ρ H σ m Ext.refl s
end

def mNil : MS := fun τ h => .mk (.nx τ) h
def mSeq (a b : MS) : MS := fun τ h => OS.rec (fun f h' => Fl.rec (fun τ' => b τ' h') (fun v => .mk (.rt v) h') (fun τ' => .mk (.bk τ') h') (fun τ' => .mk (.ct τ') h') (fun x τ' => .mk (.ex x τ') h') f) .bad (a τ h)
def mAsg (g : CV → Sl → M Sl) (e : Sl → M CV) : MS := fun τ => inS (e τ) τ fun x h => Out.rec (fun τ' h' => .mk (.nx τ') h') (fun _ _ => .bad) .bad (g x τ h)
def gSet (i : Nat) : CV → Sl → M Sl := fun x τ h => frV 3 x fun x => sset τ i (some x) fun τ => .ok τ h
theorem gSet_eq {i : Nat} {x : CV} {τ : Sl} {h : Mem} : gSet i x τ h = .ok (τ.set i (some x)) h := by
  unfold gSet
  rw [frV_eq, sset_eq]
def gNilT : List CV → Sl → M Sl := fun xs τ => match xs with
  | [] => ret τ
  | _ => stuck
def gConsT (g : CV → Sl → M Sl) (r : List CV → Sl → M Sl) : List CV → Sl → M Sl := fun xs τ => match xs with
  | x :: xs => bnd (g x τ) (r xs)
  | _ => stuck
def gUnp (n : Nat) (g : List CV → Sl → M Sl) : CV → Sl → M Sl := fun x τ => match x with
  | .tup xs => if xs.length = n then g xs τ else stuck
  | _ => stuck
def mIf (c : Sl → M Bool) (a b : MS) : MS := fun τ => inS (c τ) τ fun k h => Bool.rec (b τ h) (a τ h) k
def mRet (e : Sl → M CV) : MS := fun τ => inS (e τ) τ fun x h => .mk (.rt x) h
def mRetN : MS := fun τ h => .mk (.rt .non) h
def mExpr (e : Sl → M CV) : MS := fun τ => inS (e τ) τ fun _ h => .mk (.nx τ) h
def mBreak : MS := fun τ h => .mk (.bk τ) h
def mCont : MS := fun τ h => .mk (.ct τ) h
def mAug (i : Nat) (g : CV → CV → M CV) (e : Sl → M CV) : MS := fun τ h => Option.rec .bad (fun o => Option.rec .bad (fun x =>
    inS (e τ) τ (fun y h1 => Out.rec (fun z h2 => frV 3 z fun z => sset τ i (some z) fun τ => .mk (.nx τ) h2) (fun _ _ => .bad) .bad (g x y h1)) h) o) (sget τ i)
/-- behind a loop's turn: go on, or leave -/
def turn (go : Sl → Mem → OS) (o : OS) : OS := OS.rec (fun f h' => Fl.rec (fun τ' => go τ' h') (fun v => .mk (.rt v) h') (fun τ' => .mk (.nx τ') h') (fun τ' => go τ' h') (fun x τ' => .mk (.ex x τ') h') f) .bad o
def mWhile (c : Sl → M Bool) (b : MS) (n : Nat) : MS := Nat.rec (fun _ _ => .bad) (fun _ ih τ => inS (c τ) τ fun k h => Bool.rec (.mk (.nx τ) h) (turn ih (b τ h)) k) n
def mForL (g : CV → Sl → M Sl) (b : MS) (xs : List CV) : MS := List.rec (fun τ h => .mk (.nx τ) h) (fun x _ ih τ h => Out.rec (fun τ1 h1 => turn ih (b τ1 h1)) (fun _ _ => .bad) .bad (g x τ h)) xs
theorem mWhile_succ (c : Sl → M Bool) (b : MS) (n : Nat) : mWhile c b (n + 1) = fun τ => inS (c τ) τ fun k h => Bool.rec (.mk (.nx τ) h) (turn (mWhile c b n) (b τ h)) k := rfl
theorem mForL_cons (g : CV → Sl → M Sl) (b : MS) (x : CV) (xs : List CV) : mForL g b (x :: xs) = fun τ h => Out.rec (fun τ1 h1 => turn (mForL g b xs) (b τ1 h1)) (fun _ _ => .bad) .bad (g x τ h) := rfl
def mFor (it : Sl → M (List CV)) (g : CV → Sl → M Sl) (b : MS) : MS := fun τ => inS (it τ) τ fun xs h => mForL g b xs τ h

section
variable {G : Cfg} {W : WX} {X : Cx} {pos : Pos} {st : Stmt} {rest : List Stmt} {ma mb : MS} {e : Expr} {me : Sl → M CV} {mc : Sl → M Bool}
theorem sss_nil : SSs G W X [] mNil := pss_nil.wk fun D σ H ⟨ρ, h, τ, m, s, p⟩ => p.nx' m s
theorem sss_cons (h1 : SS G W X st ma) (h2 : SSs G W X rest mb) : SSs G W X (st :: rest) (mSeq ma mb) :=
  (pss_cons h1 h2).wk fun D σ H ⟨ρ, h, τ, m, s, p⟩ => by
    refine ⟨ρ, h, τ, m, s, ?_⟩
    unfold mSeq at p
    cases q : ma τ h with
    | mk f h' =>
      rw [q] at p
      cases f with
      | nx τ' => exact fun ρ1 H1 σ1 m1 e1 s1 => ⟨ρ1, h', τ', m1, s1, PostS.ext (G := G) (W := W) p e1⟩
      | bk τ' => exact p
      | ct τ' => exact p
      | rt v => exact p
      | ex x τ' => exact p
    | bad => rw [q] at p; exact p
theorem sss_one (h1 : SS G W X st ma) : SSs G W X [st] ma := pss_one h1
theorem sg_set {i : Nat} {x : Str} (hN : X.N.Nodup) (hi : X.N[i]? = some x) (hx : Loc X.env.scope x) (hf : X.fn x = true ∨ X.env.scope.names.lookup x = some .local := by first | exact .inl rfl | exact .inr rfl | assumption) : SG G X (.Name x pos) (gSet i) :=
  (pg_name hN hi hx hf).wk fun v σ H Q ⟨ρ, h, τ, x, m, s, r, p⟩ => by
    rw [gSet_eq] at p
    exact p ρ H _ m Ext.refl (s.set i r)
theorem sgs_nil : SGs G X [] gNilT := pgs_nil.wk fun vs σ H Q ⟨ρ, h, τ, xs, m, s, r, p⟩ => by
  cases xs with
  | nil => exact ⟨r, p ρ H σ m Ext.refl s⟩
  | cons x xs => exact p.elim
theorem sgs_cons {t : Expr} {ts : List Expr} {g : CV → Sl → M Sl} {gr : List CV → Sl → M Sl} (h1 : SG G X t g) (h2 : SGs G X ts gr)
    (hs : (assignEach (t :: ts) X.env).map (·.2) = assign t X.env :: (assignEach ts X.env).map (·.2) := by rfl) : SGs G X (t :: ts) (gConsT g gr) :=
  (pgs_cons h1 h2 hs).wk fun vs σ H Q ⟨ρ, h, τ, xs, m, s, r, p⟩ => by
    cases xs with
    | nil => exact p.elim
    | cons x xs =>
      obtain ⟨v, vr, e, r1, r2⟩ := r
      refine ⟨v, vr, e, ρ, h, τ, x, m, s, r1, ?_⟩
      simp only [gConsT, bnd] at p
      cases q : g x τ h with
      | ok τ' h' =>
        rw [q] at p
        intro ρ1 H1 σ1 m1 e1 s1
        refine ⟨ρ1, h', τ', xs, m1, s1, ValsR.ext m e1 r2, ?_⟩
        simp only at p
        cases q2 : gr xs τ' h' with
        | ok τ2 h2 => rw [q2] at p; exact fun ρ2 H2 σ2 m2 e2 s2 => p ρ2 H2 σ2 m2 (e1.trans e2) s2
        | exc x2 h2 => rw [q2] at p; exact p
        | bad => rw [q2] at p; exact p
      | exc x2 h2 => rw [q] at p; exact p
      | bad => rw [q] at p; exact p
theorem sg_unp {es : List Expr} {k n : Nat} {g : List CV → Sl → M Sl} (hK : G.K = X.K) (hc : X.calm = true) (hg : SGs G X es g) (hn : (assignEach es X.env).length = n := by rfl) (hst : (assignEach es X.env).findIdx? (·.1) = none := by rfl) :
    SG G X (.Tuple es k pos) (gUnp n g) :=
  (pg_tup hc hg hn hst).wk fun v σ H Q ⟨ρ, h, τ, x, m, s, r, p⟩ => by
    cases x with
    | tup xs =>
      obtain ⟨a, ys, e, q, z⟩ := r
      simp only [gUnp] at p
      by_cases hl : xs.length = n
      · rw [if_pos hl] at p
        refine ⟨a, ys, e, hK ▸ q, ?_, ρ, h, τ, xs, m, s, z, p⟩
        have len : ∀ {xs : List CV} {ys : List V}, ValsR G ρ H xs ys → xs.length = ys.length := by
          intro xs
          induction xs with
          | nil => intro ys r; rw [show ys = [] from r]; rfl
          | cons x xs ih => intro ys r; obtain ⟨y, r', e, _, r2⟩ := r; rw [e, List.length_cons, List.length_cons, ih r2]
        rw [← len z, hl]
      · rw [if_neg hl] at p; exact p.elim
    | _ => exact p.elim
theorem ss_asg {tg : Expr} {g : CV → Sl → M Sl} (hg : SG G X tg g) (he : SE G W X e me) (hs : swapsWithSole [tg] e pos.line X.env = pure false := by rfl) (hw : swappedStores [tg] e X.env = pure none := by rfl)
    (h1 : (assignEach [tg] X.env).map (·.2) = [assign tg X.env] := by rfl) : SS G W X (.Assign [tg] e pos) (mAsg g me) :=
  (ps_asg he hg hs hw h1).wk fun D σ H ⟨ρ, h, τ, m, s, p⟩ => tM_inS m s p fun x h1 ρ1 H1 u m1 e1 s1 r1 p1 => by
    refine ⟨ρ1, h1, τ, x, m1, s1, r1, ?_⟩
    cases q : g x τ h1 with
    | ok τ' h' => rw [q] at p1; exact p1
    | exc x h' => rw [q] at p1; exact p1
    | bad => rw [q] at p1; exact p1
theorem ss_if {c : Expr} {a b : List Stmt} (hc : ST G W X c mc) (ha : SSs G W X a ma) (hb : SSs G W X b mb) : SS G W X (.If c a b pos) (mIf mc ma mb) :=
  (ps_if hc ha hb).wk fun D σ H ⟨ρ, h, τ, m, s, p⟩ => tM_inS m s p fun k h1 ρ1 H1 u m1 e1 s1 r1 p1 => by
    subst r1
    cases k with
    | true => exact (if_pos rfl) ▸ ⟨ρ1, h1, τ, m1, s1, p1⟩
    | false => exact (if_neg Bool.false_ne_true) ▸ ⟨ρ1, h1, τ, m1, s1, p1⟩
theorem ss_ret (he : SE G W X e me) : SS G W X (.Return (some e) pos) (mRet me) :=
  (ps_ret he).wk fun D σ H ⟨ρ, h, τ, m, s, p⟩ => tM_inS m s p fun x h1 ρ1 H1 u m1 e1 s1 r1 p1 => p1 ρ1 H1 u m1 Ext.refl r1
theorem ss_retN : SS G W X (.Return none pos) mRetN := ps_retN.wk fun D σ H ⟨ρ, h, τ, m, s, p⟩ => p ρ H .non m Ext.refl rfl
theorem ss_expr (he : SE G W X e me) (hs : swapsWith e none pos.line X.env = pure false := by rfl) : SS G W X (.Expr e pos) (mExpr me) :=
  (ps_expr he hs).wk fun D σ H ⟨ρ, h, τ, m, s, p⟩ => tM_inS m s p fun x h1 ρ1 H1 u m1 e1 s1 r1 p1 => p1 ρ1 H1 σ m1 Ext.refl s1
theorem ss_break : SS G W X (.Break pos) mBreak := ps_break.wk fun D σ H ⟨ρ, h, τ, m, s, p⟩ => p ρ H σ m Ext.refl s
theorem ss_cont : SS G W X (.Continue pos) mCont := ps_continue.wk fun D σ H ⟨ρ, h, τ, m, s, p⟩ => p ρ H σ m Ext.refl s
theorem ss_pass : SS G W X (.Pass pos) mNil := ps_pass.wk fun D σ H ⟨ρ, h, τ, m, s, p⟩ => p.nx' m s
theorem ss_aug {i : Nat} {x : Str} {op : Operator} {ti : TIp} {g : CV → CV → M CV} {pos' : Pos} (ho : PIp X op ti) (hg : Op2 G ti g) (hN : X.N.Nodup) (hi : X.N[i]? = some x) (hx : Loc X.env.scope x) (he : SE G W X e me)
    (hf : X.fn x = true ∨ X.env.scope.names.lookup x = some .local := by first | exact .inl rfl | exact .inr rfl | assumption) : SS G W X (.AugAssign (.Name x pos') op e pos) (mAug i g me) :=
  (ps_aug hN hi hx he ho hf).wk fun D σ H ⟨ρ, h, τ, m, s, p⟩ => by
    unfold mAug at p
    rw [sget_eq] at p
    cases hv : τ[i]? with
    | none => rw [hv] at p; exact p.elim
    | some o =>
      rw [hv] at p
      cases o with
      | none => exact p.elim
      | some v =>
        obtain ⟨u, q, r⟩ := s.2 i v hv
        refine ⟨u, q, tM_inS m s p fun y h1 ρ1 H1 w m1 e1 s1 r1 p1 => ?_⟩
        refine hg (fun _ _ _ _ => True) σ ρ1 h1 H1 v y u w _ m1 (r.ext m e1) r1 ?_
        cases z : g v y h1 with
        | ok a h2 =>
          rw [z] at p1
          simp only [frV_eq, sset_eq] at p1
          exact fun ρ2 H2 b m2 e2 r2 => p1 ρ2 H2 _ m2 e2 ((s1.ext m1 e2).set i r2)
        | exc x h2 => rw [z] at p1; exact p1.elim
        | bad => rw [z] at p1; exact p1.elim
theorem ss_while {c : Expr} {body : List Stmt} (n : Nat) (hp : PassesOwn (model X.prog X.w) X.A X.env X.xe) (hc : ST G W X c mc) (hb : SSs G W X body mb) : SS G W X (.While c body [] pos) (mWhile mc mb n) :=
  (ps_while hp hc hb).wk fun D σ H ⟨ρ, h, τ, m, s, p⟩ => by
    refine ⟨fun n σ H => ∃ ρ h τ, MemR G ρ h H ∧ SlR G ρ H τ σ ∧ PostS G W ρ H (mWhile mc mb n τ h) D, ⟨n, ρ, h, τ, m, s, p⟩, ?_⟩
    rintro n σ H ⟨ρ, h, τ, m, s, p⟩
    cases n with
    | zero => exact p.elim
    | succ n =>
      rw [mWhile_succ] at p
      refine tM_inS m s p fun k h1 ρ1 H1 u m1 e1 s1 r1 p1 => ?_
      subst r1
      cases k with
      | false =>
        rw [if_neg Bool.false_ne_true]
        exact p1.nx' m1 s1
      | true =>
        rw [if_pos rfl]
        refine ⟨_, fun σ' H' q => ⟨n, Nat.lt_succ_self n, q⟩, ρ1, h1, τ, m1, s1, ?_⟩
        have p1 : PostS G W ρ1 H1 (turn (mWhile mc mb n) (mb τ h1)) D := p1
        cases q : mb τ h1 with
        | mk f h' =>
          rw [q] at p1
          cases f with
          | nx τ' => exact fun ρ2 H2 σ2 m2 e2 s2 => ⟨ρ2, h', τ', m2, s2, PostS.ext (G := G) (W := W) p1 e2⟩
          | ct τ' => exact fun ρ2 H2 σ2 m2 e2 s2 => ⟨ρ2, h', τ', m2, s2, PostS.ext (G := G) (W := W) p1 e2⟩
          | bk τ' => exact p1
          | rt v => exact p1
          | ex x τ' => exact p1
        | bad => rw [q] at p1; exact p1
def ItR (G : Cfg) (ρ0 : Wd) (H0 : Hp) (J : It) (xs : List CV) : Prop :=
  ∀ ρ h H, MemR G ρ h H → ExtH ρ0 H0 ρ H → (∀ i, i < xs.length → J.go i H) ∧ J.stop xs.length H ∧ ∀ (i : Nat) (x : CV) (u : V) (H' : Hp), xs[i]? = some x → J.yld i H u H' → MemR G ρ h H' ∧ Ext ρ H ρ H' ∧ ValR G ρ H' x u
def tIt (G : Cfg) (W : WX) (it : Sl → M (List CV)) : TI := fun σ H R => tM G W (fun ρ H (xs : List CV) (J : It) => ItR G ρ H J xs) it σ H R
abbrev SI (G : Cfg) (W : WX) (X : Cx) (tg e : Expr) (it : Sl → M (List CV)) : Prop := PI X tg e (tIt G W it)
theorem ss_for {tg : Expr} {body : List Stmt} {it : Sl → M (List CV)} {g : CV → Sl → M Sl} (hp : PassesOwn (model X.prog X.w) X.A X.env X.xe) (hc : X.calm = true) (hi : SI G W X tg e it) (hg : SG G X tg g) (hb : SSs G W X body mb)
    (hs : ∀ x, foldedSetIterable e X.env x = pure x := by intro _; rfl) : SS G W X (.For tg e body [] pos) (mFor it g mb) :=
  (ps_for hp hc hi hg hb hs).wk fun D σ H ⟨ρ, h, τ, m, s, p⟩ => by
    refine tM_inS m s p fun xs h1 ρ1 H1 J m1 e1 s1 r1 p1 => ?_
    refine ⟨fun i n σ H => i + n = xs.length ∧ ∃ ρ h τ, MemR G ρ h H ∧ Ext ρ1 H1 ρ H ∧ SlR G ρ H τ σ ∧ PostS G W ρ H (mForL g mb (xs.drop i) τ h) D, ⟨xs.length, Nat.zero_add _, ρ1, h1, τ, m1, Ext.refl, s1, p1⟩, ?_⟩
    rintro i n σ H ⟨hi, ρ, h, τ, m, ex, s, p⟩
    obtain ⟨go, stop, yld⟩ := r1 ρ h H m ex.toH
    cases n with
    | zero =>
      have e : i = xs.length := by omega
      subst e
      rw [List.drop_length] at p
      exact .inl ⟨stop, p.nx' m s⟩
    | succ n =>
      have hlt : i < xs.length := by omega
      refine .inr ⟨go i hlt, _, fun σ' H' q => ⟨n, Nat.lt_succ_self n, q⟩, fun u H' y => ?_⟩
      obtain ⟨m', e', r'⟩ := yld i xs[i] u H' (by simp [hlt]) y
      rw [List.drop_eq_getElem_cons hlt] at p
      refine ⟨ρ, h, τ, xs[i], m', s.ext m e', r', ?_⟩
      rw [mForL_cons] at p
      cases q : g xs[i] τ h with
      | ok τ1 h2 =>
        simp only [q] at p
        intro ρ2 H2 σ2 m2 e2 s2
        refine ⟨ρ2, h2, τ1, m2, s2, ?_⟩
        have p : PostS G W ρ H (turn (mForL g mb (xs.drop (i + 1))) (mb τ1 h2)) D := p
        cases q2 : mb τ1 h2 with
        | mk f h3 =>
          rw [q2] at p
          cases f with
          | nx τ' => exact fun ρ3 H3 σ3 m3 e3 s3 => ⟨by omega, ρ3, h3, τ', m3, ex.trans (e'.trans (e2.trans e3)), s3, PostS.ext (G := G) (W := W) p (e'.trans (e2.trans e3))⟩
          | ct τ' => exact fun ρ3 H3 σ3 m3 e3 s3 => ⟨by omega, ρ3, h3, τ', m3, ex.trans (e'.trans (e2.trans e3)), s3, PostS.ext (G := G) (W := W) p (e'.trans (e2.trans e3))⟩
          | bk τ' => exact fun ρ3 H3 σ3 m3 e3 s3 => p ρ3 H3 σ3 m3 (e'.trans (e2.trans e3)) s3
          | rt v => exact fun ρ3 H3 σ3 m3 e3 s3 => p ρ3 H3 σ3 m3 (e'.trans (e2.trans e3)) s3
          | ex x τ' => exact fun ρ3 H3 c d σ3 m3 e3 s3 z => p ρ3 H3 c d σ3 m3 (e'.trans (e2.trans e3)) s3 z
        | bad => rw [q2] at p; exact p
      | exc x h2 => simp only [q] at p; exact p
      | bad => simp only [q] at p; exact p
end
end VE

noncomputable section
namespace VE
open PySem PySem.Spec PyProof.Rows L2

/-- the slots at the entry -/
def startC (nl : Nat) (xs : List CV) : Sl := xs.map some ++ List.replicate (nl - xs.length) none
def endB (o : OS) : Out CV := OS.rec (fun f h' => Fl.rec (fun _ => .ok .non h') (fun v => .ok v h') (fun _ => .bad) (fun _ => .bad) (fun x _ => .exc x h') f) .bad o
def runB (np nl : Nat) (b : MS) (xs : List CV) : M CV := fun h =>
  if xs.length = np then frLs (frV 3) xs fun xs => sapp (xs.map some) (List.replicate (nl - xs.length) none) fun τ => endB (b τ h) else .bad
theorem runB_eq {np nl : Nat} {b : MS} {xs : List CV} {h : Mem} : runB np nl b xs h = if xs.length = np then endB (b (startC nl xs) h) else .bad := by
  unfold runB startC
  rw [frLs_eq (frV_eq 3), sapp_eq]
def spH (G : Cfg) (np : Nat) (F : List CV → M CV) : Sp := fun vs H Q E => vs.length = np ∧ ∃ ρ h xs, MemR G ρ h H ∧ ValsR G ρ H xs vs ∧ Post G (fun c d _ H' => E c d H') (ValR G) [] ρ H (F xs h) Q
theorem ValsR.len {G : Cfg} {ρ : Wd} {H : Hp} : ∀ {xs : List CV} {ys : List V}, ValsR G ρ H xs ys → xs.length = ys.length
  | [], _, r => by rw [show _ = [] from r]; rfl
  | x :: xs, _, ⟨y, r', e, _, r2⟩ => by rw [e, List.length_cons, List.length_cons, r2.len]
theorem ValsR.get {G : Cfg} {ρ : Wd} {H : Hp} : ∀ {xs : List CV} {ys : List V} {i : Nat} {x : CV}, ValsR G ρ H xs ys → xs[i]? = some x → ∃ y, ys[i]? = some y ∧ ValR G ρ H x y
  | [], _, i, x, _, e => by simp at e
  | x :: xs, _, 0, _, ⟨y, r', e, r1, _⟩, q => by
    subst e
    simp only [List.getElem?_cons_zero, Option.some.injEq] at q ⊢
    subst q
    exact ⟨y, rfl, r1⟩
  | x :: xs, _, i + 1, _, ⟨y, r', e, _, r2⟩, q => by
    subst e
    simp only [List.getElem?_cons_succ] at q ⊢
    exact r2.get q
theorem SlR.start {G : Cfg} {ρ : Wd} {H : Hp} {xs : List CV} {vs : List V} {N : List Str} (r : ValsR G ρ H xs vs) :
    SlR G ρ H (xs.map some ++ List.replicate (N.length - xs.length) none) (L2.start N vs) := by
  have hl := r.len
  refine ⟨by unfold L2.start; simp [hl], fun i v e => ?_⟩
  by_cases hi : i < xs.length
  · rw [List.getElem?_append_left (by simpa using hi)] at e
    rw [List.getElem?_map] at e
    cases q : xs[i]? with
    | none => rw [q] at e; simp at e
    | some x =>
      rw [q] at e
      simp only [Option.map_some, Option.some.injEq] at e
      subst e
      obtain ⟨y, a, b⟩ := r.get q
      refine ⟨y, ?_, b⟩
      unfold L2.start
      rw [List.getElem?_append_left (by simpa [← hl] using hi), List.getElem?_map, a]
      rfl
  · rw [List.getElem?_append_right (by simpa using hi)] at e
    rw [List.getElem?_replicate] at e
    split at e <;> simp at e
section
variable {G : Cfg} {W : WX} {X : Cx} {P : Program} {w : World} {K : PySem.W.Frag} {mg : Str → Option Value} {base : Heap}
theorem fnX {x qual : Str} {st : Stmt} {f : Addr} {fd : FuncData} {N ps : List Str} {k : Nat} (np nl : Nat) {mb : MS} {FF : List CV → M CV} (hFF : FF = runB np nl mb) (F : Fun K x qual st f fd) (S : FnScope N ps (defScope st)) (hnp : ps.length = np) (hnl : N.length = nl) (hG : G.K = K)
    (hbody : ∀ (cdv : Value) (A : Around) (outer : List Env) (s : Shared) (H : Hp) (E : XK), Room k (A.deeper (envOfC qual (defScope st) s.heap.objs.size f cdv)) →
      Bx G (fun c d _ H => E c d H) (cxOf (L2.CX P w) P w K mg base N qual (defScope st) f cdv A outer s H E) → PassesOwn (model P w) (cxOf (L2.CX P w) P w K mg base N qual (defScope st) f cdv A outer s H E).A (cxOf (L2.CX P w) P w K mg base N qual (defScope st) f cdv A outer s H E).env (cxOf (L2.CX P w) P w K mg base N qual (defScope st) f cdv A outer s H E).xe →
      SSs G (fun c d _ H => E c d H) (cxOf (L2.CX P w) P w K mg base N qual (defScope st) f cdv A outer s H E) (defBody st) mb) :
    FnOk P w K mg base (L2.CX P w) (k + 1) f fd ps (spH G np FF) := by
  subst hnp hnl hFF
  refine F.okX S (fun vs H Q E h => h.1) fun cdv A outer s H vs Q E hr h => ?_
  obtain ⟨hl, ρ, h, xs, m, r, p⟩ := h
  refine ⟨_, hbody cdv A outer s H E hr ⟨hG, takes_of rfl rfl rfl rfl⟩ (passes_of rfl), ρ, h, _, m, SlR.start r, ?_⟩
  rw [runB_eq] at p
  by_cases hx : xs.length = ps.length
  · rw [if_pos hx] at p
    have e0 : startC N.length xs = xs.map some ++ List.replicate (N.length - xs.length) none := rfl
    rw [e0] at p
    cases q : mb (xs.map some ++ List.replicate (N.length - xs.length) none) h with
    | mk f h' =>
      rw [q] at p
      cases f with
      | nx τ => exact fun ρ1 H1 σ1 m1 e1 s1 => p ρ1 H1 .non m1 e1 rfl
      | rt v => exact p
      | ex x τ => exact fun ρ1 H1 c d σ1 m1 e1 s1 z => p ρ1 H1 c d m1 e1 z
      | bk τ => exact p.elim
      | ct τ => exact p.elim
    | bad => rw [q] at p; exact p.elim
  · rw [if_neg hx] at p; exact p.elim
variable {k : Nat} {f : Addr} {fd : FuncData} {ps : List Str} {x : Str} {p pos : Pos} {e : Expr} {es : List Expr} {ml : Sl → M (List CV)} {F : List CV → M CV} {np : Nat}
theorem Post.wx {α β : Type} {W' : WX} {R : Wd → Hp → α → β → Prop} {σ σ' : L2.St} {ρ : Wd} {H : Hp} {o : Out α} {Q : β → Hp → Prop} (q : Post G W R σ ρ H o Q) (hw : ∀ c d H', W c d σ H' → W' c d σ' H') : Post G W' R σ' ρ H o Q := by
  cases o with
  | ok a h => exact q
  | exc x h => exact fun ρ1 H1 c d m1 e1 z => hw _ _ _ (q ρ1 H1 c d m1 e1 z)
  | bad => exact q
/-- f(e, ..) -/
def eCall (np : Nat) (F : List CV → M CV) (ml : Sl → M (List CV)) : Sl → M CV := fun τ => bnd (ml τ) fun xs => if xs.length = np then F xs else stuck
theorem se_call (B : Bx G W X) (ok : FnOk X.prog X.w X.K X.mg X.base (L2.CX X.prog X.w) k f fd ps (spH G np F)) (hr : Room k X.A) (hg : Gl X x) (hm : X.mg x = some (.ref f)) (hk : PySem.W.keepIn X.K (.ref f) = true) (hb : Binds X.K fd ps [])
    (ha : SA G W X (e :: es) ml) (hdb : (x == ("__debug__" : Str)) = false := by decide) (he : starEach (e :: es) X.env = (false, eval e X.env) :: starEach es X.env := by rfl) (hpl : (backTo pos (starEach es X.env)).any (·.1) = false := by rfl) :
    SE G W X (.Call (.Name x p) (e :: es) [] pos) (eCall np F ml) :=
  (pe_callS ok hr hg hm hk hb (fun σ => passAt B.tk σ) ha hdb he hpl).wk fun σ H Q ⟨ρ, h, τ, m, s, p⟩ => tM_bind m s p fun xs h1 ρ1 H1 us m1 e1 s1 r1 p1 => by
    by_cases hl : xs.length = np
    · rw [if_pos hl] at p1
      exact ⟨r1.len.symm.trans hl, ρ1, h1, xs, m1, r1, Post.wx (σ := σ) p1 fun _ _ _ z => z⟩
    · rw [if_neg hl] at p1; exact p1.elim
/-- a built-in -/
def eB (g : List CV → M CV) (ml : Sl → M (List CV)) : Sl → M CV := fun τ => bnd (ml τ) g
theorem se_callB {id : String} {r : List V → Hp → VK → Prop} {g : List CV → M CV} (hc : CallR X (.builtin id) r) (hgr : OpL G r g) (hg : Gl X x) (hm : X.mg x = none) (hv : bootBuiltins x = some (.builtin id)) (ha : SA G W X (e :: es) ml)
    (hn : x ≠ "__name__" := by decide) (hdb : (x == ("__debug__" : Str)) = false := by decide) (he : starEach (e :: es) X.env = (false, eval e X.env) :: starEach es X.env := by rfl) (hpl : (backTo pos (starEach es X.env)).any (·.1) = false := by rfl) :
    SE G W X (.Call (.Name x p) (e :: es) [] pos) (eB g ml) :=
  (pe_callB hc hg hm hv ha hn hdb he hpl).wk fun σ H Q ⟨ρ, h, τ, m, s, p⟩ => tM_bind m s p fun xs h1 ρ1 H1 us m1 e1 s1 r1 p1 => hgr W σ ρ1 h1 H1 xs us Q m1 r1 p1
theorem se_callTy {T : String} {r : List V → Hp → VK → Prop} {g : List CV → M CV} (hc : CallR X (.type T) r) (hgr : OpL G r g) (hg : Gl X x) (hm : X.mg x = none) (hv : bootBuiltins x = some (.type T)) (ha : SA G W X (e :: es) ml)
    (hn : x ≠ "__name__" := by decide) (hdb : (x == ("__debug__" : Str)) = false := by decide) (he : starEach (e :: es) X.env = (false, eval e X.env) :: starEach es X.env := by rfl) (hpl : (backTo pos (starEach es X.env)).any (·.1) = false := by rfl) :
    SE G W X (.Call (.Name x p) (e :: es) [] pos) (eB g ml) :=
  (pe_callTy hc hg hm hv ha hn hdb he hpl).wk fun σ H Q ⟨ρ, h, τ, m, s, p⟩ => tM_bind m s p fun xs h1 ρ1 H1 us m1 e1 s1 r1 p1 => hgr W σ ρ1 h1 H1 xs us Q m1 r1 p1
end

def isB (x : CV) : M Bool := match x with
  | .bl b => ret b
  | _ => stuck
def bOf (e : Sl → M CV) : Sl → M Bool := fun τ => bnd (e τ) isB
def bAnd (a b : Sl → M Bool) : Sl → M Bool := fun τ => bnd (a τ) fun k => Bool.rec (ret false) (b τ) k
def bOr (a b : Sl → M Bool) : Sl → M Bool := fun τ => bnd (a τ) fun k => Bool.rec (b τ) (ret true) k
def bNot (a : Sl → M Bool) : Sl → M Bool := fun τ => bnd (a τ) fun k => ret (!k)
def eAnd (a b : Sl → M CV) : Sl → M CV := fun τ => bnd (a τ) fun x => bnd (isB x) fun k => Bool.rec (ret (.bl false)) (b τ) k
def eOr (a b : Sl → M CV) : Sl → M CV := fun τ => bnd (a τ) fun x => bnd (isB x) fun k => Bool.rec (b τ) (ret (.bl true)) k
def eNot (a : Sl → M CV) : Sl → M CV := fun τ => bnd (a τ) fun x => bnd (isB x) fun k => ret (.bl (!k))
def eIf (c : Sl → M Bool) (a b : Sl → M CV) : Sl → M CV := fun τ => bnd (c τ) fun k => Bool.rec (b τ) (a τ) k
section
variable {G : Cfg} {W : WX} {X : Cx} {pos : Pos} {a b c : Expr} {rest : List Expr} {ma mb : Sl → M CV} {ca cb : Sl → M Bool}
theorem st_val (h : SE G W X a ma) (he : ∀ whole, isTrue a X.env whole = (do let v ← whole; standAt a.pos; holding [v] (truthy v)) := by intro _; rfl) : ST G W X a (bOf ma) :=
  (pt_val h he).wk fun σ H Q ⟨ρ, h, τ, m, s, p⟩ => tM_bind m s p fun x h1 ρ1 H1 u m1 e1 s1 r1 p1 => by
    cases x with
    | bl b => exact ⟨b, r1, p1 ρ1 H1 b m1 Ext.refl rfl⟩
    | _ => exact p1.elim
theorem st_cmp {op : CmpOp} {r : R2} {g : CV → CV → M CV} (ho : OpR X (compareOp op) r) (hg : Op2 G r g) (ha : SE G W X a ma) (hb : SE G W X b mb) (hm : behindInMarks op b = false := by first | exact nomark _ | rfl) : ST G W X (.Compare a [op] [b] pos) (bOf (eOp g ma mb)) :=
  (pt_cmpR ho ha hb hm).wk fun σ H Q ⟨ρ, h, τ, m, s, p⟩ => by
    unfold bOf at p
    have p' : Post G W (fun _ _ (a b : Bool) => a = b) σ ρ H (bnd (ma τ) (fun x => bnd (mb τ) fun y => bnd (g x y) isB) h) Q := by
      simp only [eOp, bnd] at p ⊢
      cases q : ma τ h with
      | ok x h1 =>
        rw [q] at p
        simp only at p ⊢
        cases q2 : mb τ h1 with
        | ok y h2 => rw [q2] at p; exact p
        | exc y h2 => rw [q2] at p; exact p
        | bad => rw [q2] at p; exact p
      | exc x h1 => rw [q] at p; exact p
      | bad => rw [q] at p; exact p
    exact tM_bind m s p' fun x h1 ρ1 H1 u m1 e1 s1 r1 p1 => tM_bind m1 s1 p1 fun y h2 ρ2 H2 v m2 e2 s2 r2 p2 => hg W σ ρ2 h2 H2 x y u v _ m2 (r1.ext m1 e2) r2 (by
      unfold bnd at p2
      cases q : g x y h2 with
      | ok z h3 =>
        rw [q] at p2
        intro ρ3 H3 t m3 e3 r3
        cases z with
        | bl b => exact ⟨b, r3, p2 ρ3 H3 b m3 e3 rfl⟩
        | _ => exact p2.elim
      | exc z h3 => rw [q] at p2; exact p2
      | bad => rw [q] at p2; exact p2)
theorem sw_and1 (ha : ST G W X a ca) : SW G W X (.BoolOp .And [a] pos) ca := pw_and1 ha
theorem sw_or1 (ha : ST G W X a ca) : SW G W X (.BoolOp .Or [a] pos) ca := pw_or1 ha
theorem sw_and (ha : ST G W X a ca) (hb : SW G W X (.BoolOp .And (b :: rest) pos) cb) : SW G W X (.BoolOp .And (a :: b :: rest) pos) (bAnd ca cb) :=
  (pw_and ha hb).wk fun σ H Q ⟨ρ, h, τ, m, s, p⟩ => tM_bind m s p fun k h1 ρ1 H1 u m1 e1 s1 r1 p1 => by
    subst r1
    cases k with
    | true => exact (if_pos rfl) ▸ ⟨ρ1, h1, τ, m1, s1, p1⟩
    | false => exact (if_neg Bool.false_ne_true) ▸ p1 ρ1 H1 false m1 Ext.refl rfl
theorem sw_or (ha : ST G W X a ca) (hb : SW G W X (.BoolOp .Or (b :: rest) pos) cb) : SW G W X (.BoolOp .Or (a :: b :: rest) pos) (bOr ca cb) :=
  (pw_or ha hb).wk fun σ H Q ⟨ρ, h, τ, m, s, p⟩ => tM_bind m s p fun k h1 ρ1 H1 u m1 e1 s1 r1 p1 => by
    subst r1
    cases k with
    | true => exact (if_pos rfl) ▸ p1 ρ1 H1 true m1 Ext.refl rfl
    | false => exact (if_neg Bool.false_ne_true) ▸ ⟨ρ1, h1, τ, m1, s1, p1⟩
theorem st_bool (h : SW G W X a ca) : ST G W X a ca := L2.PW.pt h
theorem st_not (ha : ST G W X a ca) : ST G W X (.UnaryOp .Not a pos) (bNot ca) :=
  (pt_not ha).wk fun σ H Q ⟨ρ, h, τ, m, s, p⟩ => tM_bind m s p fun k h1 ρ1 H1 u m1 e1 s1 r1 p1 => by
    subst r1
    exact p1 ρ1 H1 _ m1 Ext.refl rfl
theorem se_and1 {op : BoolOp} (ha : SE G W X a ma) : SE G W X (.BoolOp op [a] pos) ma := pe_one ha
theorem se_and (ha : SE G W X a ma) (hb : SE G W X (.BoolOp .And (b :: rest) pos) mb) : SE G W X (.BoolOp .And (a :: b :: rest) pos) (eAnd ma mb) :=
  (pe_and ha hb).wk fun σ H Q ⟨ρ, h, τ, m, s, p⟩ => tM_bind m s p fun x h1 ρ1 H1 u m1 e1 s1 r1 p1 => by
    cases x with
    | bl k =>
      refine ⟨k, r1, ?_⟩
      cases k with
      | true => exact (if_pos rfl) ▸ ⟨ρ1, h1, τ, m1, s1, p1⟩
      | false => exact (if_neg Bool.false_ne_true) ▸ p1 ρ1 H1 _ m1 Ext.refl rfl
    | _ => exact p1.elim
theorem se_or (ha : SE G W X a ma) (hb : SE G W X (.BoolOp .Or (b :: rest) pos) mb) : SE G W X (.BoolOp .Or (a :: b :: rest) pos) (eOr ma mb) :=
  (pe_or ha hb).wk fun σ H Q ⟨ρ, h, τ, m, s, p⟩ => tM_bind m s p fun x h1 ρ1 H1 u m1 e1 s1 r1 p1 => by
    cases x with
    | bl k =>
      refine ⟨k, r1, ?_⟩
      cases k with
      | true => exact (if_pos rfl) ▸ p1 ρ1 H1 _ m1 Ext.refl rfl
      | false => exact (if_neg Bool.false_ne_true) ▸ ⟨ρ1, h1, τ, m1, s1, p1⟩
    | _ => exact p1.elim
theorem se_not (ha : SE G W X a ma) : SE G W X (.UnaryOp .Not a pos) (eNot ma) :=
  (pe_not ha).wk fun σ H Q ⟨ρ, h, τ, m, s, p⟩ => tM_bind m s p fun x h1 ρ1 H1 u m1 e1 s1 r1 p1 => by
    cases x with
    | bl k => exact ⟨k, r1, p1 ρ1 H1 _ m1 Ext.refl rfl⟩
    | _ => exact p1.elim
theorem se_if (hc : ST G W X c ca) (ha : SE G W X a ma) (hb : SE G W X b mb) : SE G W X (.IfExp c a b pos) (eIf ca ma mb) :=
  (pe_ifExp hc ha hb).wk fun σ H Q ⟨ρ, h, τ, m, s, p⟩ => tM_bind m s p fun k h1 ρ1 H1 u m1 e1 s1 r1 p1 => by
    subst r1
    cases k with
    | true => exact (if_pos rfl) ▸ ⟨ρ1, h1, τ, m1, s1, p1⟩
    | false => exact (if_neg Bool.false_ne_true) ▸ ⟨ρ1, h1, τ, m1, s1, p1⟩
end

def mRaise (e : Sl → Mem → Out Exn) : MS := fun τ => inS (e τ) τ fun x h => .mk (.ex x τ) h
def tX (G : Cfg) (W : WX) (m : Sl → M Exn) : L2.St → Hp → XK → Prop := fun σ H Q => ∃ ρ h τ, MemR G ρ h H ∧ SlR G ρ H τ σ ∧ match m τ h with
  | .ok x h' => ∀ ρ' H' c d, MemR G ρ' h' H' → Ext ρ H ρ' H' → ExcR G ρ' H' x c d → Q c d H'
  | .exc x h' => ∀ ρ' H' c d, MemR G ρ' h' H' → Ext ρ H ρ' H' → ExcR G ρ' H' x c d → W c d σ H'
  | .bad => False
def SX (G : Cfg) (W : WX) (X : Cx) (e : Expr) (m : Sl → M Exn) : Prop := PMk X e (tX G W m)
section
variable {G : Cfg} {W : WX} {X : Cx} {pos : Pos} {e : Expr} {me : Sl → M Exn}
theorem ss_raise (B : Bx G W X) (hc : X.calm = true) (he : SX G W X e me) : SS G W X (.Raise (some e) none pos) (mRaise me) :=
  (ps_raise hc B.tk he).wk fun D σ H ⟨ρ, h, τ, m, s, p⟩ => by
    refine ⟨ρ, h, τ, m, s, ?_⟩
    unfold mRaise inS at p
    cases q : me τ h with
    | ok x h' =>
      rw [q] at p
      exact fun ρ1 H1 c d m1 e1 z => p ρ1 H1 c d σ m1 e1 (s.ext m e1) z
    | exc x h' =>
      rw [q] at p
      exact fun ρ1 H1 c d m1 e1 z => p ρ1 H1 c d σ m1 e1 (s.ext m e1) z
    | bad => rw [q] at p; exact p
/-- X('m'), X an own class without an own __init__ -/
def xMsg (k : Nat) : Sl → M Exn := fun _ => ret ⟨k, []⟩
theorem sx_own {x m : Str} {C : Addr} {bmB : List Value} {B newId initId : String} {j k : Nat} {p p2 pos : Pos} (F : ExcBaseFacts B newId initId bmB) (q : PySem.W.excIn X.K C bmB newId = true) (gC : X.mg x = some (.ref C)) (kC : PySem.W.keepIn X.K (.ref C) = true) (r : Raises X (.ref C)) (hg : Gl X x)
    (hk : G.cls k = C) (hdb : (x == ("__debug__" : Str)) = false := by decide) : SX G W X (.Call (.Name x p) [.Constant (.str m) j p2] [] pos) (xMsg k) := by
  intro pins s σ H Q I h
  refine pmk_own F q gC kC r hg hdb pins s σ H Q I ?_
  obtain ⟨ρ, h, τ, m, s, p⟩ := h
  exact p ρ H _ none m Ext.refl ⟨by rw [hk], .inl rfl⟩
end
end VE

noncomputable section
namespace VE
open PySem PySem.Spec PyProof.Rows L2

section
variable {G : Cfg} {ρ ρ1 : Wd} {h : Mem} {H : Hp} {p : Addr} {o : HO}
theorem Ext.laid (hp : H p = none) : Ext ρ H ρ (upd H p o) :=
  ⟨rfl, fun _ _ e => e, fun a u e _ _ => by rw [upd_ne (ne_of_none e hp)]; exact e, fun a ps e => ⟨ps, by rw [upd_ne (ne_of_none e hp)]; exact e⟩, fun _ e => .inl e⟩
theorem tabs_laid (t : LamX.Tabs G.T H) (hp : H p = none) : LamX.Tabs G.T (upd H p o) := t.ext fun b u e => by rw [upd_ne (ne_of_none e hp)]; exact e
theorem objR_ext {co : CO} {H1 : Hp} {a : Addr} (m : MemR G ρ h H) (e : Ext ρ H ρ1 H1) (ha : H1 a = H a) (r : ObjR G ρ H co a) : ObjR G ρ1 H1 co a := by
  cases co with
  | lst xs => obtain ⟨ys, q, z⟩ := r; exact ⟨ys, ha.trans q, z.ext m e⟩
  | none_ => exact r.elim
theorem MemR.laid (m : MemR G ρ h H) (hp : H p = none) : MemR G ρ h (upd H p o) where
  len := m.len
  nd := m.nd
  obj := fun i a co e1 e2 => by
    have r := m.obj i a co e1 e2
    obtain ⟨ys, q⟩ := r.some
    exact objR_ext m (Ext.laid hp) (by rw [upd_ne (ne_of_none q hp)]) r
  hid := fun a ha => by
    obtain ⟨⟨ys, q⟩, n⟩ := m.hid a ha
    exact ⟨⟨ys, by rw [upd_ne (ne_of_none q hp)]; exact q⟩, n⟩
  tab := tabs_laid m.tab hp
/-- a new object of the memory -/
theorem Ext.push (hp : H p = none) : Ext ρ H ⟨ρ.d, ρ.r ++ [p]⟩ (upd H p o) where
  hid := rfl
  pre := fun i a e => by
    obtain ⟨hi, _⟩ := List.getElem?_eq_some_iff.mp e
    rw [List.getElem?_append_left hi]; exact e
  keep := fun a u e _ _ => by rw [upd_ne (ne_of_none e hp)]; exact e
  tbl := fun a ps e => ⟨ps, by rw [upd_ne (ne_of_none e hp)]; exact e⟩
  new := fun a e => by
    rcases List.mem_append.mp e with e | e
    · exact .inl e
    · rw [List.mem_singleton.mp e]; exact .inr hp
theorem MemR.push {xs : List CV} {ys : List V} (m : MemR G ρ h H) (hp : H p = none) (r : ValsR G ρ H xs ys) : MemR G ⟨ρ.d, ρ.r ++ [p]⟩ (h ++ [.lst xs]) (upd H p (.lst ys)) where
  len := by simp [m.len]
  nd := by
    refine List.nodup_append.mpr ⟨m.nd, by simp, fun a ha b hb => ?_⟩
    rw [List.mem_singleton.mp hb]
    intro e
    exact m.free hp (.inl (e ▸ ha))
  obj := fun i a co e1 e2 => by
    by_cases hi : i < ρ.r.length
    · rw [List.getElem?_append_left hi] at e1
      rw [List.getElem?_append_left (by rw [← m.len]; exact hi)] at e2
      have q := m.obj i a co e1 e2
      obtain ⟨zs, z⟩ := q.some
      exact objR_ext m (Ext.push hp) (by rw [upd_ne (ne_of_none z hp)]) q
    · rw [List.getElem?_append_right (by omega)] at e1
      rw [List.getElem?_append_right (by rw [← m.len]; omega)] at e2
      have hl := m.len
      have h0 : i - ρ.r.length = 0 := by
        cases q : i - ρ.r.length with
        | zero => rfl
        | succ n => rw [q] at e1; simp at e1
      rw [h0] at e1
      rw [← hl, h0] at e2
      simp only [List.getElem?_cons_zero, Option.some.injEq] at e1 e2
      subst e1 e2
      exact ⟨ys, upd_same, r.ext m (Ext.push hp)⟩
  hid := fun a ha => by
    obtain ⟨⟨ys, q⟩, n⟩ := m.hid a ha
    refine ⟨⟨ys, by rw [upd_ne (ne_of_none q hp)]; exact q⟩, fun z => ?_⟩
    rcases List.mem_append.mp z with z | z
    · exact n z
    · rw [List.mem_singleton.mp z, hp] at q; cases q
  tab := tabs_laid m.tab hp
/-- an object of the memory (or a hidden one) is written -/
theorem Ext.write (hp : p ∈ ρ.r) (e : ∃ ys, H p = some (.lst ys)) {ys : List V} : Ext ρ H ρ (upd H p (.lst ys)) where
  hid := rfl
  pre := fun _ _ e => e
  keep := fun a u e n _ => by rw [upd_ne (fun (z : a = p) => n (by rw [z]; exact hp))]; exact e
  tbl := fun a ps q => ⟨ps, by
    rw [upd_ne (fun z => by
      obtain ⟨ys, e⟩ := e
      rw [z, e] at q; cases q)]
    exact q⟩
  new := fun _ e => .inl e
mutual
theorem ValR.wr (hp : ρ.has p) (e : ∃ ys, H p = some (.lst ys)) {o : HO} : ∀ {x : CV} {v : V}, ValR G ρ H x v → ValR G ρ (upd H p o) x v
  | .non, _, r => r
  | .bl _, _, r => r
  | .int _, _, r => r
  | .str _, _, r => r
  | .cls _, _, r => r
  | .fn _, _, r => r
  | .ty _, _, r => r
  | .ref l, _, r => r
  | .tup xs, _, ⟨a, ys, q, s, r⟩ => by
    refine ⟨a, ys, q, ?_, ValsR.wr hp e r⟩
    rcases s with s | s
    · have n : a ≠ p := fun z => by
        obtain ⟨zs, e⟩ := e
        rcases s with s | ⟨ob, s⟩ <;> rw [z, e] at s <;> cases s
      exact .inl (s.elim (fun s => .inl (by rw [upd_ne n]; exact s)) fun ⟨ob, s⟩ => .inr ⟨ob, by rw [upd_ne n]; exact s⟩)
    · exact .inr s
  | .lst xs, _, ⟨a, ys, q, n, s, r⟩ => ⟨a, ys, q, n, by rw [upd_ne (fun (z : a = p) => n (by rw [z]; exact hp))]; exact s, ValsR.wr hp e r⟩
  | .frz xs, _, ⟨a, ys, q, s, r⟩ => by
    refine ⟨a, ys, q, ?_, ValsR.wr hp e r⟩
    rcases s with ⟨n, s⟩ | s
    · have n' : a ≠ p := fun (z : a = p) => n (by rw [z]; exact hp)
      exact .inl ⟨n, s.elim (fun s => .inl (by rw [upd_ne n']; exact s)) fun ⟨ob, s⟩ => .inr ⟨ob, by rw [upd_ne n']; exact s⟩⟩
    · exact .inr s
theorem ValsR.wr (hp : ρ.has p) (e : ∃ ys, H p = some (.lst ys)) {o : HO} : ∀ {xs : List CV} {vs : List V}, ValsR G ρ H xs vs → ValsR G ρ (upd H p o) xs vs
  | [], _, r => r
  | x :: xs, _, ⟨y, r, q, z, s⟩ => ⟨y, r, q, ValR.wr hp e z, ValsR.wr hp e s⟩
end
theorem objR_wr {co : CO} {a : Addr} {o : HO} (hp : ρ.has p) (e : ∃ ys, H p = some (.lst ys)) (n : a ≠ p) (r : ObjR G ρ H co a) : ObjR G ρ (upd H p o) co a := by
  cases co with
  | lst xs =>
    obtain ⟨ys, q, z⟩ := r
    exact ⟨ys, by rw [upd_ne n]; exact q, z.wr hp e⟩
  | none_ => exact r.elim
theorem tabs_wr {ys : List V} (t : LamX.Tabs G.T H) (e : ∃ ys, H p = some (.lst ys)) : LamX.Tabs G.T (upd H p (.lst ys)) := fun q hq => by
  obtain ⟨ps, h1, h2, h3⟩ := t q hq
  obtain ⟨zs, e⟩ := e
  refine ⟨ps, by rw [upd_ne (fun z => by rw [z, e] at h1; cases h1)]; exact h1, h2, fun pos cv hc => ?_⟩
  obtain ⟨c, e1, e2⟩ := h3 pos cv hc
  refine ⟨c, e1, ?_⟩
  rw [upd_ne (fun z => by
    rw [z, e] at e2
    unfold LamX.CodeO at e2
    cases e2)]
  exact e2
theorem MemR.write {l : Nat} {xs : List CV} {ys : List V} (m : MemR G ρ h H) (hl : ρ.r[l]? = some p) (r : ValsR G ρ H xs ys) : MemR G ρ (h.set l (.lst xs)) (upd H p (.lst ys)) := by
  have hp : p ∈ ρ.r := List.mem_of_getElem? hl
  have e := m.at_ (.inl hp)
  refine ⟨by simp [m.len], m.nd, fun i a co e1 e2 => ?_, fun a ha => ?_, tabs_wr m.tab e⟩
  · by_cases hi : l = i
    · subst hi
      rw [hl] at e1
      cases e1
      have hlt : l < h.length := by rw [← m.len]; exact (List.getElem?_eq_some_iff.mp hl).1
      rw [List.getElem?_set_self hlt] at e2
      cases e2
      exact ⟨ys, upd_same, r.wr (.inl hp) e⟩
    · rw [List.getElem?_set_ne hi] at e2
      have n : a ≠ p := fun z => by
        subst z
        have h1 := (List.getElem?_eq_some_iff.mp e1)
        have h2 := (List.getElem?_eq_some_iff.mp hl)
        obtain ⟨h1, q1⟩ := h1
        obtain ⟨h2, q2⟩ := h2
        exact hi ((List.getElem_inj m.nd).mp (q2.trans q1.symm))
      exact objR_wr (.inl hp) e n (m.obj i a co e1 e2)
  · obtain ⟨⟨zs, q⟩, n⟩ := m.hid a ha
    exact ⟨⟨zs, by rw [upd_ne (fun (z : a = p) => n (by rw [z]; exact hp))]; exact q⟩, n⟩
theorem Ext.writeAt {l : Nat} {ys : List V} (m : MemR G ρ h H) (hl : ρ.r[l]? = some p) : Ext ρ H ρ (upd H p (.lst ys)) :=
  Ext.write (List.mem_of_getElem? hl) (m.at_ (.inl (List.mem_of_getElem? hl)))
end

def eTup (ml : Sl → M (List CV)) : Sl → M CV := fun τ => bnd (ml τ) fun xs => if xs.length ≤ 1000 then ret (.tup xs) else stuck
/-- a list that nobody writes -/
def eLst (ml : Sl → M (List CV)) : Sl → M CV := fun τ => bnd (ml τ) fun xs => if xs.length ≤ 1000 then ret (.lst xs) else stuck
/-- a list that is written later -/
def eNew (ml : Sl → M (List CV)) : Sl → M CV := fun τ => bnd (ml τ) fun xs h => if xs.length ≤ 1000 then frLs (frV 3) xs fun xs => frN h.length fun n => sapp h [.lst xs] fun h => .ok (.ref n) h else .bad
theorem line1000 {n : Nat} (h : n ≤ 1000) : n ≤ sizeLine := by rw [sizeLine_eq]; omega
theorem Post.newTup {G : Cfg} {W : WX} {σ : L2.St} {ρ : Wd} {h : Mem} {H : Hp} {p : Addr} {xs : List CV} {ys : List V} {Q : VK} (m : MemR G ρ h H) (r : ValsR G ρ H xs ys) (q : Post G W (ValR G) σ ρ H (ret (.tup xs) h) Q) (hp : H p = none) : Q (.ref p) (upd H p (.tup ys)) :=
  q ρ _ _ (m.laid hp) (Ext.laid hp) ⟨p, ys, rfl, SqT.of upd_same, r.ext m (Ext.laid hp)⟩
theorem Post.newLst {G : Cfg} {W : WX} {σ : L2.St} {ρ : Wd} {h : Mem} {H : Hp} {p : Addr} {xs : List CV} {ys : List V} {Q : VK} (m : MemR G ρ h H) (r : ValsR G ρ H xs ys) (q : Post G W (ValR G) σ ρ H (ret (.lst xs) h) Q) (hp : H p = none) : Q (.ref p) (upd H p (.lst ys)) :=
  q ρ _ _ (m.laid hp) (Ext.laid hp) ⟨p, ys, rfl, m.free hp, upd_same, r.ext m (Ext.laid hp)⟩
section
variable {G : Cfg} {W : WX} {X : Cx} {pos : Pos} {es : List Expr} {ml : Sl → M (List CV)} {a b : Expr} {ma mb : Sl → M CV}
theorem se_tup {x1} (ha : SA G W X es ml) : SE G W X (.Tuple es x1 pos) (eTup ml) :=
  (pe_tup ha).wk fun σ H Q ⟨ρ, h, τ, m, s, p⟩ => tM_bind m s p fun xs h1 ρ1 H1 us m1 e1 s1 r1 p1 => by
    by_cases hl : xs.length ≤ 1000
    · rw [if_pos hl] at p1
      exact ⟨by rw [← r1.len]; exact line1000 hl, fun p hp => p1.newTup m1 r1 hp⟩
    · rw [if_neg hl] at p1; exact p1.elim
theorem se_lst (ha : SA G W X es ml) : SE G W X (.List es pos) (eLst ml) :=
  (pe_lst ha).wk fun σ H Q ⟨ρ, h, τ, m, s, p⟩ => tM_bind m s p fun xs h1 ρ1 H1 us m1 e1 s1 r1 p1 => by
    by_cases hl : xs.length ≤ 1000
    · rw [if_pos hl] at p1
      exact ⟨by rw [← r1.len]; exact line1000 hl, fun p hp => p1.newLst m1 r1 hp⟩
    · rw [if_neg hl] at p1; exact p1.elim
theorem se_new (ha : SA G W X es ml) : SE G W X (.List es pos) (eNew ml) :=
  (pe_lst ha).wk fun σ H Q ⟨ρ, h, τ, m, s, p⟩ => tM_bind m s p fun xs h1 ρ1 H1 us m1 e1 s1 r1 p1 => by
    by_cases hl : xs.length ≤ 1000
    · rw [if_pos hl, frLs_eq (frV_eq 3), frN_eq, sapp_eq] at p1
      refine ⟨by rw [← r1.len]; exact line1000 hl, fun p hp => p1 _ _ _ (m1.push hp r1) (Ext.push hp) ⟨p, ?_, rfl⟩⟩
      show (ρ1.r ++ [p])[h1.length]? = some p
      rw [← m1.len]; simp
    · rw [if_neg hl] at p1; exact p1.elim
end

/-- what stands at a place of the memory -/
def memAt (h : Mem) (l : Nat) : Option (List CV) := Option.rec none (fun co => match co with
  | .lst xs => some xs
  | .none_ => none) (sget h l)
theorem memAt_some {h : Mem} {l : Nat} {xs : List CV} (e : memAt h l = some xs) : h[l]? = some (.lst xs) := by
  unfold memAt at e
  rw [sget_eq] at e
  cases q : h[l]? with
  | none => rw [q] at e; cases e
  | some co =>
    rw [q] at e
    cases co with
    | lst ys => cases e; rfl
    | none_ => cases e
/-- the items of a list or tuple -/
def seqOf (x : CV) (h : Mem) : Option (List CV) := match x with
  | .tup xs => some xs
  | .lst xs => some xs
  | .frz xs => some xs
  | .ref l => memAt h l
  | _ => none
def isTup : CV → Bool
  | .tup _ => true
  | _ => false
theorem seqOf_r {G : Cfg} {ρ : Wd} {h : Mem} {H : Hp} {x : CV} {u : V} {xs : List CV} (m : MemR G ρ h H) (r : ValR G ρ H x u) (e : seqOf x h = some xs) :
    ∃ a ys, u = .ref a ∧ ValsR G ρ H xs ys ∧ (if isTup x then SqT G.K H a ys else SqL G.K H a ys) := by
  cases x with
  | tup zs =>
    obtain ⟨a, ys, q, z, r⟩ := r
    cases e
    exact ⟨a, ys, q, r, z⟩
  | lst zs =>
    obtain ⟨a, ys, q, n, z, r⟩ := r
    cases e
    exact ⟨a, ys, q, r, SqL.of z⟩
  | frz zs =>
    obtain ⟨a, ys, q, z, r⟩ := r
    cases e
    exact ⟨a, ys, q, r, z.l⟩
  | ref l =>
    obtain ⟨a, q, z⟩ := r
    obtain ⟨ys, w, r⟩ := m.obj l a _ q (memAt_some e)
    exact ⟨a, ys, z, r, SqL.of w⟩
  | _ => cases e
/-- an item by its number -/
def pyAt (xs : List CV) (i : Int) : Option CV := Int.rec (fun n => sget xs n) (fun n => if n < xs.length then sget xs (xs.length - (n + 1)) else none) i
theorem pyAt_eq (xs : List CV) (i : Int) : pyAt xs i = L2.atI xs i := by
  unfold pyAt L2.atI L2.ixN
  cases i with
  | ofNat n =>
    show sget xs n = _
    rw [sget_eq]
    by_cases h : n < xs.length
    · rw [if_pos (by simp), if_pos (by simpa using h)]
      rfl
    · rw [if_pos (by simp), if_neg (by simpa using h), List.getElem?_eq_none (by omega)]
      rfl
  | negSucc n =>
    show (if n < xs.length then sget xs (xs.length - (n + 1)) else none) = _
    by_cases h : n < xs.length
    · rw [if_pos h, if_neg (by omega), if_pos (by omega), sget_eq]
      show _ = xs[_]?
      congr 1
      omega
    · rw [if_neg h, if_neg (by omega), if_neg (by omega)]
      rfl
theorem ValsR.atI {G : Cfg} {ρ : Wd} {H : Hp} {xs : List CV} {ys : List V} {i : Int} {x : CV} (r : ValsR G ρ H xs ys) (e : L2.atI xs i = some x) : ∃ y, L2.atI ys i = some y ∧ ValR G ρ H x y := by
  unfold L2.atI at e ⊢
  rw [← r.len]
  cases q : ixN xs.length i with
  | none => rw [q] at e; cases e
  | some j =>
    rw [q] at e
    exact r.get e
def pyIx (x i : CV) : M CV := fun h => match i with
  | .int i => match x with
    | .str z => match L2.atI z.cps.toList i with
      | some c => if z.length ≤ 1000000 then .ok (.str ⟨#[c]⟩) h else .bad
      | none => .bad
    | x => match seqOf x h with
      | some xs => match pyAt xs i with
        | some v => .ok v h
        | none => .bad
      | none => .bad
  | _ => .bad
theorem pyIx_ok {G : Cfg} : Op2 G (rIx G.K) pyIx := by
  intro W σ ρ h H x y u v Q m rx ry p
  unfold pyIx at p
  cases y with
  | int i =>
    have ev : v = .int i := ry
    simp only at p
    have seq : ∀ {x : CV}, ValR G ρ H x u → Post G W (ValR G) σ ρ H (match seqOf x h with
      | some xs => match pyAt xs i with
        | some v => .ok v h
        | none => .bad
      | none => .bad) Q → rIx G.K u v H Q := by
      intro x rx p
      cases e : seqOf x h with
      | none => rw [e] at p; exact p.elim
      | some xs =>
        rw [e] at p
        simp only [pyAt_eq] at p
        cases q : L2.atI xs i with
        | none => rw [q] at p; exact p.elim
        | some z =>
          rw [q] at p
          obtain ⟨a, ys, eu, r, sq⟩ := seqOf_r m rx e
          obtain ⟨w, e2, rw'⟩ := r.atI q
          by_cases ht : isTup x = true
          · rw [if_pos ht] at sq
            exact .inr (.inl ⟨a, ys, i, w, eu, ev, sq, e2, p ρ H w m Ext.refl rw'⟩)
          · rw [if_neg ht] at sq
            exact .inl ⟨a, ys, i, w, eu, ev, sq, e2, p ρ H w m Ext.refl rw'⟩
    cases x with
    | str z =>
      have eu : u = .str z := rx
      simp only at p
      cases e : L2.atI z.cps.toList i with
      | none => rw [e] at p; exact p.elim
      | some c =>
        rw [e] at p
        simp only at p
        by_cases hz : z.length ≤ 1000000
        · rw [if_pos hz] at p
          exact .inr (.inr ⟨z, i, c, eu, ev, by rw [sizeLine_eq]; omega, e, p ρ H _ m Ext.refl rfl⟩)
        · rw [if_neg hz] at p; exact p.elim
    | _ => exact seq rx p
  | _ => exact p.elim
section
variable {G : Cfg} {W : WX} {X : Cx} {pos : Pos} {a b : Expr} {ma mb : Sl → M CV}
theorem se_ix (hK : G.K = X.K) (ha : SE G W X a ma) (hb : SE G W X b mb) (hs : PlainIx b := by exact fun _ _ => rfl) : SE G W X (.Subscript a b pos) (eOp pyIx ma mb) :=
  (pe_ix ix_seq ha hb hs).wk fun σ H Q ⟨ρ, h, τ, m, s, p⟩ => tM_bind m s p fun x h1 ρ1 H1 u m1 e1 s1 r1 p1 => tM_bind m1 s1 p1 fun y h2 ρ2 H2 v m2 e2 s2 r2 p2 => hK ▸ pyIx_ok W σ ρ2 h2 H2 x y u v Q m2 (r1.ext m1 e2) r2 p2
end

end VE

noncomputable section
namespace VE
open PySem PySem.Spec PyProof.Rows L2

/-- the items of a list that may be joined -/
def lstOf (x : CV) (h : Mem) : Option (List CV) := match x with
  | .lst xs => some xs
  | .ref l => memAt h l
  | _ => none
theorem lstOf_r {G : Cfg} {ρ : Wd} {h : Mem} {H : Hp} {x : CV} {u : V} {xs : List CV} (m : MemR G ρ h H) (r : ValR G ρ H x u) (e : lstOf x h = some xs) :
    ∃ a ys, u = .ref a ∧ ValsR G ρ H xs ys ∧ H a = some (.lst ys) := by
  cases x with
  | lst zs =>
    obtain ⟨a, ys, q, n, z, r⟩ := r
    cases e
    exact ⟨a, ys, q, r, z⟩
  | ref l =>
    obtain ⟨a, q, z⟩ := r
    obtain ⟨ys, w, r⟩ := m.obj l a _ q (memAt_some e)
    exact ⟨a, ys, z, r, w⟩
  | _ => cases e
theorem log2_of {n k : Nat} (h : Nat.ble n (2 ^ k) = true) : n.log2 ≤ k := by
  have h := Nat.le_of_ble_eq_true h
  by_cases h0 : n = 0
  · subst h0; simp
  · have h1 : n < 2 ^ (k + 1) := Nat.lt_of_le_of_lt h (Nat.pow_lt_pow_right (by decide) (Nat.lt_succ_self k))
    exact Nat.le_of_lt_succ ((Nat.log2_lt h0).mpr h1)
def fit (i : Int) : Bool := Nat.ble i.natAbs big
theorem fit_mul {i j : Int} (h : (fit i && fit j) = true) : i.natAbs.log2 + j.natAbs.log2 < 1000000 := by
  rw [Bool.and_eq_true] at h
  have h1 := log2_of (k := 400000) h.1
  have h2 := log2_of (k := 400000) h.2
  omega
/-- a divisor's size -/
def fitD (j : Int) : Bool := Nat.ble j.natAbs (2 ^ 8999)
theorem fit_div {j : Int} (h : fitD j = true) : j.natAbs.log2 < 9000 := Nat.lt_succ_of_le (log2_of h)
theorem ValsR.app {G : Cfg} {ρ : Wd} {H : Hp} {ys : List CV} {vs : List V} : ∀ {xs : List CV} {us : List V}, ValsR G ρ H xs us → ValsR G ρ H ys vs → ValsR G ρ H (xs ++ ys) (us ++ vs)
  | [], _, r, s => by rw [show _ = [] from r]; exact s
  | x :: xs, _, ⟨y, r', e, r1, r2⟩, s => by subst e; exact ⟨y, _, rfl, r1, r2.app s⟩
theorem ValsR.nil_iff {G : Cfg} {ρ : Wd} {H : Hp} {xs : List CV} {us : List V} (r : ValsR G ρ H xs us) : us = [] ↔ xs = [] := by
  have := r.len
  cases xs <;> cases us <;> simp_all
theorem lineM {n : Nat} (h : n ≤ 1000000) : n ≤ sizeLine := by rw [sizeLine_eq]; omega

def pyAdd (x y : CV) : M CV := fun h => match x, y with
  | .int i, .int j => .ok (.int (i + j)) h
  | .str i, .str j => if i.length + j.length ≤ 1000000 then .ok (.str (i ++ j)) h else .bad
  | .tup xs, .tup ys => if xs.length + ys.length ≤ 1000000 then .ok (.tup (xs ++ ys)) h else .bad
  | x, y => match lstOf x h, lstOf y h with
    | some xs, some ys => if xs.length + ys.length ≤ 1000000 then .ok (.lst (xs ++ ys)) h else .bad
    | _, _ => .bad
def rPlus (K : PySem.W.Frag) : R2 := fun x y H Q => rI0 (fun i j => .int (i + j)) x y H Q ∨ (∃ i j, x = .str i ∧ y = .str j ∧ i.length + j.length ≤ sizeLine ∧ Q (.str (i ++ j)) H) ∨ rCatA K x y H Q ∨ rCat x y H Q
theorem op_plus {X : Cx} : OpR X (binaryOp .Add) (rPlus X.K) := op_add.or (op_add_str.or (op_catA.or op_cat))
theorem plus_ok {G : Cfg} : Op2 G (rPlus G.K) pyAdd := by
  intro W σ ρ h H x y u v Q m rx ry p
  unfold pyAdd at p
  split at p
  · exact .inl ⟨_, _, rx, ry, p ρ H _ m Ext.refl rfl⟩
  · rename_i i j
    split at p
    · rename_i hl
      exact .inr (.inl ⟨i, j, rx, ry, lineM hl, p ρ H _ m Ext.refl rfl⟩)
    · exact p.elim
  · rename_i xs ys
    split at p
    · rename_i hl
      obtain ⟨a, us, ea, sa, ra⟩ := rx
      obtain ⟨b, vs, eb, sb, rb⟩ := ry
      refine .inr (.inr (.inl ⟨a, b, us, vs, ea, eb, sa, sb, by rw [← ra.len, ← rb.len]; exact lineM hl, fun e => ?_, fun e e2 => ?_, fun _ _ p' hp => ?_⟩))
      · have ex : xs = [] := ra.nil_iff.mp e
        subst ex
        exact p ρ H _ m Ext.refl ⟨b, vs, rfl, sb, rb⟩
      · have ey : ys = [] := rb.nil_iff.mp e2
        subst ey
        exact p ρ H _ m Ext.refl ⟨a, us, rfl, sa, by rw [List.append_nil]; exact ra⟩
      · exact p.newTup m (ra.app rb) hp
    · exact p.elim
  · split at p
    · rename_i xs ys e1 e2
      split at p
      · rename_i hl
        obtain ⟨a, us, ea, ra, sa⟩ := lstOf_r m rx e1
        obtain ⟨b, vs, eb, rb, sb⟩ := lstOf_r m ry e2
        exact .inr (.inr (.inr ⟨a, b, us, vs, ea, eb, sa, sb, by rw [← ra.len, ← rb.len]; exact lineM hl, fun p' hp => p.newLst m (ra.app rb) hp⟩))
      · exact p.elim
    · exact p.elim
theorem ValsR.rep {G : Cfg} {ρ : Wd} {H : Hp} {xs : List CV} {us : List V} (r : ValsR G ρ H xs us) : ∀ k : Nat, ValsR G ρ H (List.replicate k xs).flatten (List.replicate k us).flatten
  | 0 => rfl
  | k + 1 => by rw [List.replicate_succ, List.replicate_succ, List.flatten_cons, List.flatten_cons]; exact r.app (r.rep k)

def pySub (x y : CV) : M CV := match x, y with
  | .int i, .int j => ret (.int (i - j))
  | _, _ => stuck
theorem sub_ok {G : Cfg} : Op2 G (rI0 fun i j => .int (i - j)) pySub := by
  intro W σ ρ h H x y u v Q m rx ry p
  unfold pySub at p
  split at p
  · exact ⟨_, _, rx, ry, p ρ H _ m Ext.refl rfl⟩
  · exact p.elim
def pyFdiv (x y : CV) : M CV := match x, y with
  | .int i, .int j => if j ≠ 0 ∧ fitD j = true then ret (.int (i.fdiv j)) else stuck
  | _, _ => stuck
def CDivG (_ j : Int) : Prop := j ≠ 0 ∧ j.natAbs.log2 < 9000
theorem op_fdivG {X : Cx} : OpR X (binaryOp .FloorDiv) (rI CDivG fun i j => .int (i.fdiv j)) := opI fun i j _ _ _ _ _ hc q => floordiv_int hc.1 q (.inl (PyProof.noPylong_of_log2 hc.2))
theorem iop_fdivG {X : Cx} : OpR X (inplaceOp .FloorDiv) (rI CDivG fun i j => .int (i.fdiv j)) := opI fun i j _ _ _ _ _ hc q => ifloordiv_int hc.1 q (.inl (PyProof.noPylong_of_log2 hc.2))
theorem fdiv_ok {G : Cfg} : Op2 G (rI CDivG fun i j => .int (i.fdiv j)) pyFdiv := by
  intro W σ ρ h H x y u v Q m rx ry p
  unfold pyFdiv at p
  split at p
  · split at p
    · rename_i hc
      exact ⟨_, _, rx, ry, ⟨hc.1, fit_div hc.2⟩, p ρ H _ m Ext.refl rfl⟩
    · exact p.elim
  · exact p.elim
def pyMod (x y : CV) : M CV := match x, y with
  | .int i, .int j => if j ≠ 0 then ret (.int (i.fmod j)) else stuck
  | _, _ => stuck
theorem mod_ok {G : Cfg} : Op2 G (rI (fun _ j => j ≠ 0) fun i j => .int (i.fmod j)) pyMod := by
  intro W σ ρ h H x y u v Q m rx ry p
  unfold pyMod at p
  split at p
  · split at p
    · rename_i hc
      exact ⟨_, _, rx, ry, hc, p ρ H _ m Ext.refl rfl⟩
    · exact p.elim
  · exact p.elim
def pyPow (x y : CV) : M CV := match x, y with
  | .int i, .int j => if 0 ≤ j ∧ j ≤ 1000000 ∧ i.natAbs < 2 ^ 64 then ret (.int (i ^ j.toNat)) else stuck
  | _, _ => stuck
theorem pow_ok {G : Cfg} : Op2 G (rI CPow fun i j => .int (i ^ j.toNat)) pyPow := by
  intro W σ ρ h H x y u v Q m rx ry p
  unfold pyPow at p
  split at p
  · split at p
    · rename_i hc
      exact ⟨_, _, rx, ry, hc, p ρ H _ m Ext.refl rfl⟩
    · exact p.elim
  · exact p.elim
def pyMul (x y : CV) : M CV := fun h => match x, y with
  | .int i, .int j => if (fit i && fit j) = true then .ok (.int (i * j)) h else .bad
  | .tup xs, .int k => if xs ≠ [] ∧ 2 ≤ k ∧ k ≤ 1000 ∧ xs.length ≤ 1000 then .ok (.tup (List.replicate k.toNat xs).flatten) h else .bad
  | x, .int k => match lstOf x h with
    | some xs => if 0 ≤ k ∧ k ≤ 1000 ∧ xs.length ≤ 1000 then .ok (.lst (List.replicate k.toNat xs).flatten) h else .bad
    | none => .bad
  | _, _ => .bad
def rTimes (K : PySem.W.Frag) : R2 := fun x y H Q => rI CMulW (fun i j => .int (i * j)) x y H Q ∨ rRepT K x y H Q ∨ rRep x y H Q
theorem op_times {X : Cx} : OpR X (binaryOp .Mult) (rTimes X.K) := op_mulW.or (op_repT.or op_rep)
def pyNeg (x : CV) : M CV := match x with
  | .int i => ret (.int (-i))
  | _ => stuck
theorem neg_ok {G : Cfg} : Op1 G (rU fun i => .int (-i)) pyNeg := by
  intro W σ ρ h H x u Q m rx p
  unfold pyNeg at p
  split at p
  · exact ⟨_, rx, p ρ H _ m Ext.refl rfl⟩
  · exact p.elim
/-- two ints compared -/
def pyCmp (f : Int → Int → Bool) (x y : CV) : M CV := match x, y with
  | .int i, .int j => ret (.bl (f i j))
  | _, _ => stuck
theorem cmp_ok {G : Cfg} {f : Int → Int → Bool} : Op2 G (rI0 fun i j => .bl (f i j)) (pyCmp f) := by
  intro W σ ρ h H x y u v Q m rx ry p
  unfold pyCmp at p
  split at p
  · exact ⟨_, _, rx, ry, p ρ H _ m Ext.refl rfl⟩
  · exact p.elim
abbrev pyLt := pyCmp fun i j => decide (i < j)
abbrev pyLe := pyCmp fun i j => decide (i ≤ j)
abbrev pyGt := pyCmp fun i j => decide (j < i)
abbrev pyGe := pyCmp fun i j => decide (j ≤ i)
/-- a op1 b op2 c -/
def eChain (g g' : CV → CV → M CV) (a b c : Sl → M CV) : Sl → M CV := fun τ => bnd (a τ) fun x => bnd (b τ) fun y => bnd (g x y) fun z => match z with
  | .bl true => bnd (c τ) fun w => g' y w
  | .bl false => ret (.bl false)
  | _ => stuck

theorem times_ok {G : Cfg} : Op2 G (rTimes G.K) pyMul := by
  intro W σ ρ h H x y u v Q m rx ry p
  unfold pyMul at p
  split at p
  · split at p
    · rename_i hc
      exact .inl ⟨_, _, rx, ry, fit_mul hc, p ρ H _ m Ext.refl rfl⟩
    · exact p.elim
  · rename_i xs k
    split at p
    · rename_i hc
      obtain ⟨a, us, ea, sa, ra⟩ := rx
      exact .inr (.inl ⟨a, k, us, ea, ry, sa, fun e => hc.1 (ra.nil_iff.mp e), hc.2.1, hc.2.2.1, by rw [← ra.len]; exact hc.2.2.2, fun p' hp => p.newTup m (ra.rep _) hp⟩)
    · exact p.elim
  · rename_i k _ _
    split at p
    · rename_i xs e
      split at p
      · rename_i hc
        obtain ⟨a, us, ea, ra, sa⟩ := lstOf_r m rx e
        refine .inr (.inr ⟨a, k, us, ea, ry, sa, by omega, by omega, ?_, fun p' hp => p.newLst m (ra.rep _) hp⟩)
        rw [← ra.len]
        have h1 : k.toNat ≤ 1000 := by omega
        have h2 := Nat.mul_le_mul hc.2.2 h1
        rw [sizeLine_eq]; omega
      · exact p.elim
    · exact p.elim
  · exact p.elim
section
variable {G : Cfg} {W : WX} {X : Cx} {pos : Pos} {a b c : Expr} {ma mb mc : Sl → M CV} {r r' : R2} {g g' : CV → CV → M CV} {op op' : CmpOp}
theorem chain_red (hg : Op2 G r g) (hg' : Op2 G r' g') {σ : L2.St} {H : Hp} {Q : VK} (q : tV G W (eChain g g' ma mb mc) σ H Q) : tChain r r' (tV G W ma) (tV G W mb) (tV G W mc) σ H Q := by
  obtain ⟨ρ, h, τ, m, s, p⟩ := q
  refine tM_bind m s p fun x h1 ρ1 H1 u m1 e1 s1 r1 p1 => tM_bind m1 s1 p1 fun y h2 ρ2 H2 v m2 e2 s2 r2 p2 => hg W σ ρ2 h2 H2 x y u v _ m2 (r1.ext m1 e2) r2 ?_
  unfold bnd at p2
  cases e : g x y h2 with
  | ok z h3 =>
    rw [e] at p2
    intro ρ3 H3 t m3 e3 r3
    cases z with
    | bl k =>
      refine ⟨k, r3, ?_⟩
      cases k with
      | true =>
        rw [if_pos rfl]
        exact tM_bind m3 (s2.ext m2 e3) (Post.ext (G := G) (W := W) p2 e3) fun w' h4 ρ4 H4 t' m4 e4 s4 r4 p4 => hg' W σ ρ4 h4 H4 y w' v t' Q m4 (r2.ext m2 (e3.trans e4)) r4 p4
      | false =>
        rw [if_neg Bool.false_ne_true]
        exact p2 ρ3 H3 _ m3 e3 rfl
    | _ => exact p2.elim
  | exc z h3 => rw [e] at p2; exact p2
  | bad => rw [e] at p2; exact p2
theorem se_chain (ho : OpR X (compareOp op) r) (hg : Op2 G r g) (ho' : OpR X (compareOp op') r') (hg' : Op2 G r' g') (ha : SE G W X a ma) (hb : SE G W X b mb) (hc : SE G W X c mc) (hm : lastMarks [op, op'] [b, c] = false := by with_unfolding_all rfl) :
    SE G W X (.Compare a [op, op'] [b, c] pos) (eChain g g' ma mb mc) := (pe_chain ho ho' ha hb hc hm).wk fun σ H Q q => chain_red hg hg' q
theorem st_chain (ho : OpR X (compareOp op) r) (hg : Op2 G r g) (ho' : OpR X (compareOp op') r') (hg' : Op2 G r' g') (ha : SE G W X a ma) (hb : SE G W X b mb) (hc : SE G W X c mc) (hm : lastMarks [op, op'] [b, c] = false := by with_unfolding_all rfl) :
    ST G W X (.Compare a [op, op'] [b, c] pos) (bOf (eChain g g' ma mb mc)) := by
  refine (pt_chain ho ho' ha hb hc hm).wk fun σ H Q ⟨ρ, h, τ, m, s, p⟩ => ?_
  refine chain_red (W := W) hg hg' ⟨ρ, h, τ, m, s, ?_⟩
  unfold bOf bnd at p
  cases e : eChain g g' ma mb mc τ h with
  | ok z h3 =>
    rw [e] at p
    intro ρ3 H3 t m3 e3 r3
    cases z with
    | bl k => exact ⟨k, r3, p ρ3 H3 k m3 e3 rfl⟩
    | _ => exact p.elim
  | exc z h3 => rw [e] at p; exact p
  | bad => rw [e] at p; exact p
end

mutual
def dat : CV → Option PyData
  | .non => some .none
  | .bl b => some (.bool b)
  | .int i => some (.int i)
  | .str x => some (.str x)
  | .tup xs => (dats xs).map .tuple
  | .lst xs => (dats xs).map .list
  | .frz xs => (dats xs).map .list
  | _ => none
def dats : List CV → Option (List PyData)
  | [] => some []
  | x :: xs => match dat x, dats xs with
    | some d, some ds => some (d :: ds)
    | _, _ => none
end
def datM (x : CV) (h : Mem) : Option PyData := match x with
  | .ref l => match memAt h l with
    | some xs => (dats xs).map .list
    | none => none
  | x => dat x
section
variable {G : Cfg} {ρ : Wd} {h : Mem} {H : Hp}
mutual
theorem dat_r : ∀ {x : CV} {u : V} {d : PyData}, ValR G ρ H x u → dat x = some d → Dp G.K H u d
  | .non, _, _, r, e => by cases e; rw [show _ = V.non from r]; exact .non
  | .bl b, _, _, r, e => by cases e; rw [show _ = V.bl b from r]; exact .bl b
  | .int i, _, _, r, e => by cases e; rw [show _ = V.int i from r]; exact .int i
  | .str x, _, _, r, e => by cases e; rw [show _ = V.str x from r]; exact .str x
  | .tup xs, _, d, ⟨a, ys, q, s, r⟩, e => by
    unfold dat at e
    cases z : dats xs with
    | none => simp [z] at e
    | some ds =>
      simp only [z, Option.map_some, Option.some.injEq] at e
      subst e q
      exact .tup s (dats_r r z)
  | .lst xs, _, d, ⟨a, ys, q, n, s, r⟩, e => by
    unfold dat at e
    cases z : dats xs with
    | none => simp [z] at e
    | some ds =>
      simp only [z, Option.map_some, Option.some.injEq] at e
      subst e q
      exact .lst (SqL.of s) (dats_r r z)
  | .frz xs, _, d, ⟨a, ys, q, s, r⟩, e => by
    unfold dat at e
    cases z : dats xs with
    | none => simp [z] at e
    | some ds =>
      simp only [z, Option.map_some, Option.some.injEq] at e
      subst e q
      exact .lst s.l (dats_r r z)
  | .ref l, _, _, _, e => by simp [dat] at e
  | .cls l, _, _, _, e => by simp [dat] at e
  | .fn l, _, _, _, e => by simp [dat] at e
  | .ty l, _, _, _, e => by simp [dat] at e
theorem dats_r : ∀ {xs : List CV} {us : List V} {ds : List PyData}, ValsR G ρ H xs us → dats xs = some ds → DpAll G.K H us ds
  | [], _, _, r, e => by rw [show _ = [] from r]; cases e; exact .nil
  | x :: xs, _, ds, ⟨y, r, q, r1, r2⟩, e => by
    subst q
    unfold dats at e
    cases z1 : dat x with
    | none => simp [z1] at e
    | some d =>
      cases z2 : dats xs with
      | none => simp [z1, z2] at e
      | some ds' =>
        simp only [z1, z2, Option.some.injEq] at e
        subst e
        exact .cons (dat_r r1 z1) (dats_r r2 z2)
end
theorem datM_r {x : CV} {u : V} {d : PyData} (m : MemR G ρ h H) (r : ValR G ρ H x u) (e : datM x h = some d) : Dp G.K H u d := by
  cases x with
  | ref l =>
    obtain ⟨a, q, z⟩ := r
    unfold datM at e
    cases hc : memAt h l with
    | none => simp [hc] at e
    | some xs =>
      simp only [hc] at e
      obtain ⟨ys, w, r⟩ := m.obj l a _ q (memAt_some hc)
      cases z2 : dats xs with
      | none => simp [z2] at e
      | some ds =>
        simp only [z2, Option.map_some, Option.some.injEq] at e
        subst e z
        exact .lst (SqL.of w) (dats_r r z2)
  | _ => exact dat_r r e
end
def pyEq (neg : Bool) (x y : CV) : M CV := fun h => match datM x h, datM y h with
  | some d, some e => if SeqAt.shaped d && SeqAt.shaped e then .ok (.bl (neg ^^ PyData.eqv d e)) h else .bad
  | _, _ => .bad
theorem eq_ok {G : Cfg} : Op2 G (rEqD G.K) (pyEq false) := by
  intro W σ ρ h H x y u v Q m rx ry p
  unfold pyEq at p
  split at p
  · rename_i d e h1 h2
    split at p
    · rename_i hs
      rw [Bool.and_eq_true] at hs
      exact ⟨d, e, datM_r m rx h1, datM_r m ry h2, hs.1, hs.2, by simpa using p ρ H _ m Ext.refl rfl⟩
    · exact p.elim
  · exact p.elim
theorem ne_ok {G : Cfg} : Op2 G (rNeD G.K) (pyEq true) := by
  intro W σ ρ h H x y u v Q m rx ry p
  unfold pyEq at p
  split at p
  · rename_i d e h1 h2
    split at p
    · rename_i hs
      rw [Bool.and_eq_true] at hs
      exact ⟨d, e, datM_r m rx h1, datM_r m ry h2, hs.1, hs.2, by simpa using p ρ H _ m Ext.refl rfl⟩
    · exact p.elim
  · exact p.elim

def pyLen (xs : List CV) : M CV := fun h => match xs with
  | [.str z] => if z.length ≤ 1000000 then .ok (.int z.length) h else .bad
  | [x] => match seqOf x h with
    | some ys => .ok (.int ys.length) h
    | none => .bad
  | _ => .bad
theorem len_ok {G : Cfg} : OpL G (fun xs H Q => ∃ x n, xs = [x] ∧ LenV G.K x H n ∧ Q (.int n) H) pyLen := by
  intro W σ ρ h H xs us Q m r p
  unfold pyLen at p
  split at p
  · rename_i z
    obtain ⟨y, t, e, r1, r2⟩ := r
    cases (show t = [] from r2)
    cases (show y = V.str z from r1)
    split at p
    · rename_i hl
      exact ⟨_, _, e, ⟨lineM hl, rfl⟩, p ρ H _ m Ext.refl rfl⟩
    · exact p.elim
  · obtain ⟨y, t, e, r1, r2⟩ := r
    cases (show t = [] from r2)
    split at p
    · rename_i ys q
      obtain ⟨a, us', eu, rr, sq⟩ := seqOf_r m r1 q
      subst eu
      have hp := p ρ H (.int ys.length) m Ext.refl rfl
      rw [rr.len] at hp
      split at sq
      · exact ⟨_, _, e, .inr ⟨_, sq, rfl⟩, hp⟩
      · exact ⟨_, _, e, .inl ⟨_, sq, rfl⟩, hp⟩
    · exact p.elim
  · exact p.elim
def pyAbs (xs : List CV) : M CV := match xs with
  | [.int i] => ret (.int (if i < 0 then -i else i))
  | _ => stuck
theorem abs_ok {G : Cfg} : OpL G (fun xs H Q => ∃ i, xs = [.int i] ∧ Q (.int (if i < 0 then -i else i)) H) pyAbs := by
  intro W σ ρ h H xs us Q m r p
  unfold pyAbs at p
  split at p
  · rename_i i
    obtain ⟨y, t, e, r1, r2⟩ := r
    cases (show t = [] from r2)
    cases (show y = V.int i from r1)
    exact ⟨i, e, p ρ H _ m Ext.refl rfl⟩
  · exact p.elim
def pyMax (xs : List CV) : M CV := match xs with
  | [.int i, .int j] => ret (.int (if j > i then j else i))
  | _ => stuck
theorem max_ok {G : Cfg} : OpL G (fun xs H Q => ∃ i j, xs = [.int i, .int j] ∧ Q (.int (if j > i then j else i)) H) pyMax := by
  intro W σ ρ h H xs us Q m r p
  unfold pyMax at p
  split at p
  · rename_i i j
    obtain ⟨y, t, e, r1, y2, t2, e2, r2, r3⟩ := r
    cases (show t2 = [] from r3)
    cases (show y = V.int i from r1)
    cases (show y2 = V.int j from r2)
    subst e2
    exact ⟨i, j, e, p ρ H _ m Ext.refl rfl⟩
  · exact p.elim
def pyMin (xs : List CV) : M CV := match xs with
  | [.int i, .int j] => ret (.int (if j < i then j else i))
  | _ => stuck
theorem min_ok {G : Cfg} : OpL G (fun xs H Q => ∃ i j, xs = [.int i, .int j] ∧ Q (.int (if j < i then j else i)) H) pyMin := by
  intro W σ ρ h H xs us Q m r p
  unfold pyMin at p
  split at p
  · rename_i i j
    obtain ⟨y, t, e, r1, y2, t2, e2, r2, r3⟩ := r
    cases (show t2 = [] from r3)
    cases (show y = V.int i from r1)
    cases (show y2 = V.int j from r2)
    subst e2
    exact ⟨i, j, e, p ρ H _ m Ext.refl rfl⟩
  · exact p.elim
def pyInt (xs : List CV) : M CV := match xs with
  | [.int i] => ret (.int i)
  | [.bl b] => ret (.int (if b then 1 else 0))
  | _ => stuck
theorem int_ok {G : Cfg} : OpL G (fun xs H Q => (∃ i, xs = [.int i] ∧ Q (.int i) H) ∨ ∃ k, xs = [.bl k] ∧ Q (.int (if k then 1 else 0)) H) pyInt := by
  intro W σ ρ h H xs us Q m r p
  unfold pyInt at p
  split at p
  · rename_i i
    obtain ⟨y, t, e, r1, r2⟩ := r
    cases (show t = [] from r2)
    cases (show y = V.int i from r1)
    exact .inl ⟨i, e, p ρ H _ m Ext.refl rfl⟩
  · rename_i i
    obtain ⟨y, t, e, r1, r2⟩ := r
    cases (show t = [] from r2)
    cases (show y = V.bl i from r1)
    exact .inr ⟨i, e, p ρ H _ m Ext.refl rfl⟩
  · exact p.elim
end VE

noncomputable section
namespace VE
open PySem PySem.Spec PyProof.Rows L2

theorem _root_.L2.PI.or {X : Cx} {tg e : Expr} {t t' : TI} (h : PI X tg e t) (h' : PI X tg e t') : PI X tg e (fun σ H R => t σ H R ∨ t' σ H R) :=
  ⟨fun pins s σ H R I q => q.elim (fun q => h.run pins s σ H R I q) fun q => h'.run pins s σ H R I q⟩
def strItems (z : Str) : List CV := z.cps.toList.map fun c => .str ⟨#[c]⟩
/-- the items that a for draws of a value that nobody writes -/
def itOf (x : CV) : M (List CV) := match x with
  | .tup xs => ret xs
  | .lst xs => ret xs
  | .frz xs => ret xs
  | .str z => ret (strItems z)
  | _ => stuck
def iSeq (e : Sl → M CV) : Sl → M (List CV) := fun τ => bnd (e τ) itOf
section
variable {G : Cfg} {ρ : Wd} {h : Mem} {H : Hp} {a : Addr} {ys : List V} {xs : List CV}
theorem itR_list (m : MemR G ρ h H) (s : SqF G.K ρ H a ys) (r : ValsR G ρ H xs ys) : ItR G ρ H (Itl G.K a) xs := by
  intro ρ1 h1 H1 m1 e1
  have s1 : SqL G.K H1 a ys := by
    rcases s with ⟨n, s⟩ | s
    · exact .inl (e1.rd s (nr n) fun _ e => by cases e)
    · exact (show SqF G.K ρ1 H1 a ys from .inr s).l
  have r1 := r.extH m e1
  refine ⟨fun i hi => ⟨ys, ys[i]'(by rw [← r.len]; exact hi), s1, by simp [← r.len, hi]⟩, ⟨ys, s1, by rw [r.len]; exact Nat.le_refl _⟩, fun i x u H' q y => ?_⟩
  obtain ⟨e, y⟩ := y
  subst e
  have q2 := y ys s1
  obtain ⟨w, q3, r3⟩ := r1.get q
  rw [q2] at q3
  cases q3
  exact ⟨m1, Ext.refl, r3⟩
theorem itR_tup (m : MemR G ρ h H) (s : SqT G.K H a ys) (r : ValsR G ρ H xs ys) : ItR G ρ H (Itt G.K a) xs := by
  intro ρ1 h1 H1 m1 e1
  have s1 := e1.sqT m s
  have r1 := r.extH m e1
  refine ⟨fun i hi => ⟨ys, ys[i]'(by rw [← r.len]; exact hi), s1, by simp [← r.len, hi]⟩, ⟨ys, s1, by rw [r.len]; exact Nat.le_refl _⟩, fun i x u H' q y => ?_⟩
  obtain ⟨e, y⟩ := y
  subst e
  have q2 := y ys s1
  obtain ⟨w, q3, r3⟩ := r1.get q
  rw [q2] at q3
  cases q3
  exact ⟨m1, Ext.refl, r3⟩
theorem itR_str {z : Str} : ItR G ρ H (Its z) (strItems z) := by
  intro ρ1 h1 H1 m1 e1
  have hl : (strItems z).length = z.cps.size := by unfold strItems; simp
  refine ⟨fun i hi => by rw [hl] at hi; exact hi, by rw [hl]; exact Nat.le_refl _, fun i x u H' q y => ?_⟩
  obtain ⟨e, c, hc, eu⟩ := y
  subst e eu
  refine ⟨m1, Ext.refl, ?_⟩
  unfold strItems at q
  rw [List.getElem?_map, Array.getElem?_toList, hc] at q
  cases q
  exact rfl
theorem itR_rng {lo : Int} {n : Nat} : ItR G ρ H (Itr lo n) ((List.range n).map fun (i : Nat) => CV.int (lo + (i : Int))) := by
  intro ρ1 h1 H1 m1 e1
  refine ⟨fun i hi => (show i < n by simpa using hi), by simp [Itr], fun i x u H' q y => ?_⟩
  obtain ⟨e, eu⟩ := y
  subst e eu
  refine ⟨m1, Ext.refl, ?_⟩
  rw [List.getElem?_map] at q
  by_cases hi : i < n
  · rw [List.getElem?_range hi] at q
    cases q
    exact rfl
  · rw [List.getElem?_eq_none (by simpa using hi)] at q
    cases q
theorem itR_rngC {lo c : Int} {n : Nat} : ItR G ρ H (Itc lo c n) ((List.range n).map fun (i : Nat) => CV.int (lo + (i : Int) * c)) := by
  intro ρ1 h1 H1 m1 e1
  refine ⟨fun i hi => (show i < n by simpa using hi), by simp [Itc], fun i x u H' q y => ?_⟩
  obtain ⟨e, eu⟩ := y
  subst e eu
  refine ⟨m1, Ext.refl, ?_⟩
  rw [List.getElem?_map] at q
  by_cases hi : i < n
  · rw [List.getElem?_range hi] at q
    cases q
    exact rfl
  · rw [List.getElem?_eq_none (by simpa using hi)] at q
    cases q
/-- (0, x), (1, y), .. -/
def enumL (i : Nat) : List CV → List CV
  | [] => []
  | x :: xs => .tup [.int (i : Int), x] :: enumL (i + 1) xs
theorem enumL_get : ∀ {xs : List CV} {n i : Nat} {y : CV}, (enumL n xs)[i]? = some y → ∃ x, xs[i]? = some x ∧ y = .tup [.int ((n + i : Nat) : Int), x]
  | [], n, i, y, e => by simp [enumL] at e
  | x :: xs, n, 0, y, e => by
    simp only [enumL, List.getElem?_cons_zero, Option.some.injEq] at e
    exact ⟨x, rfl, e.symm⟩
  | x :: xs, n, i + 1, y, e => by
    simp only [enumL, List.getElem?_cons_succ] at e
    obtain ⟨z, h1, h2⟩ := enumL_get e
    exact ⟨z, by simpa using h1, by rw [h2]; congr 4; omega⟩
theorem enumL_len : ∀ {xs : List CV} {n : Nat}, (enumL n xs).length = xs.length
  | [], _ => rfl
  | x :: xs, n => by simp [enumL, enumL_len]
theorem itR_enum (m : MemR G ρ h H) (s : SqF G.K ρ H a ys) (r : ValsR G ρ H xs ys) : ItR G ρ H (Ite G.K a) (enumL 0 xs) := by
  intro ρ1 h1 H1 m1 e1
  have s1 : SqL G.K H1 a ys := by
    rcases s with ⟨n, s⟩ | s
    · exact .inl (e1.rd s (nr n) fun _ e => by cases e)
    · exact (show SqF G.K ρ1 H1 a ys from .inr s).l
  have r1 := r.extH m e1
  refine ⟨fun i hi => ⟨ys, ys[i]'(by rw [← r.len]; rw [enumL_len] at hi; exact hi), s1, by rw [enumL_len] at hi; simp [← r.len, hi]⟩, ⟨ys, s1, by rw [enumL_len, r.len]; exact Nat.le_refl _⟩, fun i x u H' q y => ?_⟩
  obtain ⟨T, w, eu, hT, eH, hw⟩ := y
  subst eu eH
  obtain ⟨z, h1, h2⟩ := enumL_get q
  subst h2
  have q2 := hw ys s1
  obtain ⟨w', q3, r3⟩ := r1.get h1
  rw [q2] at q3
  cases q3
  refine ⟨m1.laid hT, Ext.laid hT, T, _, rfl, SqT.of upd_same, _, _, rfl, (by rw [Nat.zero_add]; exact (rfl : V.int _ = V.int _)), _, _, rfl, r3.ext m1 (Ext.laid hT), rfl⟩
def zipL : List CV → List CV → List CV
  | x :: xs, y :: ys => .tup [x, y] :: zipL xs ys
  | _, _ => []
theorem zipL_get : ∀ {xs ys : List CV} {i : Nat} {z : CV}, (zipL xs ys)[i]? = some z → ∃ x y, xs[i]? = some x ∧ ys[i]? = some y ∧ z = .tup [x, y]
  | [], _, i, z, e => by simp [zipL] at e
  | x :: xs, [], i, z, e => by simp [zipL] at e
  | x :: xs, y :: ys, 0, z, e => by
    simp only [zipL, List.getElem?_cons_zero, Option.some.injEq] at e
    exact ⟨x, y, rfl, rfl, e.symm⟩
  | x :: xs, y :: ys, i + 1, z, e => by
    simp only [zipL, List.getElem?_cons_succ] at e
    obtain ⟨a, b, h1, h2, h3⟩ := zipL_get e
    exact ⟨a, b, by simpa using h1, by simpa using h2, h3⟩
theorem zipL_len : ∀ {xs ys : List CV}, (zipL xs ys).length = min xs.length ys.length
  | [], _ => by simp [zipL]
  | x :: xs, [] => by simp [zipL]
  | x :: xs, y :: ys => by simp [zipL, zipL_len]
end
theorem SqF.ext {G : Cfg} {ρ ρ1 : Wd} {h : Mem} {H H1 : Hp} {a : Addr} {ys : List V} (s : SqF G.K ρ H a ys) (e1 : ExtH ρ H ρ1 H1) : SqL G.K H1 a ys := by
  rcases s with ⟨n, s⟩ | s
  · exact .inl (e1.rd s (nr n) fun _ e => by cases e)
  · exact (show SqF G.K ρ1 H1 a ys from .inr s).l
/-- a list (that nobody writes), a tuple -/
def frzOf (x : CV) : Option (List CV) := match x with
  | .lst xs => some xs
  | .frz xs => some xs
  | _ => none
theorem frzOf_r {G : Cfg} {ρ : Wd} {H : Hp} {x : CV} {u : V} {xs : List CV} (r : ValR G ρ H x u) (e : frzOf x = some xs) : ∃ a ys, u = .ref a ∧ SqF G.K ρ H a ys ∧ ValsR G ρ H xs ys := by
  cases x with
  | lst zs =>
    obtain ⟨a, ys, q, n, z, r⟩ := r
    cases e
    exact ⟨a, ys, q, .inl ⟨n, .inl z⟩, r⟩
  | frz zs =>
    obtain ⟨a, ys, q, z, r⟩ := r
    cases e
    exact ⟨a, ys, q, z, r⟩
  | _ => cases e
section
variable {G : Cfg} {W : WX} {X : Cx} {pos p : Pos} {e e2 tg : Expr} {es : List Expr} {me : Sl → M CV} {ml : Sl → M (List CV)}
theorem si_seq (hK : G.K = X.K) (he : SE G W X e me) : SI G W X tg e (iSeq me) :=
  ((pi_list he).or ((pi_tup he).or (pi_str he))).wk fun σ H R ⟨ρ, h, τ, m, s, p⟩ => by
    rw [← hK]
    have p' := p
    unfold iSeq bnd at p'
    cases q : me τ h with
    | exc x h1 => exact .inl ⟨ρ, h, τ, m, s, by rw [q] at p' ⊢; exact p'⟩
    | bad => exact .inl ⟨ρ, h, τ, m, s, by rw [q] at p' ⊢; exact p'⟩
    | ok x h1 =>
      rw [q] at p'
      cases x with
      | tup xs => exact .inr (.inl ⟨ρ, h, τ, m, s, by
          rw [q]
          intro ρ1 H1 u m1 e1 r1
          obtain ⟨a, ys, eu, z, r⟩ := r1
          exact ⟨a, eu, ⟨ys, z⟩, p' ρ1 H1 _ m1 e1 (itR_tup m1 z r)⟩⟩)
      | lst xs => exact .inl ⟨ρ, h, τ, m, s, by
          rw [q]
          intro ρ1 H1 u m1 e1 r1
          obtain ⟨a, ys, eu, z, r⟩ := frzOf_r r1 rfl
          exact ⟨a, eu, ⟨ys, z.l⟩, p' ρ1 H1 _ m1 e1 (itR_list m1 z r)⟩⟩
      | frz xs => exact .inl ⟨ρ, h, τ, m, s, by
          rw [q]
          intro ρ1 H1 u m1 e1 r1
          obtain ⟨a, ys, eu, z, r⟩ := frzOf_r r1 rfl
          exact ⟨a, eu, ⟨ys, z.l⟩, p' ρ1 H1 _ m1 e1 (itR_list m1 z r)⟩⟩
      | str z => exact .inr (.inr ⟨ρ, h, τ, m, s, by
          rw [q]
          intro ρ1 H1 u m1 e1 r1
          exact ⟨z, r1, p' ρ1 H1 _ m1 e1 itR_str⟩⟩)
      | _ => exact p'.elim
def rng1 (xs : List CV) : M (List CV) := match xs with
  | [.int n] => if -(2 ^ 62) ≤ n ∧ n < 2 ^ 62 then ret ((List.range n.toNat).map fun (i : Nat) => CV.int (0 + (i : Int))) else stuck
  | _ => stuck
def rng2 (xs : List CV) : M (List CV) := match xs with
  | [.int a, .int b] => if -(2 ^ 62) ≤ a ∧ a < 2 ^ 62 ∧ -(2 ^ 62) ≤ b ∧ b < 2 ^ 62 then ret ((List.range (b - a).toNat).map fun (i : Nat) => CV.int (a + (i : Int))) else stuck
  | _ => stuck
def rng3 (xs : List CV) : M (List CV) := match xs with
  | [.int a, .int b, .int c] => if c ≠ 0 ∧ c.natAbs < 1073741824 ∧ Builtin.Range.small a b c = true ∧ 0 ≤ Builtin.Range.rangeSize a b c then ret ((List.range (Builtin.Range.rangeSize a b c).toNat).map fun (i : Nat) => CV.int (a + (i : Int) * c)) else stuck
  | _ => stuck
def iArgs (g : List CV → M (List CV)) (ml : Sl → M (List CV)) : Sl → M (List CV) := fun τ => bnd (ml τ) g
theorem ints1 {G : Cfg} {ρ : Wd} {H : Hp} {n : Int} {us : List V} (r : ValsR G ρ H [.int n] us) : us = [.int n] := by
  obtain ⟨y, t, e, r1, r2⟩ := r
  cases (show t = [] from r2)
  cases (show y = V.int n from r1)
  exact e
theorem ints2 {G : Cfg} {ρ : Wd} {H : Hp} {n m : Int} {us : List V} (r : ValsR G ρ H [.int n, .int m] us) : us = [.int n, .int m] := by
  obtain ⟨y, t, e, r1, r2⟩ := r
  cases (show y = V.int n from r1)
  rw [e, ints1 r2]
theorem ints3 {G : Cfg} {ρ : Wd} {H : Hp} {n m k : Int} {us : List V} (r : ValsR G ρ H [.int n, .int m, .int k] us) : us = [.int n, .int m, .int k] := by
  obtain ⟨y, t, e, r1, r2⟩ := r
  cases (show y = V.int n from r1)
  rw [e, ints2 r2]
theorem si_rng1 (hg : Gl X "range") (hm : X.mg "range" = none) (ha : SA G W X [e] ml) (hs : starEach [e] X.env = [(false, eval e X.env)] := by rfl) : SI G W X tg (.Call (.Name "range" p) [e] [] pos) (iArgs rng1 ml) :=
  (pi_range1 hg hm ha hs).wk fun σ H R ⟨ρ, h, τ, m, s, p⟩ => tM_bind m s p fun xs h1 ρ1 H1 us m1 e1 s1 r1 p1 => by
    unfold rng1 at p1
    split at p1
    · rename_i n
      split at p1
      · rename_i hc
        exact ⟨n, ints1 r1, hc.1, hc.2, p1 ρ1 H1 _ m1 Ext.refl itR_rng⟩
      · exact p1.elim
    · exact p1.elim
theorem si_rng2 (hg : Gl X "range") (hm : X.mg "range" = none) (ha : SA G W X [e, e2] ml) (hs : starEach [e, e2] X.env = [(false, eval e X.env), (false, eval e2 X.env)] := by rfl) (hs2 : starEach [e2] X.env = [(false, eval e2 X.env)] := by rfl) :
    SI G W X tg (.Call (.Name "range" p) [e, e2] [] pos) (iArgs rng2 ml) :=
  (pi_range2 hg hm ha hs hs2).wk fun σ H R ⟨ρ, h, τ, m, s, p⟩ => tM_bind m s p fun xs h1 ρ1 H1 us m1 e1 s1 r1 p1 => by
    unfold rng2 at p1
    split at p1
    · rename_i n k
      split at p1
      · rename_i hc
        exact ⟨n, k, ints2 r1, hc, p1 ρ1 H1 _ m1 Ext.refl itR_rng⟩
      · exact p1.elim
    · exact p1.elim
theorem si_rng3 {e3 : Expr} (hg : Gl X "range") (hm : X.mg "range" = none) (ha : SA G W X [e, e2, e3] ml) (hs : starEach [e, e2, e3] X.env = (false, eval e X.env) :: starEach [e2, e3] X.env := by rfl) (hpl : (backTo pos (starEach [e2, e3] X.env)).any (·.1) = false := by rfl) :
    SI G W X tg (.Call (.Name "range" p) [e, e2, e3] [] pos) (iArgs rng3 ml) :=
  (pi_range3 hg hm ha hs hpl).wk fun σ H R ⟨ρ, h, τ, m, s, p⟩ => tM_bind m s p fun xs h1 ρ1 H1 us m1 e1 s1 r1 p1 => by
    unfold rng3 at p1
    split at p1
    · rename_i n k c
      split at p1
      · rename_i hc
        refine ⟨n, k, c, (Builtin.Range.rangeSize n k c).toNat, ints3 r1, ⟨hc.1, hc.2.1, hc.2.2.1, by omega⟩, p1 ρ1 H1 _ m1 Ext.refl itR_rngC⟩
      · exact p1.elim
    · exact p1.elim
def enumOf (xs : List CV) : M (List CV) := match xs with
  | [x] => match frzOf x with
    | some ys => ret (enumL 0 ys)
    | none => stuck
  | _ => stuck
theorem si_enum {elts : List Expr} {kk : Nat} {tpos : Pos} (hK : G.K = X.K) (hg : Gl X "enumerate") (hm : X.mg "enumerate" = none) (ha : SA G W X [e] ml) (hs : starEach [e] X.env = [(false, eval e X.env)] := by rfl) :
    SI G W X (.Tuple elts kk tpos) (.Call (.Name "enumerate" p) [e] [] pos) (iArgs enumOf ml) :=
  (pi_enum hg hm ha hs).wk fun σ H R ⟨ρ, h, τ, m, s, p⟩ => tM_bind m s p fun xs h1 ρ1 H1 us m1 e1 s1 r1 p1 => by
    rw [← hK]
    cases xs with
    | nil => exact p1.elim
    | cons x t =>
      cases t with
      | cons _ _ => exact p1.elim
      | nil =>
        simp only [enumOf] at p1
        cases q : frzOf x with
        | none => rw [q] at p1; exact p1.elim
        | some ys =>
          rw [q] at p1
          obtain ⟨y, t, eu, ry, rt⟩ := r1
          cases (show t = [] from rt)
          obtain ⟨a, vs, ea, z, r⟩ := frzOf_r ry q
          subst ea
          exact ⟨a, vs, eu, z.l, p1 ρ1 H1 _ m1 Ext.refl (itR_enum m1 z r)⟩
end

def wipeC (τ : Sl) : List Nat → Sl
  | [] => τ
  | v :: vs => (wipeC τ vs).set v none
theorem SlR.wipe {G : Cfg} {ρ : Wd} {H : Hp} {τ : Sl} {σ : L2.St} (r : SlR G ρ H τ σ) : ∀ vs, SlR G ρ H (wipeC τ vs) (L2.wipe σ vs)
  | [] => r
  | v :: vs => (r.wipe vs).unset v
/-- [e for target in it if ..]; the items that it makes -/
def lcL (g : CV → Sl → M Sl) (tt : Sl → M Bool) (te : Sl → M CV) (τ : Sl) (xs : List CV) : M (List CV) :=
  List.rec (fun h => .ok [] h) (fun x _ ih h => Out.rec (fun τ1 h1 => Out.rec (fun b h2 => Bool.rec (ih h2) (Out.rec (fun y h3 => frV 3 y fun y => Out.rec (fun ys h4 => .ok (y :: ys) h4) (fun _ _ => .bad) .bad (ih h3)) (fun _ _ => .bad) .bad (te τ1 h2)) b) (fun _ _ => .bad) .bad (tt τ1 h1)) (fun _ _ => .bad) .bad (g x τ h)) xs
/-- the same, to be read -/
def lcR (g : CV → Sl → M Sl) (tt : Sl → M Bool) (te : Sl → M CV) (τ : Sl) : List CV → M (List CV)
  | [] => ret []
  | x :: xs => fun h => match g x τ h with
    | .ok τ1 h1 => match tt τ1 h1 with
      | .ok true h2 => match te τ1 h2 with
        | .ok y h3 => match lcR g tt te τ xs h3 with
          | .ok ys h4 => .ok (y :: ys) h4
          | _ => .bad
        | _ => .bad
      | .ok false h2 => lcR g tt te τ xs h2
      | _ => .bad
    | _ => .bad
theorem lcL_eq {g : CV → Sl → M Sl} {tt : Sl → M Bool} {te : Sl → M CV} {τ : Sl} : ∀ (xs : List CV) (h : Mem), lcL g tt te τ xs h = lcR g tt te τ xs h
  | [], _ => rfl
  | x :: xs, h => by
    have ih := fun h => lcL_eq (g := g) (tt := tt) (te := te) (τ := τ) xs h
    show (Out.rec (fun τ1 h1 => Out.rec (fun b h2 => Bool.rec (lcL g tt te τ xs h2) (Out.rec (fun y h3 => frV 3 y fun y => Out.rec (fun ys h4 => .ok (y :: ys) h4) (fun _ _ => .bad) .bad (lcL g tt te τ xs h3)) (fun _ _ => .bad) .bad (te τ1 h2)) b) (fun _ _ => .bad) .bad (tt τ1 h1)) (fun _ _ => .bad) .bad (g x τ h) : Out (List CV)) = _
    simp only [lcR]
    cases g x τ h with
    | ok τ1 h1 =>
      simp only
      cases tt τ1 h1 with
      | ok b h2 =>
        cases b with
        | true =>
          simp only
          cases te τ1 h2 with
          | ok y h3 =>
            simp only [frV_eq, ih]
            cases lcR g tt te τ xs h3 <;> rfl
          | exc _ _ => rfl
          | bad => rfl
        | false => exact ih h2
      | exc _ _ => rfl
      | bad => rfl
    | exc _ _ => rfl
    | bad => rfl
theorem wipe_get {σ : L2.St} {j : Nat} : ∀ {vs : List Nat}, (L2.wipe σ vs)[j]? = if j ∈ vs ∧ j < σ.length then some none else σ[j]?
  | [] => by simp [L2.wipe]
  | v :: vs => by
    unfold L2.wipe
    by_cases hv : v = j
    · subst hv
      by_cases hl : v < σ.length
      · rw [List.getElem?_set_self (by rw [wipe_length]; exact hl), if_pos ⟨List.mem_cons_self, hl⟩]
      · rw [List.getElem?_eq_none (by rw [List.length_set, wipe_length]; omega), if_neg (fun z => hl z.2), List.getElem?_eq_none (by omega)]
    · rw [List.getElem?_set_ne hv, wipe_get]
      have : (j ∈ v :: vs) ↔ j ∈ vs := by
        simp only [List.mem_cons]
        exact ⟨fun z => z.elim (fun z => absurd z.symm hv) id, .inr⟩
      simp only [this]
theorem wipe_set {σ : L2.St} {i : Nat} {x : Option V} {vs : List Nat} (hi : i ∈ vs) : L2.wipe (σ.set i x) vs = L2.wipe σ vs := by
  apply List.ext_getElem?
  intro j
  rw [wipe_get, wipe_get, List.length_set]
  by_cases hj : j ∈ vs ∧ j < σ.length
  · rw [if_pos hj, if_pos hj]
  · rw [if_neg hj, if_neg hj]
    by_cases e : i = j
    · subst e
      have hl : ¬ i < σ.length := fun z => hj ⟨hi, z⟩
      rw [List.getElem?_eq_none (by rw [List.length_set]; omega), List.getElem?_eq_none (by omega)]
    · rw [List.getElem?_set_ne e]
theorem wipe_wipe {σ : L2.St} {vs : List Nat} : L2.wipe (L2.wipe σ vs) vs = L2.wipe σ vs := by
  apply List.ext_getElem?
  intro j
  rw [wipe_get, wipe_length, wipe_get]
  by_cases hj : j ∈ vs ∧ j < σ.length
  · rw [if_pos hj, if_pos hj]
  · rw [if_neg hj]
/-- a target within a comprehension: it touches the block's own names alone -/
def LcG (G : Cfg) (g : TG) (gg : CV → Sl → M Sl) (vs : List Nat) : Prop := ∀ (ρ : Wd) (h : Mem) (H : Hp) (τ : Sl) (σ : L2.St) (x : CV) (v : V) (τ1 : Sl) (h1 : Mem) (Q : L2.St → Hp → Prop), MemR G ρ h H → SlR G ρ H τ σ → ValR G ρ H x v → gg x τ h = .ok τ1 h1 →
  (∀ σ2, h1 = h → SlR G ρ H τ1 σ2 → L2.wipe σ2 vs = L2.wipe σ vs → Q σ2 H) → g v σ H Q
def LcGs (G : Cfg) (g : TGs) (gg : List CV → Sl → M Sl) (vs : List Nat) : Prop := ∀ (ρ : Wd) (h : Mem) (H : Hp) (τ : Sl) (σ : L2.St) (x : List CV) (v : List V) (τ1 : Sl) (h1 : Mem) (Q : L2.St → Hp → Prop), MemR G ρ h H → SlR G ρ H τ σ → ValsR G ρ H x v → gg x τ h = .ok τ1 h1 →
  (∀ σ2, h1 = h → SlR G ρ H τ1 σ2 → L2.wipe σ2 vs = L2.wipe σ vs → Q σ2 H) → g v σ H Q
section
variable {G : Cfg} {vs : List Nat}
theorem lcg_set {i : Nat} (hi : i ∈ vs) : LcG G (gName i) (gSet i) vs := by
  intro ρ h H τ σ x v τ1 h1 Q m s r e hq
  rw [gSet_eq] at e
  cases e
  exact hq _ rfl (s.set i r) (wipe_set hi)
theorem lcg_nil : LcGs G gNil gNilT vs := by
  intro ρ h H τ σ x v τ1 h1 Q m s r e hq
  cases x with
  | nil =>
    cases e
    exact ⟨r, hq σ rfl s rfl⟩
  | cons _ _ => cases e
theorem lcg_cons {g : TG} {gr : TGs} {gg : CV → Sl → M Sl} {ggr : List CV → Sl → M Sl} (h1 : LcG G g gg vs) (h2 : LcGs G gr ggr vs) : LcGs G (gCons g gr) (gConsT gg ggr) vs := by
  intro ρ h H τ σ x v τ1 h3 Q m s r e hq
  cases x with
  | nil => cases e
  | cons x xs =>
    obtain ⟨y, t, ev, r1, r2⟩ := r
    simp only [gConsT, bnd] at e
    cases q : gg x τ h with
    | ok τ2 h4 =>
      rw [q] at e
      refine ⟨y, t, ev, h1 ρ h H τ σ x y τ2 h4 _ m s r1 q fun σ2 eh s2 w2 => ?_⟩
      subst eh
      exact h2 ρ h4 H τ2 σ2 xs t τ1 h3 Q m s2 r2 e fun σ3 eh3 s3 w3 => hq σ3 eh3 s3 (w3.trans w2)
    | exc _ _ => rw [q] at e; cases e
    | bad => rw [q] at e; cases e
theorem lcg_unp {g : TGs} {gg : List CV → Sl → M Sl} {n : Nat} (h : LcGs G g gg vs) : LcG G (gTup G.K n g) (gUnp n gg) vs := by
  intro ρ h0 H τ σ x v τ1 h1 Q m s r e hq
  cases x with
  | tup xs =>
    obtain ⟨a, ys, ev, z, r⟩ := r
    simp only [gUnp] at e
    by_cases hl : xs.length = n
    · rw [if_pos hl] at e
      exact ⟨a, ys, ev, z, by rw [← r.len, hl], h ρ h0 H τ σ xs ys τ1 h1 Q m s r e hq⟩
    · rw [if_neg hl] at e; cases e
  | _ => cases e
end
mutual
theorem ValR.unhid {G : Cfg} {D : Addr} {d r : List Addr} {H : Hp} : ∀ {x : CV} {v : V}, ValR G ⟨D :: d, r⟩ H x v → ValR G ⟨d, r⟩ H x v
  | .non, _, r => r
  | .bl _, _, r => r
  | .int _, _, r => r
  | .str _, _, r => r
  | .cls _, _, r => r
  | .fn _, _, r => r
  | .ty _, _, r => r
  | .ref l, _, r => r
  | .tup xs, _, ⟨x, ys, e, s, r⟩ => ⟨x, ys, e, s, ValsR.unhid r⟩
  | .lst xs, _, ⟨x, ys, e, n, s, r⟩ => ⟨x, ys, e, fun z => n (z.elim .inl fun z => .inr (List.mem_cons_of_mem _ z)), s, ValsR.unhid r⟩
  | .frz xs, _, ⟨x, ys, e, s, r⟩ => ⟨x, ys, e, s.elim (fun ⟨n, s⟩ => .inl ⟨fun z => n (z.elim .inl fun z => .inr (List.mem_cons_of_mem _ z)), s⟩) .inr, ValsR.unhid r⟩
theorem ValsR.unhid {G : Cfg} {D : Addr} {d r : List Addr} {H : Hp} : ∀ {xs : List CV} {vs : List V}, ValsR G ⟨D :: d, r⟩ H xs vs → ValsR G ⟨d, r⟩ H xs vs
  | [], _, r => r
  | x :: xs, _, ⟨y, r, e, q, s⟩ => ⟨y, r, e, ValR.unhid q, ValsR.unhid s⟩
end
theorem MemR.unhid {G : Cfg} {D : Addr} {d r : List Addr} {h : Mem} {H : Hp} (m : MemR G ⟨D :: d, r⟩ h H) : MemR G ⟨d, r⟩ h H where
  len := m.len
  nd := m.nd
  obj := fun i a co e1 e2 => by
    have q := m.obj i a co e1 e2
    cases co with
    | lst xs =>
      obtain ⟨ys, w, z⟩ := q
      exact ⟨ys, w, z.unhid⟩
    | none_ => exact q.elim
  hid := fun a ha => m.hid a (List.mem_cons_of_mem _ ha)
  tab := m.tab
mutual
theorem ValR.unhidN {G : Cfg} {D : Addr} {d r : List Addr} {H : Hp} : ∀ {x : CV} {v : V}, ValR G ⟨D :: d, r⟩ H x v → ValR G ⟨d, r ++ [D]⟩ H x v
  | .non, _, r => r
  | .bl _, _, r => r
  | .int _, _, r => r
  | .str _, _, r => r
  | .cls _, _, r => r
  | .fn _, _, r => r
  | .ty _, _, r => r
  | .ref l, _, ⟨a, e, q⟩ => ⟨a, by
    have hi : l < r.length := (List.getElem?_eq_some_iff.mp e).1
    show (r ++ [D])[l]? = some a
    rw [List.getElem?_append_left hi]; exact e, q⟩
  | .tup xs, _, ⟨x, ys, e, s, r⟩ => ⟨x, ys, e, s, ValsR.unhidN r⟩
  | .lst xs, _, ⟨x, ys, e, n, s, q⟩ => ⟨x, ys, e, fun z => n (by
    rcases z with z | z
    · rcases List.mem_append.mp z with z | z
      · exact .inl z
      · exact .inr (List.mem_singleton.mp z ▸ List.mem_cons_self)
    · exact .inr (List.mem_cons_of_mem _ z)), s, ValsR.unhidN q⟩
  | .frz xs, _, ⟨x, ys, e, s, q⟩ => ⟨x, ys, e, s.elim (fun ⟨n, s⟩ => .inl ⟨fun z => n (by
    rcases z with z | z
    · rcases List.mem_append.mp z with z | z
      · exact .inl z
      · exact .inr (List.mem_singleton.mp z ▸ List.mem_cons_self)
    · exact .inr (List.mem_cons_of_mem _ z)), s⟩) .inr, ValsR.unhidN q⟩
theorem ValsR.unhidN {G : Cfg} {D : Addr} {d r : List Addr} {H : Hp} : ∀ {xs : List CV} {vs : List V}, ValsR G ⟨D :: d, r⟩ H xs vs → ValsR G ⟨d, r ++ [D]⟩ H xs vs
  | [], _, r => r
  | x :: xs, _, ⟨y, r, e, q, s⟩ => ⟨y, r, e, ValR.unhidN q, ValsR.unhidN s⟩
end
/-- a hidden object comes into the memory -/
theorem MemR.unhidN {G : Cfg} {D : Addr} {d r : List Addr} {h : Mem} {H : Hp} {ys : List CV} {us : List V} (m : MemR G ⟨D :: d, r⟩ h H) (v : ValsR G ⟨D :: d, r⟩ H ys us) (e : H D = some (.lst us)) (hn : D ∉ d) : MemR G ⟨d, r ++ [D]⟩ (h ++ [.lst ys]) H where
  len := by simp [m.len, show r.length = h.length from m.len]
  nd := by
    refine List.nodup_append.mpr ⟨m.nd, by simp, fun a ha b hb => ?_⟩
    rw [List.mem_singleton.mp hb]
    intro z
    exact (m.hid D List.mem_cons_self).2 (z ▸ ha)
  obj := fun i a co e1 e2 => by
    have hl : r.length = h.length := m.len
    by_cases hi : i < r.length
    · rw [List.getElem?_append_left hi] at e1
      rw [List.getElem?_append_left (by omega)] at e2
      have q := m.obj i a co e1 e2
      cases co with
      | lst xs =>
        obtain ⟨zs, w, z⟩ := q
        exact ⟨zs, w, z.unhidN⟩
      | none_ => exact q.elim
    · rw [List.getElem?_append_right (by omega)] at e1
      rw [List.getElem?_append_right (by omega)] at e2
      have h0 : i - r.length = 0 := by
        cases q : i - r.length with
        | zero => rfl
        | succ n => rw [q] at e1; simp at e1
      rw [h0] at e1
      rw [← hl, h0] at e2
      simp only [List.getElem?_cons_zero, Option.some.injEq] at e1 e2
      subst e1 e2
      exact ⟨us, e, v.unhidN⟩
  hid := fun a ha => by
    obtain ⟨q, n⟩ := m.hid a (List.mem_cons_of_mem _ ha)
    refine ⟨q, fun z => ?_⟩
    rcases List.mem_append.mp z with z | z
    · exact n z
    · exact hn (List.mem_singleton.mp z ▸ ha)
  tab := m.tab
/-- a new object is hidden -/
theorem MemR.hide {G : Cfg} {ρ : Wd} {h : Mem} {H : Hp} {D : Addr} {ys : List V} (m : MemR G ρ h H) (hD : H D = none) : MemR G ⟨D :: ρ.d, ρ.r⟩ h (upd H D (.lst ys)) where
  len := m.len
  nd := m.nd
  obj := fun i a co e1 e2 => by
    have q := m.obj i a co e1 e2
    have ex : ExtH ρ H ⟨D :: ρ.d, ρ.r⟩ (upd H D (.lst ys)) := ⟨fun a ha => by
      rcases List.mem_cons.mp ha with z | z
      · exact .inr (z ▸ hD)
      · exact .inl z, fun _ _ e => e, fun a u e _ _ => by rw [upd_ne (ne_of_none e hD)]; exact e, fun _ e => .inl e⟩
    cases co with
    | lst xs =>
      obtain ⟨zs, w, z⟩ := q
      exact ⟨zs, by rw [upd_ne (ne_of_none w hD)]; exact w, z.extH m ex⟩
    | none_ => exact q.elim
  hid := fun a ha => by
    rcases List.mem_cons.mp ha with z | z
    · subst z
      exact ⟨⟨ys, upd_same⟩, fun z => m.free hD (.inl z)⟩
    · obtain ⟨⟨zs, q⟩, n⟩ := m.hid a z
      exact ⟨⟨zs, by rw [upd_ne (ne_of_none q hD)]; exact q⟩, n⟩
  tab := tabs_laid m.tab hD
/-- a hidden object is written -/
theorem MemR.hidwr {G : Cfg} {ρ : Wd} {h : Mem} {H : Hp} {D : Addr} {ys : List V} (m : MemR G ρ h H) (hD : D ∈ ρ.d) : MemR G ρ h (upd H D (.lst ys)) where
  len := m.len
  nd := m.nd
  obj := fun i a co e1 e2 => by
    have q := m.obj i a co e1 e2
    refine objR_wr (.inr hD) (m.hid D hD).1 (fun z => ?_) q
    exact (m.hid D hD).2 (z ▸ List.mem_of_getElem? e1)
  hid := fun a ha => by
    obtain ⟨⟨zs, q⟩, n⟩ := m.hid a ha
    refine ⟨?_, n⟩
    by_cases e : a = D
    · rw [e]; exact ⟨ys, upd_same⟩
    · exact ⟨zs, by rw [upd_ne e]; exact q⟩
  tab := tabs_wr m.tab (m.hid D hD).1
abbrev W0 : WX := fun _ _ _ _ => False
theorem lc_core' {G : Cfg} {W' : Wd → Mem → List CV → Hp → Prop} {g : TG} {gg : CV → Sl → M Sl} {tt : Sl → M Bool} {te : Sl → M CV} {vs : List Nat} {τ : Sl} {σ : L2.St} {ρ1 : Wd} {H1 : Hp} {h1 : Mem} {J : It} {xs : List CV} {D : Addr} {Q : VK}
    (m1 : MemR G ρ1 h1 H1) (s1 : SlR G ρ1 H1 τ σ) (r1 : ItR G ρ1 H1 J xs) (hD : H1 D = none) (hg : LcG G g gg vs) (hl : xs.length ≤ 1000000) {ys : List CV} {hf : Mem} (e : lcR gg tt te (wipeC τ vs) xs h1 = .ok ys hf)
    (fin : ∀ r H us, MemR G ⟨D :: ρ1.d, r⟩ hf H → Ext ρ1 H1 ⟨ρ1.d, r⟩ H → H D = some (.lst us) → ValsR G ⟨D :: ρ1.d, r⟩ H ys us → Q (.ref D) H) :
    ∃ W : Nat → Nat → Hp → Prop, (∃ m, W 0 m (upd H1 D (.lst []))) ∧ ∀ i m H, W i m H →
      (J.stop i H ∧ Q (.ref D) H) ∨ (J.go i H ∧ ∃ Nx : Hp → Prop, (∀ H', Nx H' → ∃ m', m' < m ∧ W (i + 1) m' H') ∧ ∀ x H', J.yld i H x H' → g x (L2.wipe σ vs) H' fun σ2 H2 => L2.wipe σ2 vs = L2.wipe σ vs ∧ tBo G W0 tt σ2 H2 fun b H3 =>
        if b = true then tV G W0 te σ2 H3 fun y H4 => ∃ acc, H4 D = some (.lst acc) ∧ acc.length < sizeLine ∧ Nx (upd H4 D (.lst (acc ++ [y]))) else Nx H3) := by
  refine ⟨fun i n H => i + n = xs.length ∧ ∃ r h done acc rest, MemR G ⟨D :: ρ1.d, r⟩ h H ∧ Ext ρ1 H1 ⟨ρ1.d, r⟩ H ∧ H D = some (.lst acc) ∧ ValsR G ⟨D :: ρ1.d, r⟩ H done acc ∧ done.length ≤ i ∧ lcR gg tt te (wipeC τ vs) (xs.drop i) h = .ok rest hf ∧ ys = done ++ rest, ⟨xs.length, Nat.zero_add _, ρ1.r, h1, [], [], ys, m1.hide hD, Ext.laid hD, upd_same, rfl, Nat.le_refl _, e, rfl⟩, ?_⟩
  rintro i n H ⟨hin, r, h, done, acc, rest, m, ex, hacc, rd, hdl, el, ey⟩
  have exH : ExtH ρ1 H1 ⟨D :: ρ1.d, r⟩ H := ⟨fun a ha => by
    rcases List.mem_cons.mp ha with z | z
    · exact .inr (z ▸ hD)
    · exact .inl z, ex.pre, ex.keep, ex.new⟩
  obtain ⟨go, stop, yld⟩ := r1 _ h H m exH
  have hDd : D ∈ (⟨D :: ρ1.d, r⟩ : Wd).d := List.mem_cons_self
  have hDr : D ∉ r := (m.hid D hDd).2
  cases n with
  | zero =>
    have ei : i = xs.length := by omega
    subst ei
    rw [List.drop_length] at el
    cases el
    rw [List.append_nil] at ey
    subst ey
    exact .inl ⟨stop, fin r H acc m ex hacc rd⟩
  | succ n =>
    have hlt : i < xs.length := by omega
    rw [List.drop_eq_getElem_cons hlt] at el
    simp only [lcR] at el
    -- what is kept on the way to the end of the turn
    have fin' : ∀ (ρ4 : Wd) (h4 : Mem) (H4 : Hp), MemR G ρ4 h4 H4 → Ext ⟨D :: ρ1.d, r⟩ H ρ4 H4 → ρ4.d = D :: ρ1.d ∧ H4 D = some (.lst acc) ∧ Ext ρ1 H1 ⟨ρ1.d, ρ4.r⟩ H4 := fun ρ4 h4 H4 m4 e4 => by
      refine ⟨e4.hid, e4.keep D _ hacc hDr (fun _ z => by cases z), rfl, fun i a q => e4.pre i a (ex.pre i a q), fun a o q n t => ?_, fun a ps q => ?_, fun a q => ?_⟩
      · refine e4.keep a o (ex.keep a o q n t) (fun z => ?_) t
        rcases ex.new a z with z | z
        · exact n z
        · rw [q] at z; cases z
      · obtain ⟨p1, q1⟩ := ex.tbl a ps q
        exact e4.tbl a p1 q1
      · rcases e4.new a q with z | z
        · exact ex.new a z
        · by_cases hx : a ∈ ρ1.r
          · exact .inl hx
          · cases q1 : H1 a with
            | none => exact .inr rfl
            | some o => exact absurd z (ex.there q1 hx)
    refine .inr ⟨go i hlt, fun H' => i + 1 + n = xs.length ∧ ∃ r h done acc rest, MemR G ⟨D :: ρ1.d, r⟩ h H' ∧ Ext ρ1 H1 ⟨ρ1.d, r⟩ H' ∧ H' D = some (.lst acc) ∧ ValsR G ⟨D :: ρ1.d, r⟩ H' done acc ∧ done.length ≤ i + 1 ∧ lcR gg tt te (wipeC τ vs) (xs.drop (i + 1)) h = .ok rest hf ∧ ys = done ++ rest, fun H' q => ⟨n, Nat.lt_succ_self n, q⟩, fun u H' y => ?_⟩
    obtain ⟨m', e', r'⟩ := yld i xs[i] u H' (by simp [hlt]) y
    have s' : SlR G ⟨D :: ρ1.d, r⟩ H' (wipeC τ vs) (L2.wipe σ vs) := by
      have q : SlR G ⟨D :: ρ1.d, r⟩ H τ σ := ⟨s1.1, fun i v q => let ⟨u, a, b⟩ := s1.2 i v q; ⟨u, a, b.extH m1 exH⟩⟩
      exact (q.ext m e').wipe vs
    cases q : gg xs[i] (wipeC τ vs) h with
    | ok τ1 h2 =>
      rw [q] at el
      refine hg _ h H' _ _ _ u τ1 h2 _ m' s' r' q fun σ2 eh s2 w2 => ?_
      subst eh
      refine ⟨w2.trans wipe_wipe, ⟨_, h2, τ1, m', s2, ?_⟩⟩
      simp only at el
      cases q2 : tt τ1 h2 with
      | ok b h3 =>
        rw [q2] at el
        intro ρ3 H3 b' m3 e3 eb
        subst eb
        have s3 := s2.ext m' e3
        cases b with
        | true =>
          rw [if_pos rfl]
          simp only at el
          refine ⟨ρ3, h3, τ1, m3, s3, ?_⟩
          cases q3 : te τ1 h3 with
          | ok z h4 =>
            rw [q3] at el
            simp only at el
            intro ρ4 H4 w m4 e4 r4
            obtain ⟨f1, f2, f3⟩ := fin' ρ4 h4 H4 m4 (e'.trans (e3.trans e4))
            obtain ⟨d4, r4'⟩ := ρ4
            cases f1
            have hacl : acc.length ≤ i := by rw [← rd.len]; exact hdl
            refine ⟨acc, f2, by rw [sizeLine_eq]; omega, by omega, r4', h4, done ++ [z], acc ++ [w], ?_⟩
            cases q4 : lcR gg tt te (wipeC τ vs) (xs.drop (i + 1)) h4 with
            | ok zs h5 =>
              rw [q4] at el
              cases el
              refine ⟨zs, m4.hidwr List.mem_cons_self, ?_, upd_same, ?_, by simp; omega, rfl, by rw [ey, List.append_assoc]; rfl⟩
              · refine ⟨rfl, f3.pre, fun a o z n t => ?_, fun a ps z => ?_, f3.new⟩
                · rw [upd_ne (ne_of_none z hD)]
                  exact f3.keep a o z n t
                · rw [upd_ne (ne_of_none z hD)]
                  exact f3.tbl a ps z
              · exact ((rd.ext m (e'.trans (e3.trans e4))).app (show ValsR G _ H4 [z] [w] from ⟨w, [], rfl, r4, rfl⟩)).wr (.inr List.mem_cons_self) ⟨_, f2⟩
            | exc _ _ => rw [q4] at el; cases el
            | bad => rw [q4] at el; cases el
          | exc _ _ => rw [q3] at el; cases el
          | bad => rw [q3] at el; cases el
        | false =>
          rw [if_neg Bool.false_ne_true]
          simp only at el
          obtain ⟨f1, f2, f3⟩ := fin' ρ3 h3 H3 m3 (e'.trans e3)
          obtain ⟨d3, r3⟩ := ρ3
          cases f1
          exact ⟨by omega, r3, h3, done, acc, rest, m3, f3, f2, rd.ext m (e'.trans e3), by omega, el, ey⟩
      | exc _ _ => rw [q2] at el; cases el
      | bad => rw [q2] at el; cases el
    | exc _ _ => rw [q] at el; cases el
    | bad => rw [q] at el; cases el
/-- frozen -/
def eLc (it : Sl → M (List CV)) (g : CV → Sl → M Sl) (tt : Sl → M Bool) (te : Sl → M CV) (vs : List Nat) : Sl → M CV := fun τ => bnd (it τ) fun xs h =>
  if xs.length ≤ 1000000 then match lcL g tt te (wipeC τ vs) xs h with
    | .ok ys h' => .ok (.lst ys) h'
    | _ => .bad
  else .bad
/-- written later -/
def eLcN (it : Sl → M (List CV)) (g : CV → Sl → M Sl) (tt : Sl → M Bool) (te : Sl → M CV) (vs : List Nat) : Sl → M CV := fun τ => bnd (it τ) fun xs h =>
  if xs.length ≤ 1000000 then match lcL g tt te (wipeC τ vs) xs h with
    | .ok ys h' => frN h'.length fun n => sapp h' [.lst ys] fun h'' => .ok (.ref n) h''
    | _ => .bad
  else .bad
theorem lc_red {G : Cfg} {W : WX} {it : Sl → M (List CV)} {g : TG} {gg : CV → Sl → M Sl} {tt : Sl → M Bool} {te : Sl → M CV} {vs : List Nat} (hg : LcG G g gg vs) {σ : L2.St} {H : Hp} {Q : VK} (q : tV G W (eLc it gg tt te vs) σ H Q) : tLc (tIt G W it) g (tBo G W0 tt) (tV G W0 te) vs σ H Q := by
  obtain ⟨ρ, h, τ, m, s, p⟩ := q
  refine tM_bind m s p fun xs h1 ρ1 H1 J m1 e1 s1 r1 p1 D hD => ?_
  by_cases hl : xs.length ≤ 1000000
  · rw [if_pos hl] at p1
    rw [lcL_eq] at p1
    cases e : lcR gg tt te (wipeC τ vs) xs h1 with
    | ok ys hf =>
      rw [e] at p1
      refine lc_core' (W' := fun _ _ _ _ => True) m1 s1 r1 hD hg hl e fun r H2 us m2 e2 hus rus => ?_
      refine p1 ⟨ρ1.d, r⟩ H2 _ m2.unhid e2 ⟨D, us, rfl, fun z => ?_, hus, rus.unhid⟩
      rcases z with z | z
      · exact (m2.hid D List.mem_cons_self).2 z
      · obtain ⟨⟨_, w⟩, _⟩ := m1.hid D z
        rw [hD] at w; cases w
    | exc _ _ => rw [e] at p1; exact p1.elim
    | bad => rw [e] at p1; exact p1.elim
  · rw [if_neg hl] at p1; exact p1.elim
theorem lc_redN {G : Cfg} {W : WX} {it : Sl → M (List CV)} {g : TG} {gg : CV → Sl → M Sl} {tt : Sl → M Bool} {te : Sl → M CV} {vs : List Nat} (hg : LcG G g gg vs) {σ : L2.St} {H : Hp} {Q : VK} (q : tV G W (eLcN it gg tt te vs) σ H Q) : tLc (tIt G W it) g (tBo G W0 tt) (tV G W0 te) vs σ H Q := by
  obtain ⟨ρ, h, τ, m, s, p⟩ := q
  refine tM_bind m s p fun xs h1 ρ1 H1 J m1 e1 s1 r1 p1 D hD => ?_
  by_cases hl : xs.length ≤ 1000000
  · rw [if_pos hl] at p1
    rw [lcL_eq] at p1
    cases e : lcR gg tt te (wipeC τ vs) xs h1 with
    | ok ys hf =>
      rw [e] at p1
      simp only [frN_eq, sapp_eq] at p1
      refine lc_core' (W' := fun _ _ _ _ => True) m1 s1 r1 hD hg hl e fun r H2 us m2 e2 hus rus => ?_
      have nD : D ∉ r := (m2.hid D List.mem_cons_self).2
      have ndd : D ∉ ρ1.d := fun z => by
        obtain ⟨⟨_, w⟩, _⟩ := m1.hid D z
        rw [hD] at w; cases w
      refine p1 ⟨ρ1.d, r ++ [D]⟩ H2 _ (m2.unhidN rus hus ndd) ?_ ⟨D, ?_, rfl⟩
      · refine ⟨rfl, fun i a z => ?_, e2.keep, e2.tbl, fun a z => ?_⟩
        · have z2 := e2.pre i a z
          have hi : i < r.length := (List.getElem?_eq_some_iff.mp z2).1
          show (r ++ [D])[i]? = some a
          rw [List.getElem?_append_left hi]; exact z2
        · rcases List.mem_append.mp z with z | z
          · exact e2.new a z
          · rw [List.mem_singleton.mp z]; exact .inr hD
      · show (r ++ [D])[hf.length]? = some D
        rw [← m2.len]; simp
    | exc _ _ => rw [e] at p1; exact p1.elim
    | bad => rw [e] at p1; exact p1.elim
  · rw [if_neg hl] at p1; exact p1.elim

theorem _root_.L2.PTs.wk {X : Cx} {e : List Expr} {t t' : TT} (h : PTs X e t) (w : ∀ σ H Q, t' σ H Q → t σ H Q) : PTs X e t' := ⟨fun pins s σ H Q I q => h.run pins s σ H Q I (w σ H Q q)⟩
def bYes : Sl → M Bool := fun _ => ret true
section
variable {G : Cfg} {W : WX} {X : Cx} {pos : Pos}
theorem sts_nil : PTs X [] (tBo G W bYes) := pts_nil.wk fun σ H Q ⟨ρ, h, τ, m, s, p⟩ => p ρ H true m Ext.refl rfl
theorem sts_one {c : Expr} {t : Sl → M Bool} (h : ST G W X c t) : PTs X [c] (tBo G W t) := pts_one h
abbrev Blk (X : Cx) (scope : Scope) (f : Cx → Prop) : Prop := ∀ (s : Shared) (H : Hp) (C : Addr) (cl : List (Str × Addr)) (fp : List Addr), f (X.blk s H scope (compEnvC scope cl C X.env) fp)
theorem se_lc {elt tg iter : Expr} {ifs : List Expr} {scope : Scope} {own : List (Str × Nat)} {it : Sl → M (List CV)} {g : TG} {gg : CV → Sl → M Sl} {tt : Sl → M Bool} {te : Sl → M CV} (hc : X.calm = true) (hN : X.N.Nodup) (hi : SI G W X tg iter it) (ok : BlkOk X.N X.env.scope scope own)
    (hgg : LcG G g gg (own.map (·.2))) (hg : Blk X scope fun Y => PG Y tg g) (ht : Blk X scope fun Y => PTs Y ifs (tBo G W0 tt)) (he : Blk X scope fun Y => SE G W0 Y elt te) (hs : ∀ x, foldedSetIterable iter X.env x = pure x := by intro _; rfl) :
    SE G W X (.ListComp elt [⟨tg, iter, ifs, 0⟩] scope pos) (eLc it gg tt te (own.map (·.2))) := (pe_lc hc hN hi ok hg ht he hs).wk fun σ H Q q => lc_red hgg q
theorem se_lcN {elt tg iter : Expr} {ifs : List Expr} {scope : Scope} {own : List (Str × Nat)} {it : Sl → M (List CV)} {g : TG} {gg : CV → Sl → M Sl} {tt : Sl → M Bool} {te : Sl → M CV} (hc : X.calm = true) (hN : X.N.Nodup) (hi : SI G W X tg iter it) (ok : BlkOk X.N X.env.scope scope own)
    (hgg : LcG G g gg (own.map (·.2))) (hg : Blk X scope fun Y => PG Y tg g) (ht : Blk X scope fun Y => PTs Y ifs (tBo G W0 tt)) (he : Blk X scope fun Y => SE G W0 Y elt te) (hs : ∀ x, foldedSetIterable iter X.env x = pure x := by intro _; rfl) :
    SE G W X (.ListComp elt [⟨tg, iter, ifs, 0⟩] scope pos) (eLcN it gg tt te (own.map (·.2))) := (pe_lc hc hN hi ok hg ht he hs).wk fun σ H Q q => lc_redN hgg q
/-- name = [..] -/
theorem asg_red {te : TE} {me : Sl → M CV} {i : Nat} (w : ∀ σ H Q, tV G W me σ H Q → te σ H Q) {D : Ends} {σ : L2.St} {H : Hp} (q : tS G W (mAsg (gSet i) me) D σ H) : tAsg te (gName i) D σ H := by
  obtain ⟨ρ, h, τ, m, s, p⟩ := q
  exact w σ H _ (tM_inS m s p fun x h1 ρ1 H1 u m1 e1 s1 r1 p1 => by
    rw [gSet_eq] at p1
    exact p1 ρ1 H1 _ m1 Ext.refl (s1.set i r1))
theorem ss_setLc {i : Nat} {y : Str} {py spos : Pos} {elt tg iter : Expr} {ifs : List Expr} {scope : Scope} {own : List (Str × Nat)} {it : Sl → M (List CV)} {g : TG} {gg : CV → Sl → M Sl} {tt : Sl → M Bool} {te : Sl → M CV} (hc : X.calm = true) (hN : X.N.Nodup) (hy : X.N[i]? = some y) (hyl : X.env.scope.names.lookup y = some .local)
    (hsw : swapsWith (.ListComp elt [⟨tg, iter, ifs, 0⟩] scope pos) (some (.Name y py)) spos.line X.env = pure true) (hi : SI G W X tg iter it) (ok : BlkOk X.N X.env.scope scope own)
    (hgg : LcG G g gg (own.map (·.2))) (hg : Blk X scope fun Y => PG Y tg g) (ht : Blk X scope fun Y => PTs Y ifs (tBo G W0 tt)) (he : Blk X scope fun Y => SE G W0 Y elt te) (hs : ∀ x, foldedSetIterable iter X.env x = pure x := by intro _; rfl) :
    SS G W X (.Assign [.Name y py] (.ListComp elt [⟨tg, iter, ifs, 0⟩] scope pos) spos) (mAsg (gSet i) (eLc it gg tt te (own.map (·.2)))) := (ps_setLc hc hN hy hyl hsw hi ok hg ht he hs).wk fun D σ H q => asg_red (fun σ H Q q => lc_red hgg q) q
theorem ss_setLcN {i : Nat} {y : Str} {py spos : Pos} {elt tg iter : Expr} {ifs : List Expr} {scope : Scope} {own : List (Str × Nat)} {it : Sl → M (List CV)} {g : TG} {gg : CV → Sl → M Sl} {tt : Sl → M Bool} {te : Sl → M CV} (hc : X.calm = true) (hN : X.N.Nodup) (hy : X.N[i]? = some y) (hyl : X.env.scope.names.lookup y = some .local)
    (hsw : swapsWith (.ListComp elt [⟨tg, iter, ifs, 0⟩] scope pos) (some (.Name y py)) spos.line X.env = pure true) (hi : SI G W X tg iter it) (ok : BlkOk X.N X.env.scope scope own)
    (hgg : LcG G g gg (own.map (·.2))) (hg : Blk X scope fun Y => PG Y tg g) (ht : Blk X scope fun Y => PTs Y ifs (tBo G W0 tt)) (he : Blk X scope fun Y => SE G W0 Y elt te) (hs : ∀ x, foldedSetIterable iter X.env x = pure x := by intro _; rfl) :
    SS G W X (.Assign [.Name y py] (.ListComp elt [⟨tg, iter, ifs, 0⟩] scope pos) spos) (mAsg (gSet i) (eLcN it gg tt te (own.map (·.2)))) := (ps_setLc hc hN hy hyl hsw hi ok hg ht he hs).wk fun D σ H q => asg_red (fun σ H Q q => lc_redN hgg q) q
end
end VE

noncomputable section
namespace VE
open PySem PySem.Spec PyProof.Rows L2

mutual
def noRef : CV → Bool
  | .ref _ => false
  | .tup xs => noRefs xs
  | .lst xs => noRefs xs
  | .frz xs => noRefs xs
  | _ => true
def noRefs : List CV → Bool
  | [] => true
  | x :: xs => noRef x && noRefs xs
end
mutual
/-- no list within -/
def scal : CV → Bool
  | .ref _ => false
  | .lst _ => false
  | .frz _ => false
  | .tup xs => scals xs
  | _ => true
def scals : List CV → Bool
  | [] => true
  | x :: xs => scal x && scals xs
end
def mapO (f : CV → Option CV) : List CV → Option (List CV)
  | [] => some []
  | x :: xs => match f x, mapO f xs with
    | some y, some ys => some (y :: ys)
    | _, _ => none
/-- the memory's lists as lists that nobody writes -/
def frzV : Nat → Mem → CV → Option CV
  | 0, _, _ => none
  | n + 1, h, x => match x with
    | .ref l => match memAt h l with
      | some xs => match mapO (frzV n h) xs with
        | some ys => some (.lst ys)
        | none => none
      | none => none
    | .tup xs => match mapO (frzV n h) xs with
      | some ys => some (.tup ys)
      | none => none
    | .lst xs => match mapO (frzV n h) xs with
      | some ys => some (.lst ys)
      | none => none
    | .frz xs => match mapO (frzV n h) xs with
      | some ys => some (.frz ys)
      | none => none
    | x => some x
theorem mapO_r {G : Cfg} {ρ ρ' : Wd} {H : Hp} {f : CV → Option CV} (hf : ∀ x y u, f x = some y → ValR G ρ H x u → ValR G ρ' H y u) : ∀ {xs ys : List CV} {us : List V}, mapO f xs = some ys → ValsR G ρ H xs us → ValsR G ρ' H ys us
  | [], _, _, e, r => by cases e; exact r
  | x :: xs, ys, us, e, ⟨u, t, eu, r1, r2⟩ => by
    unfold mapO at e
    cases q : f x with
    | none => simp [q] at e
    | some y =>
      cases q2 : mapO f xs with
      | none => simp [q, q2] at e
      | some zs =>
        simp only [q, q2, Option.some.injEq] at e
        subst e
        exact ⟨u, t, eu, hf x y u q r1, mapO_r hf q2 r2⟩
/-- with all that is written hidden from the new world -/
theorem frzV_r {G : Cfg} {ρ : Wd} {h : Mem} {H : Hp} (m : MemR G ρ h H) (ρ' : Wd) (h1 : ∀ a, ρ'.has a → ¬ ρ.has a → H a = none) (h2 : ∀ a ∈ ρ.r, ¬ ρ'.has a) (h3 : ∀ a, ρ'.has a → ρ.has a) : ∀ (n : Nat) (x y : CV) (u : V), frzV n h x = some y → ValR G ρ H x u → ValR G ρ' H y u
  | 0, x, y, u, e, _ => by cases e
  | n + 1, x, y, u, e, r => by
    have ih := frzV_r m ρ' h1 h2 h3 n
    unfold frzV at e
    cases x with
    | ref l =>
      obtain ⟨a, q, eu⟩ := r
      simp only at e
      cases hc : memAt h l with
      | none => simp [hc] at e
      | some xs =>
        simp only [hc] at e
        obtain ⟨us, w, rr⟩ := m.obj l a _ q (memAt_some hc)
        cases q2 : mapO (frzV n h) xs with
        | none => simp [q2] at e
        | some ys =>
          simp only [q2, Option.some.injEq] at e
          subst e
          exact ⟨a, us, eu, h2 a (List.mem_of_getElem? q), w, mapO_r ih q2 rr⟩
    | tup xs =>
      obtain ⟨a, us, eu, s, rr⟩ := r
      simp only at e
      cases q2 : mapO (frzV n h) xs with
      | none => simp [q2] at e
      | some ys =>
        simp only [q2, Option.some.injEq] at e
        subst e
        exact ⟨a, us, eu, s, mapO_r ih q2 rr⟩
    | lst xs =>
      obtain ⟨a, us, eu, nn, s, rr⟩ := r
      simp only at e
      cases q2 : mapO (frzV n h) xs with
      | none => simp [q2] at e
      | some ys =>
        simp only [q2, Option.some.injEq] at e
        subst e
        exact ⟨a, us, eu, fun z => nn (h3 a z), s, mapO_r ih q2 rr⟩
    | frz xs =>
      obtain ⟨a, us, eu, s, rr⟩ := r
      simp only at e
      cases q2 : mapO (frzV n h) xs with
      | none => simp [q2] at e
      | some ys =>
        simp only [q2, Option.some.injEq] at e
        subst e
        exact ⟨a, us, eu, s.elim (fun ⟨nn, s⟩ => .inl ⟨fun z => nn (h3 a z), s⟩) .inr, mapO_r ih q2 rr⟩
    | non => cases e; exact r
    | bl b => cases e; exact r
    | int i => cases e; exact r
    | str z => cases e; exact r
    | cls k => cases e; exact r
    | fn k => cases e; exact r
    | ty k => cases e; exact r
mutual
/-- a value without the memory does not know the world, but for what may be in it -/
theorem noRef_r {G : Cfg} {ρ ρ' : Wd} {H : Hp} (h3 : ∀ a, ρ'.has a → ρ.has a) : ∀ {x : CV} {u : V}, noRef x = true → ValR G ρ H x u → ValR G ρ' H x u
  | .non, _, _, r => r
  | .bl _, _, _, r => r
  | .int _, _, _, r => r
  | .str _, _, _, r => r
  | .cls _, _, _, r => r
  | .fn _, _, _, r => r
  | .ty _, _, _, r => r
  | .ref l, _, e, _ => by simp [noRef] at e
  | .tup xs, _, e, ⟨a, us, eu, s, rr⟩ => ⟨a, us, eu, s, noRefs_r h3 (by simpa [noRef] using e) rr⟩
  | .lst xs, _, e, ⟨a, us, eu, n, s, rr⟩ => ⟨a, us, eu, fun z => n (h3 a z), s, noRefs_r h3 (by simpa [noRef] using e) rr⟩
  | .frz xs, _, e, ⟨a, us, eu, s, rr⟩ => ⟨a, us, eu, s.elim (fun ⟨nn, s⟩ => .inl ⟨fun z => nn (h3 a z), s⟩) .inr, noRefs_r h3 (by simpa [noRef] using e) rr⟩
theorem noRefs_r {G : Cfg} {ρ ρ' : Wd} {H : Hp} (h3 : ∀ a, ρ'.has a → ρ.has a) : ∀ {xs : List CV} {us : List V}, noRefs xs = true → ValsR G ρ H xs us → ValsR G ρ' H xs us
  | [], _, _, r => r
  | x :: xs, _, e, ⟨u, t, eu, r1, r2⟩ => by
    simp only [noRefs, Bool.and_eq_true] at e
    exact ⟨u, t, eu, noRef_r h3 e.1 r1, noRefs_r h3 e.2 r2⟩
end
mutual
theorem scal_r {G : Cfg} {ρ ρ' : Wd} {H : Hp} : ∀ {x : CV} {u : V}, scal x = true → ValR G ρ H x u → ValR G ρ' H x u
  | .non, _, _, r => r
  | .bl _, _, _, r => r
  | .int _, _, _, r => r
  | .str _, _, _, r => r
  | .cls _, _, _, r => r
  | .fn _, _, _, r => r
  | .ty _, _, _, r => r
  | .ref l, _, e, _ => by simp [scal] at e
  | .tup xs, _, e, ⟨a, us, eu, s, rr⟩ => ⟨a, us, eu, s, scals_r (by simpa [scal] using e) rr⟩
  | .lst xs, _, e, _ => by simp [scal] at e
  | .frz xs, _, e, _ => by simp [scal] at e
theorem scals_r {G : Cfg} {ρ ρ' : Wd} {H : Hp} : ∀ {xs : List CV} {us : List V}, scals xs = true → ValsR G ρ H xs us → ValsR G ρ' H xs us
  | [], _, _, r => r
  | x :: xs, _, e, ⟨u, t, eu, r1, r2⟩ => by
    simp only [scals, Bool.and_eq_true] at e
    exact ⟨u, t, eu, scal_r e.1 r1, scals_r e.2 r2⟩
end
/-- f(e, ..) by plain values: f has a memory of its own -/
def callF (np : Nat) (F : List CV → M CV) (xs : List CV) : M CV := fun h =>
  if xs.length = np then
    if noRefs xs then match F xs [] with
      | .ok v h' => match frzV 9 h' v with
        | some v' => .ok v' h
        | none => .bad
      | .exc x h' => match mapO (frzV 9 h') x.args with
        | some ys => .exc ⟨x.cls, ys⟩ h
        | none => .bad
      | .bad => .bad
    else match mapO (frzV 9 h) xs with
      | some ys => match F ys [] with
        | .ok v _ => if scal v then .ok v h else .bad
        | .exc x _ => if scals x.args then .exc x h else .bad
        | .bad => .bad
      | none => .bad
  else .bad
theorem MemR.back {G : Cfg} {ρ ρ' : Wd} {h h' : Mem} {H H' : Hp} {d : List Addr} (m : MemR G ρ h H) (e : Ext ⟨d, []⟩ H ρ' H') (m' : MemR G ρ' h' H') : MemR G ρ h H' ∧ Ext ρ H ρ H' := by
  have ex : Ext ρ H ρ H' := ⟨rfl, fun _ _ q => q, fun a o q _ t => e.keep a o q (by simp) t, e.tbl, fun a q => .inl q⟩
  refine ⟨⟨m.len, m.nd, fun i a co e1 e2 => ?_, fun a ha => ?_, m'.tab⟩, ex⟩
  · have q := m.obj i a co e1 e2
    obtain ⟨ys, w⟩ := q.some
    exact objR_ext m ex ((e.keep a _ w (by simp) (fun _ z => by cases z)).trans w.symm) q
  · obtain ⟨⟨ys, w⟩, n⟩ := m.hid a ha
    exact ⟨⟨ys, e.keep a _ w (by simp) (fun _ z => by cases z)⟩, n⟩
theorem ExcR.of {G : Cfg} {ρ ρ' : Wd} {H : Hp} {k : Nat} {xs ys : List CV} {c : Value} {d : Option Addr} (h : ∀ us, ValsR G ρ H xs us → ValsR G ρ' H ys us) (hn : xs = [] → ys = []) (r : ExcR G ρ H ⟨k, xs⟩ c d) : ExcR G ρ' H ⟨k, ys⟩ c d := by
  obtain ⟨ec, r⟩ := r
  refine ⟨ec, ?_⟩
  rcases r with r | ⟨da, fs, e1, e2, e3, e4⟩
  · exact .inl (hn r)
  · exact .inr ⟨da, fs, e1, e2, e3, h _ e4⟩
theorem callF_ok {G : Cfg} {np : Nat} {F : List CV → M CV} {W : WX} {σ : L2.St} {ρ : Wd} {h : Mem} {H : Hp} {xs : List CV} {us : List V} {Q : VK} {E : XK} (m : MemR G ρ h H) (r : ValsR G ρ H xs us) (p : Post G W (ValR G) σ ρ H (callF np F xs h) Q) (hE : ∀ c d H', W c d σ H' → E c d H') : spH G np F us H Q E := by
  unfold callF at p
  by_cases hl : xs.length = np
  · rw [if_pos hl] at p
    refine ⟨r.len.symm.trans hl, ?_⟩
    by_cases hr : noRefs xs = true
    · rw [if_pos hr] at p
      have hh : ∀ a, (⟨ρ.r ++ ρ.d, []⟩ : Wd).has a ↔ ρ.has a := fun a => by
        unfold Wd.has
        simp
      have m0 : MemR G ⟨ρ.r ++ ρ.d, []⟩ [] H := ⟨rfl, List.nodup_nil, fun i a co e1 => by simp at e1, fun a ha => ⟨m.at_ (List.mem_append.mp ha), by simp⟩, m.tab⟩
      refine ⟨_, [], xs, m0, noRefs_r (fun a z => (hh a).mp z) hr r, ?_⟩
      cases e : F xs [] with
      | ok v h' =>
        rw [e] at p
        simp only at p
        cases q : frzV 9 h' v with
        | none => rw [q] at p; exact p.elim
        | some v' =>
          rw [q] at p
          intro ρ' H' u m' e' ru
          obtain ⟨mb, eb⟩ := m.back e' m'
          have hd := e'.hid
          refine p ρ H' u mb eb (frzV_r m' ρ (fun a h1 h2 => ?_) (fun a h1 h2 => ?_) (fun a h1 => ?_) 9 v v' u q ru)
          · exact absurd (.inr (by rw [hd]; exact List.mem_append.mpr h1)) h2
          · exact (m'.hid a (by rw [hd]; exact List.mem_append.mpr h2)).2 h1
          · exact .inr (by rw [hd]; exact List.mem_append.mpr h1)
      | exc x h' =>
        rw [e] at p
        simp only at p
        cases q : mapO (frzV 9 h') x.args with
        | none => rw [q] at p; exact p.elim
        | some ys =>
          rw [q] at p
          intro ρ' H' c d m' e' rx
          obtain ⟨mb, eb⟩ := m.back e' m'
          have hd := e'.hid
          refine hE _ _ _ (p ρ H' c d mb eb (ExcR.of (xs := x.args) (fun us ru => mapO_r (frzV_r m' ρ (fun a h1 h2 => ?_) (fun a h1 h2 => ?_) (fun a h1 => ?_) 9) q ru) (fun z => by rw [z] at q; cases q; rfl) rx))
          · exact absurd (.inr (by rw [hd]; exact List.mem_append.mpr h1)) h2
          · exact (m'.hid a (by rw [hd]; exact List.mem_append.mpr h2)).2 h1
          · exact .inr (by rw [hd]; exact List.mem_append.mpr h1)
      | bad => rw [e] at p; exact p.elim
    · rw [if_neg hr] at p
      cases q : mapO (frzV 9 h) xs with
      | none => rw [q] at p; exact p.elim
      | some ys =>
        rw [q] at p
        simp only at p
        have m0 : MemR G ⟨[], []⟩ [] H := ⟨rfl, List.nodup_nil, fun i a co e1 => by simp at e1, fun a ha => by simp at ha, m.tab⟩
        have nh : ∀ a, ¬ (⟨[], []⟩ : Wd).has a := fun a z => by
          rcases z with z | z <;> simp at z
        refine ⟨_, [], ys, m0, mapO_r (frzV_r m ⟨[], []⟩ (fun a z => absurd z (nh a)) (fun a _ => nh a) (fun a z => absurd z (nh a)) 9) q r, ?_⟩
        cases e : F ys [] with
        | ok v h' =>
          rw [e] at p
          simp only at p
          by_cases hs : scal v = true
          · rw [if_pos hs] at p
            intro ρ' H' u m' e' ru
            obtain ⟨mb, eb⟩ := m.back e' m'
            exact p ρ H' u mb eb (scal_r hs ru)
          · rw [if_neg hs] at p; exact p.elim
        | exc x h' =>
          rw [e] at p
          simp only at p
          by_cases hs : scals x.args = true
          · rw [if_pos hs] at p
            intro ρ' H' c d m' e' rx
            obtain ⟨mb, eb⟩ := m.back e' m'
            exact hE _ _ _ (p ρ H' c d mb eb (ExcR.of (xs := x.args) (fun us ru => scals_r hs ru) id rx))
          · rw [if_neg hs] at p; exact p.elim
        | bad => rw [e] at p; exact p.elim
  · rw [if_neg hl] at p; exact p.elim
section
variable {G : Cfg} {W : WX} {X : Cx} {k : Nat} {f : Addr} {fd : FuncData} {ps : List Str} {x : Str} {p pos : Pos} {e : Expr} {es : List Expr} {ml : Sl → M (List CV)} {F : List CV → M CV} {np : Nat}
theorem se_callF (B : Bx G W X) (ok : FnOk X.prog X.w X.K X.mg X.base (L2.CX X.prog X.w) k f fd ps (spH G np F)) (hr : Room k X.A) (hg : Gl X x) (hm : X.mg x = some (.ref f)) (hk : PySem.W.keepIn X.K (.ref f) = true) (hb : Binds X.K fd ps [])
    (ha : SA G W X (e :: es) ml) (hdb : (x == ("__debug__" : Str)) = false := by decide) (he : starEach (e :: es) X.env = (false, eval e X.env) :: starEach es X.env := by rfl) (hpl : (backTo pos (starEach es X.env)).any (·.1) = false := by rfl) :
    SE G W X (.Call (.Name x p) (e :: es) [] pos) (eB (callF np F) ml) :=
  (pe_callS ok hr hg hm hk hb (fun σ => passAt B.tk σ) ha hdb he hpl).wk fun σ H Q ⟨ρ, h, τ, m, s, p⟩ => tM_bind m s p fun xs h1 ρ1 H1 us m1 e1 s1 r1 p1 => callF_ok m1 r1 p1 fun _ _ _ z => z
end
end VE

noncomputable section
namespace VE
open PySem PySem.Spec PyProof.Rows L2

section
variable {G : Cfg} {W : WX} {X : Cx} {pos : Pos} {x : Str}
theorem se_glo {u : Value} {v : V} {c : CV} (hg : Gl X x) (hm : X.mg x = some u) (rv : RelV v u) (r : ∀ ρ H, ValR G ρ H c v) (hd : (x == ("__debug__" : Str)) = false := by decide) : SE G W X (.Name x pos) (eC c) :=
  se_const (pe_glob hg hm rv hd) r
theorem se_gint {i : Int} {t : Tok} (hg : Gl X x) (hm : X.mg x = some (.int i t)) (hd : (x == ("__debug__" : Str)) = false := by decide) : SE G W X (.Name x pos) (eC (.int i)) := se_glo (v := .int i) hg hm ⟨t, rfl⟩ (fun _ _ => rfl) hd
theorem se_gstr {z : Str} {t : Tok} (hg : Gl X x) (hm : X.mg x = some (.str z t)) (hd : (x == ("__debug__" : Str)) = false := by decide) : SE G W X (.Name x pos) (eC (.str z)) := se_glo (v := .str z) hg hm ⟨t, rfl⟩ (fun _ _ => rfl) hd
theorem se_ty {n : String} (hg : Gl X x) (hm : X.mg x = none) (hv : bootBuiltins x = some (.type n)) (hn : x ≠ "__name__" := by decide) (hd : (x == ("__debug__" : Str)) = false := by decide) : SE G W X (.Name x pos) (eC (.ty n)) :=
  se_const (pe_bltn (v := .ty n) hg hm hv rfl hn hd) fun _ _ => rfl
/-- a tuple of the text's own -/
theorem se_gtup {a : Addr} {xs : List CV} (hg : Gl X x) (hm : X.mg x = some (.ref a)) (hK : G.K = X.K) (r : ∀ ρ H, ValR G ρ H (.tup xs) (.ref a)) (hd : (x == ("__debug__" : Str)) = false := by decide) : SE G W X (.Name x pos) (eC (.tup xs)) := se_glo (v := .ref a) hg hm rfl r hd
end

inductive Knd where
  | non | bl | int | str | tup | lst
def Knd.name : Knd → String
  | .non => "NoneType"
  | .bl => "bool"
  | .int => "int"
  | .str => "str"
  | .tup => "tuple"
  | .lst => "list"
def kindOf : CV → Option Knd
  | .non => some .non
  | .bl _ => some .bl
  | .int _ => some .int
  | .str _ => some .str
  | .tup _ => some .tup
  | .lst _ => some .lst
  | .frz _ => some .lst
  | .ref _ => some .lst
  | _ => none
theorem kindOf_r {G : Cfg} {ρ : Wd} {h : Mem} {H : Hp} {x : CV} {u : V} {k : Knd} (m : MemR G ρ h H) (r : ValR G ρ H x u) (e : kindOf x = some k) : TyX G.K H u (.type k.name) := by
  cases x with
  | non => cases e; rw [show u = .non from r]; exact .base .non
  | bl b => cases e; rw [show u = .bl b from r]; exact .base (.bl b)
  | int b => cases e; rw [show u = .int b from r]; exact .base (.int b)
  | str b => cases e; rw [show u = .str b from r]; exact .base (.str b)
  | tup xs =>
    cases e
    obtain ⟨a, us, eu, s, _⟩ := r
    rw [eu]
    rcases s with (s | ⟨o, s⟩) | ⟨o, its, n, s, c, _⟩
    · exact .base (.tup s)
    · exact .fTuple s
    · exact .kTuple s c
  | lst xs =>
    cases e
    obtain ⟨a, us, eu, _, s, _⟩ := r
    rw [eu]
    exact .base (.lst s)
  | frz xs =>
    cases e
    obtain ⟨a, us, eu, s, _⟩ := r
    rw [eu]
    rcases s.l with (s | ⟨o, s⟩) | ⟨o, its, n, s, c, _⟩
    · exact .base (.lst s)
    · exact .base (.frz s)
    · exact .kList s c
  | ref l =>
    cases e
    obtain ⟨a, q, eu⟩ := r
    rw [eu]
    obtain ⟨ys, w⟩ := m.at_ (.inl (List.mem_of_getElem? q))
    exact .base (.lst w)
  | _ => cases e
def isK (f : Knd → Bool) (x : CV) : M CV := match kindOf x with
  | some k => ret (.bl (f k))
  | none => stuck
theorem se_isi {G : Cfg} {W : WX} {X : Cx} {pos p p2 : Pos} {a : Expr} {ma : Sl → M CV} {T : Str} {t : String} (f : Knd → Bool) (hf : ∀ k : Knd, kitB k.name t = some (f k)) (hK : G.K = X.K) (hg : Gl X "isinstance") (hm : X.mg "isinstance" = none) (hgT : Gl X T) (hmT : X.mg T = none) (hvT : bootBuiltins T = some (.type t))
    (ha : SE G W X a ma) (hn : T ≠ "__name__" := by decide) (hd : (T == ("__debug__" : Str)) = false := by decide)
    (he : starEach [a, .Name T p2] X.env = (false, eval a X.env) :: starEach [.Name T p2] X.env := by rfl) (he2 : starEach [.Name T p2] X.env = (false, eval (.Name T p2) X.env) :: starEach [] X.env := by rfl) (hpl : (backTo pos (starEach [.Name T p2] X.env)).any (·.1) = false := by rfl) :
    SE G W X (.Call (.Name "isinstance" p) [a, .Name T p2] [] pos) (eUn (isK f) ma) :=
  (pe_callB call_isi hg hm (by decide +kernel) (pa_cons ha (pa_cons (pe_bltn (v := .ty t) hgT hmT hvT rfl hn hd) pa_nil he2) he) (by decide) (by decide) he hpl).wk fun σ H Q ⟨ρ, h, τ, m, s, p⟩ => tM_bind m s p fun x h1 ρ1 H1 u m1 e1 s1 r1 p1 => by
    show rIsi X.K [u, .ty t] H1 Q
    unfold isK at p1
    cases q : kindOf x with
    | none => rw [q] at p1; exact p1.elim
    | some k =>
      rw [q] at p1
      exact ⟨u, .ty t, .type k.name, .type t, f k, rfl, .ty t, hK ▸ kindOf_r m1 r1 q, kit_ty (hf k), p1 ρ1 H1 _ m1 Ext.refl rfl⟩
def isInt : Knd → Bool
  | .bl => true
  | .int => true
  | _ => false
def isBool : Knd → Bool
  | .bl => true
  | _ => false
def isStr : Knd → Bool
  | .str => true
  | _ => false
def isTupK : Knd → Bool
  | .tup => true
  | _ => false
def isLst : Knd → Bool
  | .lst => true
  | _ => false
def isNo : Knd → Bool := fun _ => false
theorem isInt_ok : ∀ k : Knd, kitB k.name "int" = some (isInt k) := by intro k; cases k <;> decide +kernel
theorem isBool_ok : ∀ k : Knd, kitB k.name "bool" = some (isBool k) := by intro k; cases k <;> decide +kernel
theorem isStr_ok : ∀ k : Knd, kitB k.name "str" = some (isStr k) := by intro k; cases k <;> decide +kernel
theorem isTup_ok : ∀ k : Knd, kitB k.name "tuple" = some (isTupK k) := by intro k; cases k <;> decide +kernel
theorem isLst_ok : ∀ k : Knd, kitB k.name "list" = some (isLst k) := by intro k; cases k <;> decide +kernel
theorem isDict_ok : ∀ k : Knd, kitB k.name "dict" = some (isNo k) := by intro k; cases k <;> decide +kernel

def boolsOf : List CV → Option (List Bool)
  | [] => some []
  | .bl b :: r => match boolsOf r with
    | some bs => some (b :: bs)
    | none => none
  | _ => none
theorem boolsOf_r {G : Cfg} {ρ : Wd} {H : Hp} : ∀ {xs : List CV} {us : List V} {bs : List Bool}, boolsOf xs = some bs → ValsR G ρ H xs us → us = bs.map V.bl
  | [], _, _, e, r => by cases e; exact r
  | x :: xs, us, bs, e, ⟨u, t, eu, r1, r2⟩ => by
    cases x with
    | bl b =>
      simp only [boolsOf] at e
      cases q : boolsOf xs with
      | none => rw [q] at e; cases e
      | some cs =>
        rw [q] at e
        cases e
        rw [eu, show u = .bl b from r1, boolsOf_r q r2]
        rfl
    | _ => simp [boolsOf] at e
def intsOf : List CV → Option (List Int)
  | [] => some []
  | .int b :: r => match intsOf r with
    | some bs => some (b :: bs)
    | none => none
  | _ => none
theorem intsOf_r {G : Cfg} {ρ : Wd} {H : Hp} : ∀ {xs : List CV} {us : List V} {bs : List Int}, intsOf xs = some bs → ValsR G ρ H xs us → us = bs.map V.int
  | [], _, _, e, r => by cases e; exact r
  | x :: xs, us, bs, e, ⟨u, t, eu, r1, r2⟩ => by
    cases x with
    | int b =>
      simp only [intsOf] at e
      cases q : intsOf xs with
      | none => rw [q] at e; cases e
      | some cs =>
        rw [q] at e
        cases e
        rw [eu, show u = .int b from r1, intsOf_r q r2]
        rfl
    | _ => simp [intsOf] at e
def one (g : CV → M CV) (xs : List CV) : M CV := match xs with
  | [x] => g x
  | _ => stuck
theorem one_ok {G : Cfg} {r : List V → Hp → VK → Prop} {g : CV → M CV} (h : ∀ (W : WX) (σ : L2.St) (ρ : Wd) (h : Mem) (H : Hp) (x : CV) (u : V) (Q : VK), MemR G ρ h H → ValR G ρ H x u → Post G W (ValR G) σ ρ H (g x h) Q → r [u] H Q) : OpL G r (one g) := by
  intro W σ ρ h0 H xs us Q m rx p
  cases xs with
  | nil => exact p.elim
  | cons x t =>
    cases t with
    | cons _ _ => exact p.elim
    | nil =>
      obtain ⟨u, t, eu, r1, r2⟩ := rx
      cases (show t = [] from r2)
      subst eu
      exact h W σ ρ h0 H x u Q m r1 p
/-- the items of a list, not of a tuple -/
def lisOf (x : CV) (h : Mem) : Option (List CV) := if isTup x then none else seqOf x h
theorem lisOf_r {G : Cfg} {ρ : Wd} {h : Mem} {H : Hp} {x : CV} {u : V} {xs : List CV} (m : MemR G ρ h H) (r : ValR G ρ H x u) (e : lisOf x h = some xs) : ∃ a ys, u = .ref a ∧ ValsR G ρ H xs ys ∧ SqL G.K H a ys := by
  unfold lisOf at e
  by_cases ht : isTup x = true
  · rw [if_pos ht] at e; cases e
  · rw [if_neg ht] at e
    obtain ⟨a, ys, eu, rr, sq⟩ := seqOf_r m r e
    rw [if_neg ht] at sq
    exact ⟨a, ys, eu, rr, sq⟩
def pyAll (x : CV) : M CV := fun h => match lisOf x h with
  | some xs => match boolsOf xs with
    | some bs => .ok (.bl (bs.all id)) h
    | none => .bad
  | none => .bad
theorem all_ok {G : Cfg} : OpL G (rAll G.K) (one pyAll) := one_ok fun W σ ρ h H x u Q m rx p => by
  unfold pyAll at p
  cases e : lisOf x h with
  | none => rw [e] at p; exact p.elim
  | some xs =>
    rw [e] at p
    simp only at p
    cases q : boolsOf xs with
    | none => rw [q] at p; exact p.elim
    | some bs =>
      rw [q] at p
      obtain ⟨a, ys, eu, rr, sq⟩ := lisOf_r m rx e
      exact ⟨a, bs, by rw [eu], by rw [← boolsOf_r q rr]; exact sq, p ρ H _ m Ext.refl rfl⟩
def pySum (x : CV) : M CV := fun h => match lisOf x h with
  | some xs => match intsOf xs with
    | some bs => .ok (.int bs.sum) h
    | none => .bad
  | none => .bad
theorem sum_ok {G : Cfg} : OpL G (rSum G.K) (one pySum) := one_ok fun W σ ρ h H x u Q m rx p => by
  unfold pySum at p
  cases e : lisOf x h with
  | none => rw [e] at p; exact p.elim
  | some xs =>
    rw [e] at p
    simp only at p
    cases q : intsOf xs with
    | none => rw [q] at p; exact p.elim
    | some bs =>
      rw [q] at p
      obtain ⟨a, ys, eu, rr, sq⟩ := lisOf_r m rx e
      exact ⟨a, bs, by rw [eu], by rw [← intsOf_r q rr]; exact sq, p ρ H _ m Ext.refl rfl⟩
def pyTuple (x : CV) : M CV := fun h => match seqOf x h with
  | some xs => .ok (.tup xs) h
  | none => .bad
theorem tuple_ok {G : Cfg} : OpL G (fun xs H Q => ∃ p ys, xs = [.ref p] ∧ ((SqL G.K H p ys ∧ ∀ l, H l = none → Q (.ref l) (upd H l (.tup ys))) ∨ (SqT G.K H p ys ∧ Q (.ref p) H))) (one pyTuple) := one_ok fun W σ ρ h H x u Q m rx p => by
  unfold pyTuple at p
  cases e : seqOf x h with
  | none => rw [e] at p; exact p.elim
  | some xs =>
    rw [e] at p
    obtain ⟨a, ys, eu, rr, sq⟩ := seqOf_r m rx e
    refine ⟨a, ys, by rw [eu], ?_⟩
    split at sq
    · exact .inr ⟨sq, p ρ H _ m Ext.refl ⟨a, ys, rfl, sq, rr⟩⟩
    · exact .inl ⟨sq, fun l hl => p.newTup m rr hl⟩
/-- list(x), never written -/
def pyList (x : CV) : M CV := fun h => match seqOf x h with
  | some xs => .ok (.lst xs) h
  | none => .bad
/-- list(x), written later -/
def pyListN (x : CV) : M CV := fun h => match seqOf x h with
  | some xs => frN h.length fun n => sapp h [.lst xs] fun h => .ok (.ref n) h
  | none => .bad
theorem list_ok {G : Cfg} : OpL G (fun xs H Q => ∃ p ys, xs = [.ref p] ∧ (SqL G.K H p ys ∨ SqT G.K H p ys) ∧ ∀ l, H l = none → Q (.ref l) (upd H l (.lst ys))) (one pyList) := one_ok fun W σ ρ h H x u Q m rx p => by
  unfold pyList at p
  cases e : seqOf x h with
  | none => rw [e] at p; exact p.elim
  | some xs =>
    rw [e] at p
    obtain ⟨a, ys, eu, rr, sq⟩ := seqOf_r m rx e
    refine ⟨a, ys, by rw [eu], ?_, fun l hl => p.newLst m rr hl⟩
    split at sq
    · exact .inr sq
    · exact .inl sq
theorem listN_ok {G : Cfg} : OpL G (fun xs H Q => ∃ p ys, xs = [.ref p] ∧ (SqL G.K H p ys ∨ SqT G.K H p ys) ∧ ∀ l, H l = none → Q (.ref l) (upd H l (.lst ys))) (one pyListN) := one_ok fun W σ ρ h H x u Q m rx p => by
  unfold pyListN at p
  cases e : seqOf x h with
  | none => rw [e] at p; exact p.elim
  | some xs =>
    rw [e] at p
    simp only [frN_eq, sapp_eq] at p
    obtain ⟨a, ys, eu, rr, sq⟩ := seqOf_r m rx e
    refine ⟨a, ys, by rw [eu], ?_, fun l hl => p _ _ _ (m.push hl rr) (Ext.push hl) ⟨l, ?_, rfl⟩⟩
    · split at sq
      · exact .inr sq
      · exact .inl sq
    · show (ρ.r ++ [l])[h.length]? = some l
      rw [← m.len]; simp

/-- o.m(e, ..), m of a built-in type -/
def eMt (ty : CV → Bool) (g : CV → List CV → M CV) (o : Sl → M CV) (ml : Sl → M (List CV)) : Sl → M CV := fun τ => bnd (o τ) fun x => if ty x then bnd (ml τ) fun xs => g x xs else stuck
def Mt (G : Cfg) (r : V → List V → Hp → VK → Prop) (g : CV → List CV → M CV) : Prop :=
  ∀ (W : WX) (σ : L2.St) (ρ : Wd) (h : Mem) (H : Hp) (x : CV) (u : V) (xs : List CV) (us : List V) (Q : VK), MemR G ρ h H → ValR G ρ H x u → ValsR G ρ H xs us → Post G W (ValR G) σ ρ H (g x xs h) Q → r u us H Q
def isRef : CV → Bool
  | .ref _ => true
  | _ => false
def isStrV : CV → Bool
  | .str _ => true
  | _ => false
def isLis : CV → Bool
  | .ref _ => true
  | .lst _ => true
  | .frz _ => true
  | _ => false
theorem isLis_ty {G : Cfg} {ρ : Wd} {h : Mem} {H : Hp} {x : CV} {u : V} (m : MemR G ρ h H) (r : ValR G ρ H x u) (e : isLis x = true) : tyV G.K "list" u H := by
  cases x with
  | ref l =>
    obtain ⟨a, q, eu⟩ := r
    rw [eu]
    obtain ⟨ys, w⟩ := m.at_ (.inl (List.mem_of_getElem? q))
    exact .inl ⟨rfl, ys, SqL.of w⟩
  | lst xs =>
    obtain ⟨a, ys, eu, _, s, _⟩ := r
    rw [eu]
    exact .inl ⟨rfl, ys, SqL.of s⟩
  | frz xs =>
    obtain ⟨a, ys, eu, s, _⟩ := r
    rw [eu]
    exact .inl ⟨rfl, ys, s.l⟩
  | _ => cases e
theorem isStrV_ty {G : Cfg} {ρ : Wd} {h : Mem} {H : Hp} {x : CV} {u : V} (m : MemR G ρ h H) (r : ValR G ρ H x u) (e : isStrV x = true) : tyV G.K "str" u H := by
  cases x with
  | str z => rw [show u = .str z from r]; exact rfl
  | _ => cases e
section
variable {G : Cfg} {W : WX} {X : Cx} {o e : Expr} {es : List Expr} {mo : Sl → M CV} {ml : Sl → M (List CV)} {name : Str} {apos cpos : Pos} {T id : String} {r : V → List V → Hp → VK → Prop} {ty : CV → Bool} {g : CV → List CV → M CV}
theorem se_mt (hty' : ∀ {ρ : Wd} {h : Mem} {H : Hp} {x : CV} {u : V}, MemR G ρ h H → ValR G ρ H x u → ty x = true → tyV X.K T u H) (pa : PlainAttrs T) (slot : Slot T name id) (hty : typeOf (.builtin id) = pure (.type "method_descriptor")) (hm : MtR X id r) (hg : Mt G r g) (ho : SE G W X o mo) (ha : SA G W X (e :: es) ml) (hbase : attributeBase o name X.env (eval o X.env) = eval o X.env := by rfl) (hfew : ((backTo cpos (starEach (e :: es) X.env)).all (fun x => !x.1) && (backToKw cpos (keywordEach [] X.env)).all (fun x => x.1.isSome) && decide ((e :: es).length + ([] : List Keyword).length + (if ([] : List Keyword).isEmpty then 0 else 1) < 30)) = true := by rfl) (hline : (apos.endLine == cpos.line) = true := by rfl) (hs : starEach (e :: es) X.env = (false, eval e X.env) :: starEach es X.env := by rfl) (hplain : (backTo cpos (starEach es X.env)).any (·.1) = false := by rfl) :
    SE G W X (.Call (.Attribute o name apos) (e :: es) [] cpos) (eMt ty g mo ml) :=
  (pe_bm pa slot hty hm ho ha hbase hfew hline hs hplain).wk fun σ H Q ⟨ρ, h, τ, m, s, p⟩ => tM_bind m s p fun x h1 ρ1 H1 u m1 e1 s1 r1 p1 => by
    by_cases ht : ty x = true
    · rw [if_pos ht] at p1
      exact ⟨hty' m1 r1 ht, tM_bind m1 s1 p1 fun xs h2 ρ2 H2 us m2 e2 s2 r2 p2 => hg W σ ρ2 h2 H2 x u xs us Q m2 (r1.ext m1 e2) r2 p2⟩
    · rw [if_neg ht] at p1; exact p1.elim
def eMt0 (ty : CV → Bool) (g : CV → List CV → M CV) (o : Sl → M CV) : Sl → M CV := fun τ => bnd (o τ) fun x => if ty x then g x [] else stuck
theorem se_mt0 (hty' : ∀ {ρ : Wd} {h : Mem} {H : Hp} {x : CV} {u : V}, MemR G ρ h H → ValR G ρ H x u → ty x = true → tyV X.K T u H) (pa : PlainAttrs T) (slot : Slot T name id) (hty : typeOf (.builtin id) = pure (.type "method_descriptor")) (hm : MtR X id r) (hg : Mt G r g) (ho : SE G W X o mo)
    (hbase : attributeBase o name X.env (eval o X.env) = eval o X.env := by rfl) (hline : (apos.endLine == cpos.line) = true := by rfl) :
    SE G W X (.Call (.Attribute o name apos) [] [] cpos) (eMt0 ty g mo) :=
  (pe_bm0 pa slot hty hm ho hbase hline).wk fun σ H Q ⟨ρ, h, τ, m, s, p⟩ => tM_bind m s p fun x h1 ρ1 H1 u m1 e1 s1 r1 p1 => by
    by_cases ht : ty x = true
    · rw [if_pos ht] at p1
      exact ⟨hty' m1 r1 ht, hg W σ ρ1 h1 H1 x u [] [] Q m1 r1 rfl p1⟩
    · rw [if_neg ht] at p1; exact p1.elim
end
def pyAppend (x : CV) (ys : List CV) : M CV := fun h => match x, ys with
  | .ref l, [y] => match memAt h l with
    | some xs => if xs.length < 1000000 then frV 3 y fun y => sapp xs [y] fun zs => sset h l (.lst zs) fun h => .ok .non h else .bad
    | none => .bad
  | _, _ => .bad
theorem append_ok {G : Cfg} : Mt G rAppend pyAppend := by
  intro W σ ρ h H x u ys us Q m rx rys p
  unfold pyAppend at p
  split at p
  · rename_i l y
    obtain ⟨a, q, eu⟩ := rx
    obtain ⟨w, t, ew, r1, r2⟩ := rys
    cases (show t = [] from r2)
    split at p
    · rename_i xs hc
      obtain ⟨zs, e, rr⟩ := m.obj l a _ q (memAt_some hc)
      split at p
      · rename_i hl
        rw [frV_eq, sapp_eq, sset_eq] at p
        exact ⟨a, zs, w, eu, ew, e, by rw [← rr.len, sizeLine_eq]; omega, p ρ _ _ (m.write q (rr.app (show ValsR G ρ H [y] [w] from ⟨w, [], rfl, r1, rfl⟩))) (Ext.writeAt m q) rfl⟩
      · exact p.elim
    · exact p.elim
  · exact p.elim
def pyExtend (x : CV) (ys : List CV) : M CV := fun h => match x, ys with
  | .ref l, [y] => match memAt h l, lstOf y h with
    | some xs, some zs => if xs.length + zs.length < 1000000 then sapp xs zs fun ys => sset h l (.lst ys) fun h => .ok .non h else .bad
    | _, _ => .bad
  | _, _ => .bad
theorem extend_ok {G : Cfg} : Mt G rExtend pyExtend := by
  intro W σ ρ h H x u ys us Q m rx rys p
  unfold pyExtend at p
  split at p
  · rename_i l y
    obtain ⟨a, q, eu⟩ := rx
    obtain ⟨w, t, ew, r1, r2⟩ := rys
    cases (show t = [] from r2)
    split at p
    · rename_i xs zs hc hz
      obtain ⟨vs, e, rr⟩ := m.obj l a _ q (memAt_some hc)
      obtain ⟨b, ws, eb, rb, sb⟩ := lstOf_r m r1 hz
      split at p
      · rename_i hl
        rw [sapp_eq, sset_eq] at p
        subst eb
        exact ⟨a, b, vs, ws, eu, ew, e, sb, by rw [← rr.len, ← rb.len, sizeLine_eq]; omega, p ρ _ _ (m.write q (rr.app rb)) (Ext.writeAt m q) rfl⟩
      · exact p.elim
    · exact p.elim
  · exact p.elim
def gSub (o i : Sl → M CV) : CV → Sl → M Sl := fun v τ => bnd (o τ) fun x => bnd (i τ) fun k h => match x, k with
  | .ref l, .int k => match memAt h l with
    | some xs => match L2.ixN xs.length k with
      | some j => frV 3 v fun v => sset xs j v fun xs => sset h l (.lst xs) fun h => .ok τ h
      | none => .bad
    | none => .bad
  | _, _ => .bad
theorem ValsR.set {G : Cfg} {ρ : Wd} {H : Hp} {x : CV} {u : V} (q : ValR G ρ H x u) : ∀ {xs : List CV} {us : List V} (j : Nat), ValsR G ρ H xs us → ValsR G ρ H (xs.set j x) (us.set j u)
  | [], _, j, r => by rw [show _ = [] from r]; exact rfl
  | y :: ys, _, 0, ⟨w, t, e, r1, r2⟩ => by subst e; exact ⟨u, t, rfl, q, r2⟩
  | y :: ys, _, j + 1, ⟨w, t, e, r1, r2⟩ => by subst e; exact ⟨w, _, rfl, r1, r2.set q j⟩
theorem tM_noexc {α β : Type} {G : Cfg} {R : Wd → Hp → α → β → Prop} {m : Sl → M α} {σ : L2.St} {ρ : Wd} {h : Mem} {H : Hp} {τ : Sl} {C : β → Hp → Prop} {W : WX} (mm : MemR G ρ h H) (s : SlR G ρ H τ σ) {a : α} {h1 : Mem} (e : m τ h = .ok a h1)
    (hC : ∀ ρ1 H1 b, MemR G ρ1 h1 H1 → Ext ρ H ρ1 H1 → SlR G ρ1 H1 τ σ → R ρ1 H1 a b → C b H1) : tM G W R m σ H C :=
  ⟨ρ, h, τ, mm, s, by rw [e]; exact fun ρ1 H1 b m1 e1 r => hC ρ1 H1 b m1 e1 (s.ext mm e1) r⟩
theorem sg_sub {G : Cfg} {W : WX} {X : Cx} {pos : Pos} {o i : Expr} {mo mi : Sl → M CV} (ho : SE G W X o mo) (hi : SE G W X i mi) 
    (ha : ∀ v, assign (.Subscript o i pos) X.env v = (holding [v] (eval o X.env) >>= fun ov => holding [v, ov] (eval i X.env) >>= fun iv => standAt pos >>= fun _ => holding [v, ov, iv] (setItem ov iv v) >>= fun _ => release [v, ov, iv] []) := by intro _; rfl) : SG G X (.Subscript o i pos) (gSub mo mi) :=
  (pg_sub ho hi set_list ha).wk fun v σ H Q ⟨ρ, h, τ, x, m, s, r, p⟩ => by
    unfold gSub bnd at p
    cases e : mo τ h with
    | ok ov h1 =>
      rw [e] at p
      simp only at p
      refine tM_noexc m s e fun ρ1 H1 u m1 e1 s1 r1 => ?_
      cases e2 : mi τ h1 with
      | ok iv h2 =>
        rw [e2] at p
        simp only at p
        refine tM_noexc m1 s1 e2 fun ρ2 H2 w m2 e2' s2 r2 => ?_
        split at p
        · rename_i τ' h' he
          split at he
          · rename_i l k
            cases hc : memAt h2 l with
            | none => simp [hc] at he
            | some xs =>
              simp only [hc] at he
              obtain ⟨a, q, eu⟩ := r1.ext m1 e2'
              obtain ⟨ys, ea, rr⟩ := m2.obj l a _ q (memAt_some hc)
              cases hj : L2.ixN xs.length k with
              | none => simp [hj] at he
              | some j =>
                simp only [hj, frV_eq, sset_eq] at he
                cases he
                refine ⟨a, ys, k, j, eu, r2, ea, by rw [← rr.len]; exact hj, ?_⟩
                have rv := (r.ext m e1).ext m1 e2'
                exact p ρ2 _ _ (m2.write q (rr.set rv j)) ((e1.trans e2').trans (Ext.writeAt m2 q)) (s2.ext m2 (Ext.writeAt m2 q))
          · cases he
        · exact p.elim
      | exc _ _ => rw [e2] at p; exact p.elim
      | bad => rw [e2] at p; exact p.elim
    | exc _ _ => rw [e] at p; exact p.elim
    | bad => rw [e] at p; exact p.elim
end VE

noncomputable section
namespace VE
open PySem PySem.Spec PyProof.Rows L2
def mNever : MS := fun _ _ => .bad
def mPar (i j : Nat) (ml : Sl → M (List CV)) : MS := fun τ => inS (ml τ) τ fun xs h => match xs with
  | [x, y] => frV 3 x fun x => frV 3 y fun y => sset τ i (some x) fun τ => sset τ j (some y) fun τ => .mk (.nx τ) h
  | _ => .bad
def mPar3 (i j l : Nat) (ml : Sl → M (List CV)) : MS := fun τ => inS (ml τ) τ fun xs h => match xs with
  | [x, y, z] => frV 3 x fun x => frV 3 y fun y => frV 3 z fun z => sset τ i (some x) fun τ => sset τ j (some y) fun τ => sset τ l (some z) fun τ => .mk (.nx τ) h
  | _ => .bad
section
variable {G : Cfg} {W : WX} {X : Cx} {pos : Pos} {st : Stmt}
theorem ss_never : SS G W X st mNever := ps_never.wk fun D σ H ⟨ρ, h, τ, m, s, p⟩ => p.elim
theorem ss_par {i j : Nat} {x y : Str} {a b : Expr} {ml : Sl → M (List CV)} {px py pt : Pos} {kt k2 pt2} (hc : X.calm = true) (hN : X.N.Nodup) (hi : X.N[i]? = some x) (hj : X.N[j]? = some y) (hij : i ≠ j)
    (hx : X.env.scope.names.lookup x = some .local) (hy : X.env.scope.names.lookup y = some .local) (ha : SA G W X [a, b] ml) (hw : swappedStores [.Tuple [.Name x px, .Name y py] kt pt] (.Tuple [a, b] k2 pt2) X.env = pure (some [x, y])) (hs : swapsWithSole [.Tuple [.Name x px, .Name y py] kt pt] (.Tuple [a, b] k2 pt2) pos.line X.env = pure false := by rfl) :
    SS G W X (.Assign [.Tuple [.Name x px, .Name y py] kt pt] (.Tuple [a, b] k2 pt2) pos) (mPar i j ml) :=
  (ps_par hc hN hi hj hij hx hy ha hw hs).wk fun D σ H ⟨ρ, h, τ, m, s, p⟩ => tM_inS m s p fun xs h1 ρ1 H1 us m1 e1 s1 r1 p1 => by
    split at p1
    · obtain ⟨u, t, e, q1, u2, t2, e2, q2, q3⟩ := r1
      cases (show t2 = [] from q3)
      subst e2
      simp only [frV_eq, sset_eq] at p1
      exact ⟨u, u2, e, p1 ρ1 H1 _ m1 Ext.refl ((s1.set i q1).set j q2)⟩
    · exact p1.elim
theorem ss_par3 {i j l : Nat} {x y z : Str} {a b c : Expr} {ml : Sl → M (List CV)} {px py pz pt : Pos} {kt k2 pt2} (hc : X.calm = true) (hN : X.N.Nodup) (hi : X.N[i]? = some x) (hj : X.N[j]? = some y) (hl : X.N[l]? = some z) (hij : i ≠ j) (hil : i ≠ l) (hjl : j ≠ l)
    (hx : X.env.scope.names.lookup x = some .local) (hy : X.env.scope.names.lookup y = some .local) (hz : X.env.scope.names.lookup z = some .local) (ha : SA G W X [a, b, c] ml) (hw : swappedStores [.Tuple [.Name x px, .Name y py, .Name z pz] kt pt] (.Tuple [a, b, c] k2 pt2) X.env = pure (some [x, y, z])) (hs : swapsWithSole [.Tuple [.Name x px, .Name y py, .Name z pz] kt pt] (.Tuple [a, b, c] k2 pt2) pos.line X.env = pure false := by rfl) :
    SS G W X (.Assign [.Tuple [.Name x px, .Name y py, .Name z pz] kt pt] (.Tuple [a, b, c] k2 pt2) pos) (mPar3 i j l ml) :=
  (ps_par3 hc hN hi hj hl hij hil hjl hx hy hz ha hw hs).wk fun D σ H ⟨ρ, h, τ, m, s, p⟩ => tM_inS m s p fun xs h1 ρ1 H1 us m1 e1 s1 r1 p1 => by
    split at p1
    · obtain ⟨u, t, e, q1, u2, t2, e2, q2, u3, t3, e3, q3, q4⟩ := r1
      cases (show t3 = [] from q4)
      subst e3 e2
      simp only [frV_eq, sset_eq] at p1
      exact ⟨u, u2, u3, e, p1 ρ1 H1 _ m1 Ext.refl (((s1.set i q1).set j q2).set l q3)⟩
    · exact p1.elim
end
def pyIAdd (x y : CV) : M CV := match x, y with
  | .int i, .int j => ret (.int (i + j))
  | _, _ => stuck
theorem iadd_ok {G : Cfg} : Op2 G (rI0 fun i j => .int (i + j)) pyIAdd := by
  intro W σ ρ h H x y u v Q m rx ry p
  unfold pyIAdd at p
  split at p
  · exact ⟨_, _, rx, ry, p ρ H _ m Ext.refl rfl⟩
  · exact p.elim
def pyIMul (x y : CV) : M CV := match x, y with
  | .int i, .int j => if (fit i && fit j) = true then ret (.int (i * j)) else stuck
  | _, _ => stuck
theorem imul_ok {G : Cfg} : Op2 G (rI CMulW fun i j => .int (i * j)) pyIMul := by
  intro W σ ρ h H x y u v Q m rx ry p
  unfold pyIMul at p
  split at p
  · split at p
    · rename_i hc
      exact ⟨_, _, rx, ry, fit_mul hc, p ρ H _ m Ext.refl rfl⟩
    · exact p.elim
  · exact p.elim
theorem iop_mulW {X : Cx} : OpR X (inplaceOp .Mult) (rI CMulW fun i j => .int (i * j)) := opI fun _ _ _ _ _ _ _ hc q => imul_int q hc.ok
theorem cx_no {P : Program} {w : World} {H : Hp} {s s' : Shared} {e : Value} (z : L2.CX P w [] H s (fun _ _ _ => False) e s') : False := by
  obtain ⟨_, _, _, _, _, _, _, _, _, _, _, _, z⟩ := z
  exact z
theorem law_sp {G : Cfg} {F : List CV → M CV} {H : Hp} {a : Addr} {ns : List Int} (hT : G.T = []) (hO : Only H) (hS : SqL G.K H a (ns.map V.int)) (hF : ∃ h, F [.frz (ns.map CV.int)] [] = .ok (.bl true) h) :
    spH G 1 F [.ref a] H (fun v _ => v = .bl true) fun _ _ _ => False := by
  have nh : ∀ a, ¬ (⟨[], []⟩ : Wd).has a := fun a z => by
    rcases z with z | z <;> simp at z
  have hints : ∀ (ρ : Wd) (H : Hp) (ns : List Int), ValsR G ρ H (ns.map CV.int) (ns.map V.int) := fun ρ H ns => by
    induction ns with
    | nil => rfl
    | cons n ns ih => exact ⟨.int n, _, rfl, rfl, ih⟩
  refine ⟨rfl, ⟨[], []⟩, [], [.frz (ns.map CV.int)], ⟨rfl, List.nodup_nil, fun i a co e1 => by simp at e1, fun a ha => by simp at ha, fun p hp => by rw [hT] at hp; simp at hp⟩, ⟨_, _, rfl, ⟨a, _, rfl, ?_, hints _ _ ns⟩, rfl⟩, ?_⟩
  · rcases hS with hS | hS
    · exact .inl ⟨nh a, hS⟩
    · exact .inr (.inr hS)
  · obtain ⟨h, e⟩ := hF
    rw [e]
    exact fun ρ' H' u m' e' r => r

/-- law's promise: a list of at most 63 ints is handed in, True comes out -/
def spLaw (K : PySem.W.Frag) : Sp := fun vs H Q _ => ∃ (a : Addr) (ns : List Int), vs = [.ref a] ∧ SqL K H a (ns.map V.int) ∧ ns.length ≤ 63 ∧ ∀ H', Q (.bl true) H'
theorem spLaw_of {G : Cfg} {F : List CV → M CV} (hT : G.T = []) (hF : ∀ ns : List Int, ns.length ≤ 63 → ∃ h, F [.frz (ns.map CV.int)] [] = .ok (.bl true) h) (vs : List V) (H : Hp) (Q : VK) (E : XK) (h : spLaw G.K vs H Q E) : spH G 1 F vs H Q E := by
  obtain ⟨a, ns, rfl, hS, hl, q⟩ := h
  have nh : ∀ a, ¬ (⟨[], []⟩ : Wd).has a := fun a z => by
    rcases z with z | z <;> simp at z
  have hints : ∀ (ρ : Wd) (H : Hp) (ns : List Int), ValsR G ρ H (ns.map CV.int) (ns.map V.int) := fun ρ H ns => by
    induction ns with
    | nil => rfl
    | cons n ns ih => exact ⟨.int n, _, rfl, rfl, ih⟩
  refine ⟨rfl, ⟨[], []⟩, [], [.frz (ns.map CV.int)], ⟨rfl, List.nodup_nil, fun i a co e1 => by simp at e1, fun a ha => by simp at ha, fun p hp => by rw [hT] at hp; simp at hp⟩, ⟨_, _, rfl, ⟨a, _, rfl, ?_, hints _ _ ns⟩, rfl⟩, ?_⟩
  · rcases hS with hS | hS
    · exact .inl ⟨nh a, hS⟩
    · exact .inr (.inr hS)
  · obtain ⟨h, e⟩ := hF ns hl
    rw [e]
    exact fun ρ' H' u m' e' r => by rw [show u = .bl true from r]; exact q H'
theorem def_mk {K : PySem.W.Frag} {h : Heap} {mg : Str → Option Value} (X : K.In h) (G : h.Ns mainGlobals mg) {x : Str} {st : Stmt} {f : Addr} {od an : Option Addr} {osl : Array (Option Value)} {oc kV doc pm cdv ct : Value} (a : PySem.W.nsIn K mainGlobals x = some (some (.ref f)))
    (l : K.lookup f = some ⟨oc, od, .func (PySem.W.fnOf x x (defArgs st) (defBody st) (defScope st) .none kV doc pm an cdv ct), osl⟩) (c : PySem.W.codeIn K cdv x = true) (k : PySem.W.keepIn K (.ref f) = true) :
    ∃ (f : Addr) (fd : FuncData), mg x = some (.ref f) ∧ Fun K x x st f fd := ⟨f, _, PySem.W.mg_of X G a, fun_mk l c k⟩
theorem int_mk {K : PySem.W.Frag} {h : Heap} {mg : Str → Option Value} (X : K.In h) (G : h.Ns mainGlobals mg) {x : Str} {i : Int} {t : Tok} (a : PySem.W.nsIn K mainGlobals x = some (some (.int i t))) : ∃ t, mg x = some (.int i t) := ⟨t, PySem.W.mg_of X G a⟩
theorem str_mk {K : PySem.W.Frag} {h : Heap} {mg : Str → Option Value} (X : K.In h) (G : h.Ns mainGlobals mg) {x : Str} {i : Str} {t : Tok} (a : PySem.W.nsIn K mainGlobals x = some (some (.str i t))) : ∃ t, mg x = some (.str i t) := ⟨t, PySem.W.mg_of X G a⟩
theorem walk_law {l : PySem.W.OpenLaw} {q : Program} {loose : List Str} {XP : (Str → Option Value) → Heap → Prop} {YP : World → Heap → Prop} {d : DefRec} {K : Params → PySem.W.Frag} {k : Nat} (hr : Room k callerA) (hn : l.most = some 63) (hdf : d.params.defaults = [])
    (hY : ∀ (w : World) (h : Heap), YP w h → (K w.params).In h)
    (F : ∀ (w : World) (mg : Str → Option Value) (fa : Addr) (h : Heap), (K w.params).In h → h.Ns mainGlobals mg → mg d.name = some (.ref fa) →
      ∃ fd : FuncData, (∀ (s : Shared) (u : Value), BindsTo s fd ⟨[u], []⟩ [("script", u)]) ∧ ∀ base : Heap, (K w.params).In base → base.Ns mainGlobals mg → FnOk l.prog w (K w.params) mg base (L2.CX l.prog w) k fa fd ["script"] (spLaw (K w.params))) :
    PySem.W.WalkO q loose XP YP l.row.toRowW d [] (fun f vs => PySem.call f vs) :=
  L2.walk_of (n := 63) (k := k) (x := "script") (CX := fun w => L2.CX l.prog w) (sp := fun w => spLaw (K w.params)) hn (by decide) hdf hr hY F (fun _ _ a ns hl _ hS => ⟨a, ns, rfl, hS, hl, fun _ => rfl⟩) fun _ _ _ _ _ z => cx_no z
end VE

namespace VE
open PySem PySem.Spec PyProof.Rows PyProof.V L2 PySem.W
open PySem hiding Program
set_option maxHeartbeats 4000000 in
theorem meets_enum1 {v : Value} {o : Obj} {H : Heap → Prop} (B : Begins v o H) :
    Meets (Builtin.«enumerate.__new__» ⟨[.type "enumerate", v], []⟩) (fun _ R s => H s.heap ∧
      R (.ok (.ret (.ref (s.heap.push o).objs.size))) { s with heap := (s.heap.push o).push { cls := .type "enumerate", data := .fields #[.none, .bool false, .ref s.heap.objs.size, rawInt 0, .none, .none] } }) :=
  .of_wp fun prog w A R s h => by
    obtain ⟨has, out⟩ := h
    obtain ⟨heap, gs, dr, tk, os⟩ := s
    have below := sub_enumerate
    have begun : ∀ {A1 : Around} {E1 : Value → Shared → Prop} {Q1 : Value → Shared → Prop}, Q1 (.ref heap.objs.size) ⟨heap.push o, gs, dr, tk, os⟩ → wpAny (model prog w) A1 (pyIter v) Q1 E1 ⟨heap, gs, dr, tk, os⟩ := fun z => B.iter prog w _ _ ⟨heap, gs, dr, tk, os⟩ _ has z
    wp_walk using begun
    refine wpAny_stack_any fun _ => wpAny_pure ?_
    split
    all_goals first
      | (rename_i c _ _ _ _ _; cases (c == Value.type "enumerate") <;> (wp_walk using begun; exact ⟨_, rfl, out⟩))
      | (wp_walk using begun; exact ⟨_, rfl, out⟩)
section
variable {prog : PySem.Program} {w : World} {A : Around} {E : Value → Shared → Prop} {s : Shared}
theorem enum1_begins {v : Value} {o : Obj} {Has : Heap → Prop} {Q : Value → Shared → Prop} (B : Begins v o Has) (has : Has s.heap)
    (next : ∀ hp, IsEnum hp (s.heap.objs.size + 1) s.heap.objs.size 0 .none → hp.get? s.heap.objs.size = some o → hp.objs.size = s.heap.objs.size + 2 →
      (∀ b ob, s.heap.get? b = some ob → hp.get? b = some ob) → Q (.ref (s.heap.objs.size + 1)) { s with heap := hp }) :
    wpAny (model prog w) A (call (.type "enumerate") [v]) Q E s := by
  have size1 : (s.heap.push o).objs.size = s.heap.objs.size + 1 := by simp [Heap.size_push]
  have two : IsEnum ((s.heap.push o).push { cls := .type "enumerate", data := .fields #[.none, .bool false, .ref s.heap.objs.size, rawInt 0, .none, .none] }) (s.heap.objs.size + 1) s.heap.objs.size 0 .none :=
    size1 ▸ Heap.get?_push_size (s.heap.push o) (o := { cls := .type "enumerate", data := .fields #[.none, .bool false, .ref s.heap.objs.size, rawInt 0, .none, .none] }) rfl
  have tyE := F.typeCall_enumerate_1 v
  refine callType_new F.called_enumerate (by decide) tyE (F.newCall_enumerate_1 v) (fun ob => F.args_object_init_2 ob v) F.entry_enumerate_new (meets_enum1 B) ⟨has, ?_⟩
  refine (show _ ∧ _ from ?_)
  rw [size1]
  have first := Heap.get?_push_size s.heap (o := o) B.free
  exact ⟨⟨_, two, rfl⟩, next _ two (Heap.get?_push_of_some _ first) (by rw [Heap.size_push, size1]) fun b ob z => Heap.get?_push_of_some _ (Heap.get?_push_of_some _ z)⟩
theorem sumT_raw {l : Addr} {its : List Value} {ns : List Int} {Q : Value → Shared → Prop} (calm : A.handled = none) (tp : s.heap.IsTuple l its.toArray) (allInt : IntsAre its ns)
    (next : ∀ hp tk tok, (∀ b ob, s.heap.get? b = some ob → hp.get? b = some ob) → Q (.int ns.sum tok) { s with heap := hp, toks := tk }) : wpAny (model prog w) A (call (.builtin "sum") [.ref l]) Q E s := by
  obtain ⟨xs, shape⟩ := allInt.allInts.items
  have nums : numsOf (intItems xs).toList = ns := shape ▸ allInt.numsOf
  rw [nums_intItems] at nums
  refine PySem.W.ktm_sumG calm (shape ▸ tp) fun hp tk tok kept => ?_
  rw [preSum_eq, List.take_of_length_le (by simp), nums]
  exact next hp tk tok kept
theorem wpAny_pyNext_enum_endT {en ti l : Addr} {n : Nat} {items : Array Value} {was : Value} {Q : Option Value → Shared → Prop} (calm : A.handled = none)
    (ge : IsEnum s.heap en ti n was) (hi : s.heap.IsTupleIter ti l n) (tp : s.heap.IsTuple l items) (over : items[n]? = none)
    (next : ∀ hp, Heap.ExtBut ti s.heap hp → Q none { s with heap := hp }) : wpAny (model prog w) A (pyNext (.ref en)) Q E s := by
  unfold pyNext
  have ty : s.TypeIs (.ref en) "enumerate" := ⟨_, ge, rfl⟩
  refine wpAny_bind (wpAny_attempt (wpAny_callSpecial?_slot (name := Str.ofString "__next__") ty F.slot_enumerate_next (wpAny_call_entry F.slot_enumerate_next ty F.entry_enumerate_next ?_ (F.args_enumerate_next_1 _))))
  refine (show wpAny (model prog w) _ (field (.ref en) 2 >>= _) _ _ _ from wpAny_bind (wpAny_field ge rfl (x := .ref ti) rfl (wpAny_bind (wpAny_nextOf_tuple_end calm hi tp over fun hp stop but is => ?_))))
  obtain ⟨ob, go, cl⟩ := is
  exact wpAny_bind (wpAny_isInstance (T := "StopIteration") (b := true) ⟨ob, go, cl⟩ isSubtype_stop (wpAny_pure (next _ but)))
end
def rSumT (K : PySem.W.Frag) : List V → Hp → VK → Prop := fun vs H Q => ∃ (a : Addr) (ns : List Int), vs = [V.ref a] ∧ SqT K H a (ns.map V.int) ∧ Q (.int ns.sum) H
theorem cr_sumT {X : Cx} (hc : X.calm = true) : CallR X (.builtin "sum") (rSumT X.K) := by
  intro pins sh σ Hh vs us Q inv rel ⟨t, ns, ev, sq, next⟩
  subst ev
  obtain ⟨its, rv, tp, _⟩ := inv.tuple sq
  obtain rfl : us = [.ref t] := Vals.ref1 rel
  exact sumT_raw (inv.ok.hd hc) tp rv.ints fun hp tk tok kept => ⟨.int _, Hh, inv.kept kept, ⟨_, rfl⟩, next⟩
theorem callR_or {X : Cx} {f : Value} {r r' : List V → Hp → VK → Prop} (h : CallR X f r) (h' : CallR X f r') : CallR X f (fun vs H Q => r vs H Q ∨ r' vs H Q) := by
  intro pins s σ H vs us Q I rr q
  exact q.elim (fun q => h pins s σ H vs us Q I rr q) fun q => h' pins s σ H vs us Q I rr q
def rSum2 (K : PySem.W.Frag) : List V → Hp → VK → Prop := fun vs H Q => rSum K vs H Q ∨ rSumT K vs H Q
theorem cr_sum2 {X : Cx} (hc : X.calm = true) : CallR X (.builtin "sum") (rSum2 X.K) := callR_or (cr_sum hc) (cr_sumT hc)
noncomputable section
def pySum2 (x : CV) : M CV := fun h => match seqOf x h with
  | some xs => match intsOf xs with
    | some bs => .ok (.int bs.sum) h
    | none => .bad
  | none => .bad
theorem sum2_ok {G : Cfg} : OpL G (rSum2 G.K) (one pySum2) := one_ok fun W σ ρ h H x u Q m rx p => by
  unfold pySum2 at p
  cases e : seqOf x h with
  | none => rw [e] at p; exact p.elim
  | some xs =>
    rw [e] at p
    simp only at p
    cases q : intsOf xs with
    | none => rw [q] at p; exact p.elim
    | some bs =>
      rw [q] at p
      obtain ⟨a, ys, eu, rr, sq⟩ := seqOf_r m rx e
      by_cases ht : isTup x = true
      · rw [if_pos ht] at sq
        exact .inr ⟨a, bs, by rw [eu], by rw [← intsOf_r q rr]; exact sq, p ρ H _ m Ext.refl rfl⟩
      · rw [if_neg ht] at sq
        exact .inl ⟨a, bs, by rw [eu], by rw [← intsOf_r q rr]; exact sq, p ρ H _ m Ext.refl rfl⟩
end
/-- what a walk that counts hands out: the tuple's items, each behind its number in a pair made for it -/
def IteT (K : PySem.W.Frag) (t : Addr) : It where
  go i Hh := ∃ (us : List V) (u : V), us[i]? = some u ∧ SqT K Hh t us
  yld i Hh w Hh' := ∃ T u, Hh T = none ∧ w = .ref T ∧ Hh' = upd Hh T (.tup [.int (i : Nat), u]) ∧ ∀ us, SqT K Hh t us → us[i]? = some u
  stop i Hh := ∃ us : List V, us.length ≤ i ∧ SqT K Hh t us
/-- a pair (number, item) behind all that there is, while only the walk's own two cells were touched -/
theorem pair_new {X : Cx} {pins : List (Addr × Obj)} {σ : L2.St} {Hh : Hp} {sh : Shared} {en ti : Addr} {n : Nat} {k : Tok} {u : V} {v : Value} {hp : Heap} {tk : Nat} (inv : Inv X pins σ Hh sh)
    (own : ∀ b ∈ [en, ti], FpOk X pins Hh b) (same : ∀ b ob, b ≠ en → b ≠ ti → sh.heap.get? b = some ob → hp.get? b = some ob)
    (at_ : hp.get? sh.heap.objs.size = some { cls := .type "tuple", data := .seq #[.int (n : Int) k, v] }) (rel : RelV u v) :
    Inv X pins σ (upd Hh sh.heap.objs.size (.tup [.int (n : Nat), u])) { sh with heap := hp, toks := tk } := by
  refine inv.turnedNew (ch := [en, ti]) (fun b ob nb q => same b ob (fun z => nb (by rw [z]; exact List.mem_cons_self ..)) (fun z => nb (by rw [z]; exact List.mem_cons_of_mem _ (List.mem_singleton.mpr rfl))) q) own (Nat.le_refl _) ?_
  exact ⟨(by decide : (2 : Nat) ≤ sizeLine), [.int (n : Int) k, v], .cons ⟨k, rfl⟩ (.cons rel .nil), _, at_, rfl, 0, rfl⟩
theorem two_of {b x y : Addr} (h : b ∈ [x, y]) : b = x ∨ b = y := by simpa using h
theorem turn_enumT {P : PySem.Program} {w : World} {K : PySem.W.Frag} {elts : List Expr} {kk : Nat} {tpos : Pos} (t en ti : Addr) (ht : ti ≠ t) (he : en ≠ t) :
    Turn P w K (.Tuple elts kk tpos) (IteT K t) [en, ti] en (fun n h => en ≠ ti ∧ h.IsTupleIter ti t n ∧ ∃ was, IsEnum h en ti ((n : Nat) : Int) was) := by
  constructor
  case mem => exact List.mem_cons_self ..
  case obj =>
    rintro n h ⟨_, ⟨oi, gi, _, di⟩, was, ge⟩ b hb
    rcases two_of hb with rfl | rfl
    · exact ⟨_, ge, fun _ z => nomatch z⟩
    · exact ⟨oi, gi, fun _ z => by rw [di] at z; cases z⟩
  case keep =>
    rintro n h hn ⟨ne, hi, was, ge⟩ kp
    exact ⟨ne, hi.at (fun o z => kp ti (by simp) o z), was, kp en (by simp) _ ge⟩
  case self => exact fun A n sh Q E st z => wpAny_pyIter_enum st.2.2.choose_spec z
  case item =>
    intro X e1 e2 e3 calm n pins sh σ Hh E inv own ⟨ne, hi, was, ge⟩ ⟨us, u, hu, sq⟩
    subst e1 e2 e3
    obtain ⟨vs, rel, tp, _⟩ := inv.tuple sq
    obtain ⟨v, hv, rv⟩ := rel.get hu
    have room : n < vs.toArray.size := (List.getElem?_eq_some_iff.mp hv).1
    have dr := Draws.tuple (prog := X.prog) (w := X.w) (A := X.A.in1) (inv.ok.hd calm) ti t (Ne.symm ht) vs.toArray
    refine wpAny_pyNext_enum_itemD (P := fun j x => vs.toArray[j]? = some x) dr ge ⟨hi, tp⟩ room ne (by simp [ne, he]) fun x h1 tk hx out st1 fresh _ only => ?_
    have same : x = v := Option.some.inj (hx.symm.trans (show vs.toArray[n]? = some v by simpa using hv))
    rw [same] at out fresh
    refine ⟨_, rfl, wpAny_letOwnedTupleGo_enum (s := { sh with heap := h1, toks := tk + 1 }) out fun h2 ge2 but => ?_⟩
    have live : ∀ b ∈ [en, ti], b < sh.heap.objs.size := fun b hb => by
      rcases two_of hb with rfl | rfl
      · exact Heap.lt_size ge
      · exact hi.elim fun _ z => Heap.lt_size z.1
    have inv2 := pair_new (tk := tk + 1) (hp := h2) inv own (fun b ob n1 n2 q => (but.2 b n1).trans (only b ob n1 n2 q)) ((but.2 _ (Nat.ne_of_gt (live en (by simp)))).trans fresh) rv
    refine ⟨.ref sh.heap.objs.size, _, inv2, rfl, ⟨_, u, inv.hok.fresh (Nat.le_refl _), rfl, rfl, fun us' z => by rw [inv.tuple_inj z sq, hu]⟩, ⟨ne, st1.1.at (fun o z => (but.2 ti (Ne.symm ne)).trans z), v, ?_⟩, fun b hb => ?_⟩
    · rw [Int.natCast_add]; exact ge2
    · exact (upd_ne (Nat.ne_of_lt (live b hb))).trans (own b hb).1
  case done =>
    intro X e1 e2 e3 calm n pins sh σ Hh E inv own ⟨ne, hi, was, ge⟩ ⟨us, le, sq⟩
    subst e1 e2 e3
    obtain ⟨vs, rel, tp, _⟩ := inv.tuple sq
    have over : vs.toArray[n]? = none := by
      have := rel.length
      simp; omega
    obtain ⟨z0, z1, z2, z3, z4, z5⟩ := own ti (by simp)
    exact wpAny_pyNext_enum_endT (inv.ok.hd calm) ge hi tp over fun h2 but => ⟨rfl, inv.turned (t' := sh.toks) (fun b o nb q => but b o nb q) z0 z1 z3 z4 z5⟩
def iEnumT (K : PySem.W.Frag) (ta : TA) : TI := fun σ Hh R => ta σ Hh fun vs H1 => ∃ t us, SqT K H1 t us ∧ vs = [.ref t] ∧ R (IteT K t) H1
theorem pi_enumT {X : Cx} {e : Expr} {ta : TA} {p pos tpos : Pos} {elts : List Expr} {kk : Nat} (hg : Gl X "enumerate") (free : X.mg "enumerate" = none) (arg : PA X [e] ta) (hs : starEach [e] X.env = [(false, eval e X.env)] := by rfl) :
    PI X (.Tuple elts kk tpos) (.Call (.Name "enumerate" p) [e] [] pos) (iEnumT X.K ta) := by
  constructor
  intro pins sh σ Hh R inv want
  refine Call_ (ld_blt inv hg free boot_enumerate (PyProof.Rows.callWith_type1 (thn (arg.run pos pins sh σ Hh _ inv want) fun us s1 got => ?_) hs rfl))
  obtain ⟨_, H1, inv1, rel, t, vs, sq, rfl, next⟩ := got
  obtain rfl : us = [.ref t] := Vals.ref1 rel
  obtain ⟨its, _, tp, _⟩ := inv1.tuple sq
  have tl : t < s1.heap.objs.size := tp.elim fun _ z => Heap.lt_size z.1
  refine enum1_begins (begins_tuple t its.toArray) tp fun h2 ge hi _ kept => wpAny_pyIter_enum ge ?_
  refine ⟨_, [s1.heap.objs.size + 1, s1.heap.objs.size], _, _, H1, rfl, inv1.kept (t' := s1.toks) kept, turn_enumT t _ s1.heap.objs.size (Nat.ne_of_gt tl) (Nat.ne_of_gt (Nat.lt_succ_of_lt tl)), ⟨Nat.succ_ne_self _, ⟨_, hi, rfl, rfl⟩, .none, ge⟩, fun b hb => ?_, next⟩
  have behind : s1.heap.objs.size ≤ b := by rcases two_of hb with rfl | rfl <;> omega
  exact inv1.fpOk behind (inv1.hok.fresh behind)
section
variable {G : Cfg} {ρ : Wd} {h : Mem} {H : Hp} {a : Addr} {ys : List V} {xs : List CV}
theorem itR_enumT (m : MemR G ρ h H) (s : SqT G.K H a ys) (r : ValsR G ρ H xs ys) : ItR G ρ H (IteT G.K a) (enumL 0 xs) := by
  intro ρ1 h1 H1 m1 e1
  have s1 : SqT G.K H1 a ys := e1.sqT m s
  have r1 := r.extH m e1
  have ln : (enumL 0 xs).length = ys.length := by rw [enumL_len, r1.len]
  refine ⟨fun i hi => ⟨ys, ys[i]'(by omega), by simp, s1⟩, ⟨ys, by omega, s1⟩, fun i x u H' q y => ?_⟩
  obtain ⟨T, w, hT, eu, eH, hw⟩ := y
  subst eu eH
  obtain ⟨z, h1, h2⟩ := enumL_get q
  subst h2
  obtain ⟨w', q3, r3⟩ := r1.get h1
  rw [hw ys s1] at q3
  cases q3
  refine ⟨m1.laid hT, Ext.laid hT, T, _, rfl, SqT.of upd_same, _, _, rfl, (by rw [Nat.zero_add]; exact (rfl : V.int _ = V.int _)), _, _, rfl, r3.ext m1 (Ext.laid hT), rfl⟩
end
noncomputable section
def ftOf (x : CV) : Option (List CV) := match x with
  | .tup ys => some ys
  | x => frzOf x
def enumOf2 (xs : List CV) : M (List CV) := match xs with
  | [x] => match ftOf x with
    | some ys => ret (enumL 0 ys)
    | none => stuck
  | _ => stuck
theorem tM_bindE {α γ δ β : Type} {G : Cfg} {W : WX} {R : Wd → Hp → α → β → Prop} {S : Wd → Hp → γ → δ → Prop} {ρ : Wd} {h : Mem} {H : Hp} {τ : Sl} {σ : L2.St} {ma : Sl → M α} {k : α → M γ} {Q : δ → Hp → Prop} {C : β → Hp → Prop} (m : MemR G ρ h H) (s : SlR G ρ H τ σ) (p : Post G W S σ ρ H (bnd (ma τ) k h) Q)
    (hC : ∀ a h1 ρ1 H1 b, ma τ h = .ok a h1 → MemR G ρ1 h1 H1 → Ext ρ H ρ1 H1 → SlR G ρ1 H1 τ σ → R ρ1 H1 a b → Post G W S σ ρ1 H1 (k a h1) Q → C b H1) : tM G W R ma σ H C := by
  refine ⟨ρ, h, τ, m, s, ?_⟩
  unfold bnd at p
  cases e : ma τ h with
  | ok a h1 =>
    rw [e] at p
    exact fun ρ1 H1 b m1 e1 r => hC a h1 ρ1 H1 b e m1 e1 (s.ext m e1) r (Post.ext (G := G) (W := W) p e1)
  | exc x h1 => rw [e] at p; exact p
  | bad => rw [e] at p; exact p
theorem si_enum2 {G : Cfg} {W : WX} {X : Cx} {e : Expr} {ml : Sl → M (List CV)} {p pos : Pos} {elts : List Expr} {kk : Nat} {tpos : Pos} (hK : G.K = X.K) (hg : Gl X "enumerate") (hm : X.mg "enumerate" = none) (ha : SA G W X [e] ml) (hs : starEach [e] X.env = [(false, eval e X.env)] := by rfl) :
    SI G W X (.Tuple elts kk tpos) (.Call (.Name "enumerate" p) [e] [] pos) (iArgs enumOf2 ml) :=
  ((pi_enum hg hm ha hs).or (pi_enumT hg hm ha hs)).wk fun σ H R ⟨ρ, h, τ, m, s, p⟩ => by
    by_cases c : ∃ ys h1, ml τ h = .ok [.tup ys] h1
    · obtain ⟨ys, hh, c⟩ := c
      refine .inr (tM_bindE m s p fun xs h1 ρ1 H1 us eq m1 e1 s1 r1 p1 => ?_)
      rw [c] at eq
      cases eq
      obtain ⟨y, t, eu, ⟨a, vs, ea, z, r⟩, rt⟩ := r1
      cases (show t = [] from rt)
      subst ea
      rw [← hK]
      exact ⟨a, vs, z, eu, p1 ρ1 H1 _ m1 Ext.refl (itR_enumT m1 z r)⟩
    · refine .inl (tM_bindE m s p fun xs h1 ρ1 H1 us eq m1 e1 s1 r1 p1 => ?_)
      rw [← hK]
      cases xs with
      | nil => exact p1.elim
      | cons x t =>
        cases t with
        | cons _ _ => exact p1.elim
        | nil =>
          simp only [enumOf2] at p1
          cases q : ftOf x with
          | none => rw [q] at p1; exact p1.elim
          | some ys =>
            rw [q] at p1
            have q2 : frzOf x = some ys := by
              cases x with
              | tup zs => exact absurd ⟨zs, h1, eq⟩ c
              | _ => exact q
            obtain ⟨y, t, eu, ry, rt⟩ := r1
            cases (show t = [] from rt)
            obtain ⟨a, vs, ea, z, r⟩ := frzOf_r ry q2
            subst ea
            exact ⟨a, vs, eu, z.l, p1 ρ1 H1 _ m1 Ext.refl (itR_enum m1 z r)⟩
end
end VE

noncomputable section
namespace VE
open PySem PySem.Spec
section
variable {α β : Type} {a : α} {h : Mem} {x : Exn} {k : α → M β} {τ : Sl} {f : Fl}
theorem rd_bnd (m : M α) (k : α → M β) : bnd m k h = match m h with | .ok a h' => k a h' | .exc x h' => .exc x h' | .bad => .bad := by unfold bnd; cases m h <;> rfl
theorem rd_inS (m : M α) (τ : Sl) (k : α → Mem → OS) : inS m τ k h = match m h with | .ok a h' => k a h' | .exc x h' => .mk (.ex x τ) h' | .bad => .bad := by unfold inS; cases m h <;> rfl
theorem rd_eVar (i : Nat) : eVar i τ h = match τ[i]? with | some (some v) => .ok v h | _ => .bad := by
  unfold eVar; rw [sget_eq]; rcases τ[i]? with _ | _ | v <;> rfl
theorem rd_eC (v : CV) : eC v τ h = .ok v h := rfl
theorem rd_ret (v : α) : ret v h = .ok v h := rfl
theorem rd_stuck : (stuck : M α) h = .bad := rfl
theorem rd_eOp (g : CV → CV → M CV) (a b : Sl → M CV) : eOp g a b τ h = match a τ h with | .ok x h' => (match b τ h' with | .ok y h'' => g x y h'' | .exc x h' => .exc x h' | .bad => .bad) | .exc x h' => .exc x h' | .bad => .bad := by
  unfold eOp; rw [rd_bnd]; cases a τ h <;> simp only [rd_bnd]; try cases b τ _ <;> rfl
theorem rd_eUn (g : CV → M CV) (a : Sl → M CV) : eUn g a τ h = match a τ h with | .ok x h' => g x h' | .exc x h' => .exc x h' | .bad => .bad := by
  unfold eUn; rw [rd_bnd]; try cases a τ h <;> rfl
theorem rd_eNilA : eNilA τ h = .ok [] h := rfl
theorem rd_eConsA (a : Sl → M CV) (r : Sl → M (List CV)) : eConsA a r τ h = match a τ h with | .ok x h' => (match r τ h' with | .ok y h'' => .ok (x :: y) h'' | .exc x h' => .exc x h' | .bad => .bad) | .exc x h' => .exc x h' | .bad => .bad := by
  unfold eConsA; rw [rd_bnd]; cases a τ h <;> simp only [rd_bnd]; try cases r τ _ <;> rfl
theorem rd_mSeq (a b : MS) : mSeq a b τ h = match a τ h with | .mk (.nx τ') h' => b τ' h' | .mk (.rt v) h' => .mk (.rt v) h' | .mk (.bk τ') h' => .mk (.bk τ') h' | .mk (.ct τ') h' => .mk (.ct τ') h' | .mk (.ex x τ') h' => .mk (.ex x τ') h' | .bad => .bad := by
  unfold mSeq; rcases a τ h with ⟨f, _⟩ | _ <;> try rfl
  cases f <;> rfl
theorem rd_mAsg (g : CV → Sl → M Sl) (e : Sl → M CV) : mAsg g e τ h = match e τ h with | .ok x h' => (match g x τ h' with | .ok τ' h'' => .mk (.nx τ') h'' | _ => .bad) | .exc x h' => .mk (.ex x τ) h' | .bad => .bad := by
  unfold mAsg; rw [rd_inS]; cases e τ h <;> try rfl
  dsimp only; cases g _ τ _ <;> rfl
theorem rd_gSet (i : Nat) (v : CV) : gSet i v τ h = .ok (τ.set i (some v)) h := by
  unfold gSet; rw [frV_eq, sset_eq]
theorem rd_mIf (c : Sl → M Bool) (a b : MS) : mIf c a b τ h = match c τ h with | .ok true h' => a τ h' | .ok false h' => b τ h' | .exc x h' => .mk (.ex x τ) h' | .bad => .bad := by
  unfold mIf; rw [rd_inS]; rcases c τ h with ⟨k, _⟩ | _ | _ <;> try rfl
  cases k <;> rfl
theorem rd_mRet (e : Sl → M CV) : mRet e τ h = match e τ h with | .ok x h' => .mk (.rt x) h' | .exc x h' => .mk (.ex x τ) h' | .bad => .bad := by
  unfold mRet; rw [rd_inS]; cases e τ h <;> rfl
theorem rd_mRetN : mRetN τ h = .mk (.rt .non) h := rfl
theorem rd_mNil : mNil τ h = .mk (.nx τ) h := rfl
theorem rd_mExpr (e : Sl → M CV) : mExpr e τ h = match e τ h with | .ok x h' => .mk (.nx τ) h' | .exc x h' => .mk (.ex x τ) h' | .bad => .bad := by
  unfold mExpr; rw [rd_inS]; cases e τ h <;> rfl
theorem rd_mAug (i : Nat) (g : CV → CV → M CV) (e : Sl → M CV) : mAug i g e τ h = match τ[i]? with
    | some (some x) => (match e τ h with
      | .ok y h' => (match g x y h' with
        | .ok z h'' => .mk (.nx (τ.set i (some z))) h''
        | _ => .bad)
      | .exc x h' => .mk (.ex x τ) h'
      | .bad => .bad)
    | _ => .bad := by
  unfold mAug; rw [sget_eq]; rcases τ[i]? with _ | _ | x <;> try rfl
  dsimp only; rw [rd_inS]; cases e τ h <;> try rfl
  dsimp only; cases g x _ _ <;> try rfl
  dsimp only; rw [frV_eq, sset_eq]
theorem rd_endB_rt (v : CV) : endB (.mk (.rt v) h) = .ok v h := rfl
theorem rd_endB_nx : endB (.mk (.nx τ) h) = .ok .non h := rfl
theorem rd_endB_bad : endB .bad = .bad := rfl
theorem rd_endB_ex : endB (.mk (.ex x τ) h) = .exc x h := rfl
theorem rd_isB (b : Bool) : isB (.bl b) h = .ok b h := rfl
theorem rd_bOf (e : Sl → M CV) : bOf e τ h = match e τ h with | .ok x h' => isB x h' | .exc x h' => .exc x h' | .bad => .bad := by
  unfold bOf; rw [rd_bnd]; cases e τ h <;> rfl
theorem rd_bNot (e : Sl → M Bool) : bNot e τ h = match e τ h with | .ok x h' => .ok (!x) h' | .exc x h' => .exc x h' | .bad => .bad := by
  unfold bNot; rw [rd_bnd]; cases e τ h <;> rfl
theorem rd_bOr (a b : Sl → M Bool) : bOr a b τ h = match a τ h with | .ok true h' => .ok true h' | .ok false h' => b τ h' | .exc x h' => .exc x h' | .bad => .bad := by
  unfold bOr; rw [rd_bnd]; rcases a τ h with ⟨k, _⟩ | _ | _ <;> try rfl
  cases k <;> rfl
theorem rd_bAnd (a b : Sl → M Bool) : bAnd a b τ h = match a τ h with | .ok true h' => b τ h' | .ok false h' => .ok false h' | .exc x h' => .exc x h' | .bad => .bad := by
  unfold bAnd; rw [rd_bnd]; rcases a τ h with ⟨k, _⟩ | _ | _ <;> try rfl
  cases k <;> rfl
theorem rd_eIf (c : Sl → M Bool) (a b : Sl → M CV) : eIf c a b τ h = match c τ h with | .ok true h' => a τ h' | .ok false h' => b τ h' | .exc x h' => .exc x h' | .bad => .bad := by
  unfold eIf; rw [rd_bnd]; rcases c τ h with ⟨k, _⟩ | _ | _ <;> try rfl
  cases k <;> rfl
theorem rd_eAnd (a b : Sl → M CV) : eAnd a b τ h = match a τ h with | .ok (.bl true) h' => b τ h' | .ok (.bl false) h' => .ok (.bl false) h' | .ok _ _ => .bad | .exc x h' => .exc x h' | .bad => .bad := by
  unfold eAnd; rw [rd_bnd]; rcases a τ h with ⟨k, _⟩ | _ | _ <;> try rfl
  dsimp only; rw [rd_bnd]; cases k <;> try rfl
  rename_i k; cases k <;> rfl
theorem rd_eNot (a : Sl → M CV) : eNot a τ h = match a τ h with | .ok (.bl b) h' => .ok (.bl !b) h' | .ok _ _ => .bad | .exc x h' => .exc x h' | .bad => .bad := by
  unfold eNot; rw [rd_bnd]; rcases a τ h with ⟨k, _⟩ | _ | _ <;> try rfl
  dsimp only; rw [rd_bnd]; cases k <;> try rfl
theorem rd_eCall (np : Nat) (F : List CV → M CV) (ml : Sl → M (List CV)) : eCall np F ml τ h = match ml τ h with | .ok xs h' => (if xs.length = np then F xs h' else .bad) | .exc x h' => .exc x h' | .bad => .bad := by
  unfold eCall; rw [rd_bnd]; rcases ml τ h with ⟨k, _⟩ | _ | _ <;> try rfl
  dsimp only; split <;> rfl
theorem rd_eB (F : List CV → M CV) (ml : Sl → M (List CV)) : eB F ml τ h = match ml τ h with | .ok xs h' => F xs h' | .exc x h' => .exc x h' | .bad => .bad := by
  unfold eB; rw [rd_bnd]; cases ml τ h <;> rfl
theorem rd_iArgs (F : List CV → M (List CV)) (ml : Sl → M (List CV)) : iArgs F ml τ h = match ml τ h with | .ok xs h' => F xs h' | .exc x h' => .exc x h' | .bad => .bad := by
  unfold iArgs; rw [rd_bnd]; cases ml τ h <;> rfl
theorem rd_memAt (l : Nat) : memAt h l = match h[l]? with | some (.lst xs) => some xs | _ => none := by
  unfold memAt; rw [sget_eq]; rcases h[l]? with _ | _ | _ <;> rfl
theorem rd_mFor (it : Sl → M (List CV)) (g : CV → Sl → M Sl) (b : MS) : mFor it g b τ h = match it τ h with | .ok xs h' => mForL g b xs τ h' | .exc x h' => .mk (.ex x τ) h' | .bad => .bad := by
  unfold mFor; rw [rd_inS]; cases it τ h <;> rfl
theorem rd_eNew (ml : Sl → M (List CV)) : eNew ml τ h = match ml τ h with | .ok xs h' => (if xs.length ≤ 1000 then .ok (.ref h'.length) (h' ++ [.lst xs]) else .bad) | .exc x h' => .exc x h' | .bad => .bad := by
  unfold eNew; rw [rd_bnd]; rcases ml τ h with ⟨k, _⟩ | _ | _ <;> try rfl
  dsimp only; split
  · rw [frLs_eq (frV_eq 3), frN_eq, sapp_eq]
  · rfl
theorem rd_pyAtN (xs : List CV) (n : Nat) : pyAt xs (n : Int) = xs[n]? := sget_eq xs n
theorem rd_pyAtL (xs : List CV) (n : Nat) : pyAt xs (@OfNat.ofNat Int n instOfNat) = xs[n]? := sget_eq xs n
theorem rd_pyAt0 (xs : List CV) : pyAt xs 0 = xs[0]? := sget_eq xs 0
theorem rd_pyAt1 (xs : List CV) : pyAt xs 1 = xs[1]? := sget_eq xs 1
theorem rd_pyAt2 (xs : List CV) : pyAt xs 2 = xs[2]? := sget_eq xs 2
theorem rd_pyAt3 (xs : List CV) : pyAt xs 3 = xs[3]? := sget_eq xs 3
theorem rd_pyAt4 (xs : List CV) : pyAt xs 4 = xs[4]? := sget_eq xs 4
theorem rd_pyAtM (xs : List CV) (n : Nat) : pyAt xs (Int.negSucc n) = if n < xs.length then xs[xs.length - (n + 1)]? else none := by
  show (if n < xs.length then sget xs (xs.length - (n + 1)) else none) = _
  rw [sget_eq]
end
theorem mSeq_nx {a b : MS} {τ τ' : Sl} {h h' : Mem} (e : a τ h = .mk (.nx τ') h') : mSeq a b τ h = b τ' h' := by rw [rd_mSeq, e]
theorem mSeq_rt {a b : MS} {τ : Sl} {v : CV} {h h' : Mem} (e : a τ h = .mk (.rt v) h') : mSeq a b τ h = .mk (.rt v) h' := by rw [rd_mSeq, e]
theorem mFor_nx {it : Sl → M (List CV)} {g : CV → Sl → M Sl} {b : MS} {τ : Sl} {h h1 : Mem} {xs : List CV} (e : it τ h = .ok xs h1) : mFor it g b τ h = mForL g b xs τ h1 := by rw [rd_mFor, e]
theorem mRet_ok {e : Sl → M CV} {τ : Sl} {v : CV} {h h' : Mem} (q : e τ h = .ok v h') : mRet e τ h = .mk (.rt v) h' := by rw [rd_mRet, q]
theorem mAsg_ok {e : Sl → M CV} {i : Nat} {τ : Sl} {v : CV} {h h' : Mem} (q : e τ h = .ok v h') : mAsg (gSet i) e τ h = .mk (.nx (τ.set i (some v))) h' := by rw [rd_mAsg, q]; simp only [rd_gSet]
theorem mExpr_ok {e : Sl → M CV} {τ : Sl} {v : CV} {h h' : Mem} (q : e τ h = .ok v h') : mExpr e τ h = .mk (.nx τ) h' := by rw [rd_mExpr, q]
theorem mIf_f {c : Sl → M Bool} {a b : MS} {τ : Sl} {h h' : Mem} (q : c τ h = .ok false h') : mIf c a b τ h = b τ h' := by rw [rd_mIf, q]
theorem mIf_t {c : Sl → M Bool} {a b : MS} {τ : Sl} {h h' : Mem} (q : c τ h = .ok true h') : mIf c a b τ h = a τ h' := by rw [rd_mIf, q]
theorem run_rt {np nl : Nat} {b : MS} {xs : List CV} {v : CV} {h h' : Mem} (hl : xs.length = np) (q : b (startC nl xs) h = .mk (.rt v) h') : runB np nl b xs h = .ok v h' := by rw [runB_eq, if_pos hl, q]; rfl
theorem callF_read {np : Nat} {F : List CV → M CV} {xs : List CV} {h h' : Mem} {v v' : CV} (e : F xs [] = .ok v h') (hn : noRefs xs = true) (hl : xs.length = np) (hf : frzV 9 h' v = some v') : callF np F xs h = .ok v' h := by
  unfold callF
  rw [if_pos hl, if_pos hn, e]
  simp only [hf]
theorem eOp_ok {g : CV → CV → M CV} {a b : Sl → M CV} {τ : Sl} {x y z : CV} {h h1 h2 h3 : Mem} (e1 : a τ h = .ok x h1) (e2 : b τ h1 = .ok y h2) (e3 : g x y h2 = .ok z h3) : eOp g a b τ h = .ok z h3 := by rw [rd_eOp, e1]; simp only [e2, e3]
theorem eVar_ok {i : Nat} {τ : Sl} {v : CV} {h : Mem} (e : τ[i]? = some (some v)) : eVar i τ h = .ok v h := by rw [rd_eVar, e]
theorem eB_ok {F : List CV → M CV} {ml : Sl → M (List CV)} {τ : Sl} {xs : List CV} {v : CV} {h h1 h2 : Mem} (e1 : ml τ h = .ok xs h1) (e2 : F xs h1 = .ok v h2) : eB F ml τ h = .ok v h2 := by rw [rd_eB, e1]; exact e2
theorem eCall_ok {np : Nat} {F : List CV → M CV} {ml : Sl → M (List CV)} {τ : Sl} {xs : List CV} {v : CV} {h h1 h2 : Mem} (e1 : ml τ h = .ok xs h1) (hl : xs.length = np) (e2 : F xs h1 = .ok v h2) : eCall np F ml τ h = .ok v h2 := by rw [rd_eCall, e1]; simp only [if_pos hl]; exact e2
theorem eNil_ok {τ : Sl} {h : Mem} : eNilA τ h = .ok [] h := rfl
theorem eC_ok {v : CV} {τ : Sl} {h : Mem} : eC v τ h = .ok v h := rfl
theorem eCons_ok {a : Sl → M CV} {r : Sl → M (List CV)} {τ : Sl} {x : CV} {xs : List CV} {h h1 h2 : Mem} (e1 : a τ h = .ok x h1) (e2 : r τ h1 = .ok xs h2) : eConsA a r τ h = .ok (x :: xs) h2 := by rw [rd_eConsA, e1]; simp only [e2]
theorem iArgs_ok {F : List CV → M (List CV)} {ml : Sl → M (List CV)} {τ : Sl} {xs ys : List CV} {h h1 h2 : Mem} (e1 : ml τ h = .ok xs h1) (e2 : F xs h1 = .ok ys h2) : iArgs F ml τ h = .ok ys h2 := by rw [rd_iArgs, e1]; exact e2
theorem bOf_ok {e : Sl → M CV} {τ : Sl} {b : Bool} {h h1 : Mem} (q : e τ h = .ok (.bl b) h1) : bOf e τ h = .ok b h1 := by rw [rd_bOf, q]; rfl
theorem bNot_ok {e : Sl → M Bool} {τ : Sl} {b : Bool} {h h1 : Mem} (q : e τ h = .ok b h1) : bNot e τ h = .ok (!b) h1 := by rw [rd_bNot, q]
theorem bOr_ff {a b : Sl → M Bool} {τ : Sl} {h h1 h2 : Mem} (q : a τ h = .ok false h1) (q2 : b τ h1 = .ok false h2) : bOr a b τ h = .ok false h2 := by rw [rd_bOr, q]; exact q2
theorem mPar_ok {i j : Nat} {ml : Sl → M (List CV)} {τ : Sl} {x y : CV} {h h1 : Mem} (q : ml τ h = .ok [x, y] h1) : mPar i j ml τ h = .mk (.nx ((τ.set i (some x)).set j (some y))) h1 := by
  unfold mPar; rw [rd_inS, q]; simp only [frV_eq, sset_eq]
theorem mPar3_ok {i j l : Nat} {ml : Sl → M (List CV)} {τ : Sl} {x y z : CV} {h h1 : Mem} (q : ml τ h = .ok [x, y, z] h1) : mPar3 i j l ml τ h = .mk (.nx (((τ.set i (some x)).set j (some y)).set l (some z))) h1 := by
  unfold mPar3; rw [rd_inS, q]; simp only [frV_eq, sset_eq]
/-- a for, by what stands before each turn -/
theorem forL_inv {g : CV → Sl → M Sl} {b : MS} (I : Nat → Sl → Mem → Prop) : ∀ (xs : List CV) (k : Nat) (τ : Sl) (h : Mem), I k τ h →
    (∀ i x τ h, xs[i]? = some x → I (k + i) τ h → ∃ τ1 h1 τ2 h2, g x τ h = .ok τ1 h1 ∧ b τ1 h1 = .mk (.nx τ2) h2 ∧ I (k + i + 1) τ2 h2) → ∃ τ' h', mForL g b xs τ h = .mk (.nx τ') h' ∧ I (k + xs.length) τ' h'
  | [], k, τ, h, h0, _ => ⟨τ, h, rfl, h0⟩
  | x :: xs, k, τ, h, h0, st => by
    obtain ⟨τ1, h1, τ2, h2, e1, e2, e3⟩ := st 0 x τ h rfl h0
    obtain ⟨τ', h', q1, q2⟩ := forL_inv I xs (k + 1) τ2 h2 e3 (fun i y τ h hy hi => by
      have := st (i + 1) y τ h (by simpa using hy) (by rw [show k + (i + 1) = k + 1 + i by omega]; exact hi)
      rw [show k + (i + 1) + 1 = k + 1 + i + 1 by omega] at this
      exact this)
    refine ⟨τ', h', ?_, by rw [List.length_cons, show k + (xs.length + 1) = k + 1 + xs.length by omega]; exact q2⟩
    show Out.rec (motive := fun _ => OS) (fun τ1 h1 => turn (mForL g b xs) (b τ1 h1)) (fun _ _ => .bad) .bad (g x τ h) = _
    rw [e1]
    show turn (mForL g b xs) (b τ1 h1) = _
    rw [e2]
    exact q1
/-- a while, by a measure -/
theorem while_inv {c : Sl → M Bool} {b : MS} (I : Nat → Sl → Mem → Prop) (st : ∀ k τ h, I (k + 1) τ h → ∃ h0 τ2 h2, c τ h = .ok true h0 ∧ b τ h0 = .mk (.nx τ2) h2 ∧ ∃ j, j ≤ k ∧ I j τ2 h2) (en : ∀ τ h, I 0 τ h → c τ h = .ok false h) :
    ∀ (n k : Nat) (τ : Sl) (h : Mem), k < n → I k τ h → ∃ τ' h', mWhile c b n τ h = .mk (.nx τ') h' ∧ I 0 τ' h'
  | 0, k, _, _, hk, _ => absurd hk (by omega)
  | n + 1, 0, τ, h, _, hi => by
    refine ⟨τ, h, ?_, hi⟩
    show inS (c τ) τ (fun k h => Bool.rec (.mk (.nx τ) h) (turn (mWhile c b n) (b τ h)) k) h = _
    rw [rd_inS, en τ h hi]
  | n + 1, k + 1, τ, h, hk, hi => by
    obtain ⟨h0, τ2, h2, e1, e2, j, hj, e3⟩ := st k τ h hi
    obtain ⟨τ', h', q1, q2⟩ := while_inv I st en n j τ2 h2 (by omega) e3
    refine ⟨τ', h', ?_, q2⟩
    show inS (c τ) τ (fun k h => Bool.rec (.mk (.nx τ) h) (turn (mWhile c b n) (b τ h)) k) h = _
    rw [rd_inS, e1]
    show turn (mWhile c b n) (b τ h0) = _
    rw [e2]
    exact q1
/-- a list comprehension, item by item -/
theorem lc_ok {g : CV → Sl → M Sl} {te : Sl → M CV} {τ : Sl} {h : Mem} (f : Nat → CV) : ∀ (xs : List CV) (k : Nat), (∀ i x, xs[i]? = some x → ∃ τ1, g x τ h = .ok τ1 h ∧ te τ1 h = .ok (f (k + i)) h) → lcL g bYes te τ xs h = .ok ((List.range xs.length).map fun i => f (k + i)) h
  | [], k, _ => rfl
  | x :: xs, k, st => by
    obtain ⟨τ1, e1, e2⟩ := st 0 x rfl
    have ih := lc_ok (g := g) (te := te) (τ := τ) (h := h) f xs (k + 1) (fun i y hy => by
      have := st (i + 1) y (by simpa using hy)
      rw [show k + (i + 1) = k + 1 + i by omega] at this
      exact this)
    rw [lcL_eq] at ih ⊢
    unfold lcR
    simp only [e1, bYes, rd_ret, e2, ih, List.length_cons, List.range_succ_eq_map, List.map_cons, List.map_map, Nat.add_zero]
    refine congrArg (fun l => Out.ok (f k :: l) h) (List.map_congr_left fun i _ => ?_)
    show f (k + 1 + i) = f (k + (i + 1))
    rw [show k + (i + 1) = k + 1 + i by omega]
end VE

namespace VE
open PySem PySem.Spec PyProof.Rows L2
/-- comb with counts that the library's rule takes -/
def combR : List V → Hp → VK → Prop := fun us H Q => ∃ n k : Int, us = [.int n, .int k] ∧ (0 ≤ n ∧ 0 ≤ k ∧ n ≤ 18000) ∧ Q (.int (PySem.W.mcComb n k)) H
theorem comb_run {X : Cx} : CallR X (.builtin "math.comb") combR := by
  intro pins s σ H vs us Q I r h
  obtain ⟨n, k, rfl, ⟨h0, h1, h2⟩, q⟩ := h
  obtain ⟨t, u, rfl⟩ := Vals.int2 r
  exact PySem.W.mc_comb h0 h1 (by omega) (.inr h2) fun _ => ⟨.int _, H, I.tok _, ⟨_, rfl⟩, q⟩
def pyGcd (xs : List CV) : M CV := match xs with
  | [.int i, .int j] => ret (.int ((Nat.gcd i.natAbs j.natAbs : Nat) : Int))
  | _ => stuck
def pyComb (xs : List CV) : M CV := match xs with
  | [.int i, .int j] => if 0 ≤ i ∧ 0 ≤ j ∧ i ≤ 18000 then ret (.int (PySem.W.mcComb i j)) else stuck
  | _ => stuck
theorem pyGcd_ok {G : Cfg} : OpL G rGcd pyGcd := by
  intro W σ ρ h H xs us Q m r p
  unfold pyGcd at p
  split at p
  · rename_i i j
    obtain ⟨y, t, e, r1, y2, t2, e2, r2, r3⟩ := r
    cases (show t2 = [] from r3)
    cases (show y = V.int i from r1)
    cases (show y2 = V.int j from r2)
    subst e2
    exact ⟨i, j, e, p ρ H _ m Ext.refl rfl⟩
  · exact p.elim
theorem pyComb_ok {G : Cfg} : OpL G combR pyComb := by
  intro W σ ρ h H xs us Q m r p
  unfold pyComb at p
  split at p
  · rename_i i j
    by_cases c : 0 ≤ i ∧ 0 ≤ j ∧ i ≤ 18000
    · rw [if_pos c] at p
      obtain ⟨y, t, e, r1, y2, t2, e2, r2, r3⟩ := r
      cases (show t2 = [] from r3)
      cases (show y = V.int i from r1)
      cases (show y2 = V.int j from r2)
      subst e2
      exact ⟨i, j, e, c, p ρ H _ m Ext.refl rfl⟩
    · rw [if_neg c] at p
      exact p.elim
  · exact p.elim
section
variable {G : Cfg} {W : WX} {X : Cx} {pos p : Pos} {e : Expr} {es : List Expr} {ml : Sl → M (List CV)} {x : Str}
/-- f(e, ..), f a name of a module's built-in function -/
theorem se_callBf {id : String} {r : List V → Hp → VK → Prop} {g : List CV → M CV} (hc : CallR X (.builtin id) r) (hgr : OpL G r g) (hg : Gl X x) (hm : X.mg x = some (.builtin id)) (ha : SA G W X (e :: es) ml)
    (hdb : (x == ("__debug__" : Str)) = false := by decide) (he : starEach (e :: es) X.env = (false, eval e X.env) :: starEach es X.env := by rfl) (hpl : (backTo pos (starEach es X.env)).any (·.1) = false := by rfl) :
    SE G W X (.Call (.Name x p) (e :: es) [] pos) (eB g ml) :=
  (pe_callBfun hc hg hm ha hdb he hpl).wk fun σ H Q ⟨ρ, h, τ, m, s, q⟩ => tM_bind m s q fun xs h1 ρ1 H1 us m1 e1 s1 r1 p1 => hgr W σ ρ1 h1 H1 xs us Q m1 r1 p1
end

mutual
def KV (K : PySem.W.Frag) : CV → Value → Prop
  | .non, v => v = .none
  | .bl b, v => v = .bool b
  | .int i, v => ∃ t, v = .int i t
  | .str x, v => ∃ t, v = .str x t
  | .tup xs, v => ∃ a o its n, v = .ref a ∧ K.lookup a = some o ∧ o.cls = .type "tuple" ∧ o.data = .seq its n ∧ its.size ≤ sizeLine ∧ KVs K xs its.toList
  | .frz xs, v => ∃ a o its n, v = .ref a ∧ K.lookup a = some o ∧ o.cls = .type "list" ∧ o.dict = none ∧ o.data = .seq its n ∧ its.size ≤ sizeLine ∧ KVs K xs its.toList
  | _, _ => False
def KVs (K : PySem.W.Frag) : List CV → List Value → Prop
  | [], vs => vs = []
  | x :: xs, vs => ∃ v r, vs = v :: r ∧ KV K x v ∧ KVs K xs r
end
mutual
theorem KV.at {G : Cfg} : ∀ {c : CV} {v : Value}, KV G.K c v → ∃ u : V, RelV u v ∧ ∀ ρ H, ValR G ρ H c u
  | .non, v, h => ⟨.non, h, fun _ _ => rfl⟩
  | .bl b, v, h => ⟨.bl b, h, fun _ _ => rfl⟩
  | .int i, v, h => ⟨.int i, h, fun _ _ => rfl⟩
  | .str x, v, h => ⟨.str x, h, fun _ _ => rfl⟩
  | .tup xs, v, ⟨a, o, its, n, e, l, hc, hd, hs, r⟩ => by
      obtain ⟨ys, ry, rv⟩ := KVs.at r
      exact ⟨.ref a, e, fun ρ H => ⟨a, ys, rfl, .inr ⟨o, its, n, l, hc, hd, hs, ry⟩, rv ρ H⟩⟩
  | .frz xs, v, ⟨a, o, its, n, e, l, hc, hdi, hd, hs, r⟩ => by
      obtain ⟨ys, ry, rv⟩ := KVs.at r
      exact ⟨.ref a, e, fun ρ H => ⟨a, ys, rfl, .inr (.inr ⟨o, its, n, l, hc, hdi, hd, hs, ry⟩), rv ρ H⟩⟩
  | .lst _, _, h => (h : False).elim
  | .ref _, _, h => (h : False).elim
  | .cls _, _, h => (h : False).elim
  | .fn _, _, h => (h : False).elim
  | .ty _, _, h => (h : False).elim
theorem KVs.at {G : Cfg} : ∀ {cs : List CV} {vs : List Value}, KVs G.K cs vs → ∃ us : List V, Vals us vs ∧ ∀ ρ H, ValsR G ρ H cs us
  | [], vs, h => by cases (show vs = [] from h); exact ⟨[], .nil, fun _ _ => rfl⟩
  | c :: cs, vs, ⟨v, r, e, h1, h2⟩ => by
      obtain ⟨u, ru, rv⟩ := KV.at h1
      obtain ⟨us, rus, rvs⟩ := KVs.at h2
      subst e
      exact ⟨u :: us, .cons ru rus, fun ρ H => ⟨u, us, rfl, rv ρ H, rvs ρ H⟩⟩
end
theorem se_gk {G : Cfg} {W : WX} {X : Cx} {pos : Pos} {x : Str} {c : CV} (hg : Gl X x) (hm : ∃ v, X.mg x = some v ∧ KV G.K c v) (hd : (x == ("__debug__" : Str)) = false := by decide) : SE G W X (.Name x pos) (eC c) := by
  obtain ⟨v, e, k⟩ := hm
  obtain ⟨u, ru, rv⟩ := k.at
  exact se_glo hg e ru rv hd
theorem tup_mk {K : PySem.W.Frag} {a : Addr} {d : Option Addr} {its : Array Value} {n : Nat} {sl : Array (Option Value)} {xs : List CV} (l : K.lookup a = some ⟨.type "tuple", d, .seq its n, sl⟩) (hs : its.size ≤ sizeLine) (r : KVs K xs its.toList) : KV K (.tup xs) (.ref a) :=
  ⟨a, _, its, n, rfl, l, rfl, rfl, hs, r⟩
theorem gk_mk {K : PySem.W.Frag} {h : Heap} {mg : Str → Option Value} (X : K.In h) (G : h.Ns mainGlobals mg) {x : Str} {v : Value} {c : CV} (a : PySem.W.nsIn K mainGlobals x = some (some v)) (k : KV K c v) : ∃ v, mg x = some v ∧ KV K c v := ⟨v, PySem.W.mg_of X G a, k⟩
end VE

noncomputable section
namespace VE
open PySem PySem.Spec PyProof.Rows L2
inductive Src where
  | fix (xs : List CV) | mem (en : Bool) (l : Nat)
def wr (en : Bool) (i : Nat) (x : CV) : CV := Bool.rec x (.tup [.int (Int.ofNat i), x]) en
def rdAt (en : Bool) (l i : Nat) (h : Mem) : Option (Option CV) := match memAt h l with
  | some xs => match sget xs i with
    | some x => some (some (wr en i x))
    | none => some none
  | none => none
def mForR (en : Bool) (l : Nat) (g : CV → Sl → M Sl) (b : MS) (n : Nat) : Nat → MS := Nat.rec (fun _ _ _ => .bad) (fun _ ih i τ h => match rdAt en l i h with
  | none => .bad
  | some none => .mk (.nx τ) h
  | some (some x) => Out.rec (fun τ1 h1 => turn (frN (i + 1) ih) (b τ1 h1)) (fun _ _ => .bad) .bad (g x τ h)) n
def mForA (it : Sl → M Src) (g : CV → Sl → M Sl) (b : MS) : MS := fun τ => inS (it τ) τ fun s h => match s with
  | .fix xs => mForL g b xs τ h
  | .mem en l => mForR en l g b 1000000 0 τ h
def ItM (G : Cfg) (ρ0 : Wd) (H0 : Hp) (J : It) (en : Bool) (l : Nat) : Prop :=
  ∀ ρ h H, MemR G ρ h H → ExtH ρ0 H0 ρ H → ∀ xs, memAt h l = some xs → (∀ i, i < xs.length → J.go i H) ∧ (∀ i, xs.length ≤ i → J.stop i H) ∧ ∀ (i : Nat) (x : CV) (u : V) (H' : Hp), xs[i]? = some x → J.yld i H u H' → MemR G ρ h H' ∧ Ext ρ H ρ H' ∧ ValR G ρ H' (wr en i x) u
def SrcR (G : Cfg) (ρ : Wd) (H : Hp) (s : Src) (J : It) : Prop := match s with
  | .fix xs => ItR G ρ H J xs
  | .mem en l => ItM G ρ H J en l
def tItA (G : Cfg) (W : WX) (it : Sl → M Src) : TI := fun σ H R => tM G W (SrcR G) it σ H R
abbrev SIA (G : Cfg) (W : WX) (X : Cx) (tg e : Expr) (it : Sl → M Src) : Prop := PI X tg e (tItA G W it)
theorem rdAt_cases {en : Bool} {l i : Nat} {h : Mem} : rdAt en l i h = none ∨ (∃ xs, memAt h l = some xs ∧ xs.length ≤ i ∧ rdAt en l i h = some none) ∨ ∃ xs x, memAt h l = some xs ∧ xs[i]? = some x ∧ rdAt en l i h = some (some (wr en i x)) := by
  unfold rdAt
  cases memAt h l with
  | none => exact .inl rfl
  | some xs =>
    simp only [sget_eq]
    cases q : xs[i]? with
    | none => exact .inr (.inl ⟨xs, rfl, List.getElem?_eq_none_iff.mp q, rfl⟩)
    | some x => exact .inr (.inr ⟨xs, x, rfl, q, rfl⟩)
section
variable {G : Cfg} {ρ : Wd} {h : Mem} {H : Hp} {a : Addr} {l : Nat}
theorem mem_at {xs : List CV} (m : MemR G ρ h H) (hl : ρ.r[l]? = some a) (e : memAt h l = some xs) : ∃ ys, H a = some (.lst ys) ∧ ValsR G ρ H xs ys := m.obj l a _ hl (memAt_some e)
theorem itM_list (hl : ρ.r[l]? = some a) : ItM G ρ H (Itl G.K a) false l := by
  intro ρ1 h1 H1 m1 e1 xs e
  obtain ⟨ys, s, r1⟩ := mem_at m1 (e1.pre l a hl) e
  have s1 : SqL G.K H1 a ys := SqL.of s
  refine ⟨fun i hi => ⟨ys, ys[i]'(by rw [← r1.len]; exact hi), s1, by simp [← r1.len, hi]⟩, fun i hi => ⟨ys, s1, by rw [← r1.len]; exact hi⟩, fun i x u H' q y => ?_⟩
  obtain ⟨eh, y⟩ := y
  subst eh
  have q2 := y ys s1
  obtain ⟨w, q3, r3⟩ := r1.get q
  rw [q2] at q3
  cases q3
  exact ⟨m1, Ext.refl, r3⟩
theorem itM_enum (hl : ρ.r[l]? = some a) : ItM G ρ H (Ite G.K a) true l := by
  intro ρ1 h1 H1 m1 e1 xs e
  obtain ⟨ys, s, r1⟩ := mem_at m1 (e1.pre l a hl) e
  have s1 : SqL G.K H1 a ys := SqL.of s
  refine ⟨fun i hi => ⟨ys, ys[i]'(by rw [← r1.len]; exact hi), s1, by simp [← r1.len, hi]⟩, fun i hi => ⟨ys, s1, by rw [← r1.len]; exact hi⟩, fun i x u H' q y => ?_⟩
  obtain ⟨T, w, eu, hT, eH, hw⟩ := y
  subst eu eH
  have q2 := hw ys s1
  obtain ⟨w', q3, r3⟩ := r1.get q
  rw [q2] at q3
  cases q3
  exact ⟨m1.laid hT, Ext.laid hT, T, _, rfl, SqT.of upd_same, _, _, rfl, (rfl : V.int _ = V.int _), _, _, rfl, r3.ext m1 (Ext.laid hT), rfl⟩
end
def memS (en : Bool) (l : Nat) : M Src := fun h => match memAt h l with
  | some _ => .ok (.mem en l) h
  | none => .bad
def seqS (x : CV) : M Src := match x with
  | .ref l => memS false l
  | x => bnd (itOf x) fun xs => ret (.fix xs)
def enumS (xs : List CV) : M Src := match xs with
  | [.ref l] => memS true l
  | xs => bnd (enumOf2 xs) fun xs => ret (.fix xs)
def iSeqA (e : Sl → M CV) : Sl → M Src := fun τ => bnd (e τ) seqS
def iEnumA (ml : Sl → M (List CV)) : Sl → M Src := fun τ => bnd (ml τ) enumS
section
variable {G : Cfg} {W : WX} {X : Cx} {pos p : Pos} {e e2 tg : Expr} {es : List Expr} {me : Sl → M CV} {ml : Sl → M (List CV)}
theorem tItA_fix {it : Sl → M (List CV)} {σ : L2.St} {H : Hp} {R : It → Hp → Prop} (q : tItA G W (fun τ => bnd (it τ) fun xs => ret (.fix xs)) σ H R) : tIt G W it σ H R := by
  obtain ⟨ρ, h, τ, m, s, p⟩ := q
  exact tM_bind m s p fun xs h1 ρ1 H1 J m1 e1 s1 r1 p1 => p1 ρ1 H1 J m1 Ext.refl r1
theorem memS_r {en : Bool} {l : Nat} {σ : L2.St} {ρ : Wd} {h : Mem} {H : Hp} {a : Addr} {R : It → Hp → Prop} {J : It} (m : MemR G ρ h H) (hl : ρ.r[l]? = some a) (r : ItM G ρ H J en l) (p : Post G W (SrcR G) σ ρ H (memS en l h) R) : (∃ ys, SqL G.K H a ys) ∧ R J H := by
  unfold memS at p
  cases q : memAt h l with
  | none => rw [q] at p; exact p.elim
  | some xs =>
    rw [q] at p
    obtain ⟨ys, z, _⟩ := mem_at m hl q
    exact ⟨⟨ys, SqL.of z⟩, p ρ H _ m Ext.refl r⟩
theorem si_seqA (hK : G.K = X.K) (he : SE G W X e me) : SIA G W X tg e (iSeqA me) :=
  ((si_seq hK he).or (pi_list he)).wk fun σ H R ⟨ρ, h, τ, m, s, p⟩ => by
    by_cases c : ∃ l h1, me τ h = .ok (.ref l) h1
    · obtain ⟨l, h1, c⟩ := c
      refine .inr (tM_bindE m s p fun x h2 ρ1 H1 u eq m1 e1 s1 r1 p1 => ?_)
      rw [c] at eq
      cases eq
      obtain ⟨a, hl, eu⟩ := r1
      rw [← hK]
      obtain ⟨q1, q2⟩ := memS_r m1 hl (itM_list hl) p1
      exact ⟨a, eu, q1, q2⟩
    · refine .inl (tItA_fix ⟨ρ, h, τ, m, s, ?_⟩)
      have e : iSeqA me τ h = bnd (iSeq me τ) (fun xs => ret (.fix xs)) h := by
        unfold iSeqA iSeq bnd
        cases q : me τ h with
        | exc x h1 => simp only
        | bad => simp only
        | ok x h1 =>
          cases x with
          | ref l => exact absurd ⟨l, h1, q⟩ c
          | _ => rfl
      rw [e] at p
      exact p
theorem si_enumA {elts : List Expr} {kk : Nat} {tpos : Pos} (hK : G.K = X.K) (hg : Gl X "enumerate") (hm : X.mg "enumerate" = none) (ha : SA G W X [e] ml) (hs : starEach [e] X.env = [(false, eval e X.env)] := by rfl) :
    SIA G W X (.Tuple elts kk tpos) (.Call (.Name "enumerate" p) [e] [] pos) (iEnumA ml) :=
  ((si_enum2 hK hg hm ha hs).or (pi_enum hg hm ha hs)).wk fun σ H R ⟨ρ, h, τ, m, s, p⟩ => by
    by_cases c : ∃ l h1, ml τ h = .ok [.ref l] h1
    · obtain ⟨l, h1, c⟩ := c
      refine .inr (tM_bindE m s p fun x h2 ρ1 H1 u eq m1 e1 s1 r1 p1 => ?_)
      rw [c] at eq
      cases eq
      obtain ⟨y, t, eu, ⟨a, hl, ey⟩, rt⟩ := r1
      cases (show t = [] from rt)
      subst ey
      rw [← hK]
      obtain ⟨⟨ys, q1⟩, q2⟩ := memS_r m1 hl (itM_enum hl) p1
      exact ⟨a, ys, eu, q1, q2⟩
    · refine .inl (tItA_fix ⟨ρ, h, τ, m, s, ?_⟩)
      have e : iEnumA ml τ h = bnd (iArgs enumOf2 ml τ) (fun xs => ret (.fix xs)) h := by
        unfold iEnumA iArgs bnd
        cases q : ml τ h with
        | exc x h1 => simp only
        | bad => simp only
        | ok x h1 =>
          have e2 : enumS x = bnd (enumOf2 x) fun xs => ret (.fix xs) := by
            unfold enumS
            split
            · exact absurd ⟨_, h1, q⟩ c
            · rfl
          exact congrFun e2 h1
      rw [e] at p
      exact p
theorem mForR_s {en : Bool} {l : Nat} {g : CV → Sl → M Sl} {b : MS} {n i : Nat} {τ : Sl} {h : Mem} : mForR en l g b (n + 1) i τ h = match rdAt en l i h with
  | none => .bad
  | some none => .mk (.nx τ) h
  | some (some x) => match g x τ h with
    | .ok τ1 h1 => turn (mForR en l g b n (i + 1)) (b τ1 h1)
    | _ => .bad := by
  show (match rdAt en l i h with
  | none => .bad
  | some none => .mk (.nx τ) h
  | some (some x) => Out.rec (fun τ1 h1 => turn (frN (i + 1) (mForR en l g b n)) (b τ1 h1)) (fun _ _ => .bad) .bad (g x τ h) : OS) = _
  rw [frN_eq]
  cases rdAt en l i h with
  | none => rfl
  | some o => cases o with
    | none => rfl
    | some x => simp only; cases g x τ h <;> rfl
theorem ss_forA {body : List Stmt} {mb : MS} {it : Sl → M Src} {g : CV → Sl → M Sl} (hp : PassesOwn (model X.prog X.w) X.A X.env X.xe) (hc : X.calm = true) (hi : SIA G W X tg e it) (hg : SG G X tg g) (hb : SSs G W X body mb)
    (hs : ∀ x, foldedSetIterable e X.env x = pure x := by intro _; rfl) : SS G W X (.For tg e body [] pos) (mForA it g mb) :=
  (ps_for hp hc hi hg hb hs).wk fun D σ H ⟨ρ, h, τ, m, s, p⟩ => by
    refine tM_inS m s p fun sc h1 ρ1 H1 J m1 e1 s1 r1 p1 => ?_
    cases sc with
    | fix xs =>
      refine ⟨fun i n σ H => i + n = xs.length ∧ ∃ ρ h τ, MemR G ρ h H ∧ Ext ρ1 H1 ρ H ∧ SlR G ρ H τ σ ∧ PostS G W ρ H (mForL g mb (xs.drop i) τ h) D, ⟨xs.length, Nat.zero_add _, ρ1, h1, τ, m1, Ext.refl, s1, p1⟩, ?_⟩
      rintro i n σ H ⟨hi, ρ, h, τ, m, ex, s, p⟩
      obtain ⟨go, stop, yld⟩ := (show ItR G ρ1 H1 J xs from r1) ρ h H m ex.toH
      cases n with
      | zero =>
        have ei : i = xs.length := by omega
        subst ei
        rw [List.drop_length] at p
        exact .inl ⟨stop, p.nx' m s⟩
      | succ n =>
        have hlt : i < xs.length := by omega
        refine .inr ⟨go i hlt, _, fun σ' H' q => ⟨n, Nat.lt_succ_self n, q⟩, fun u H' y => ?_⟩
        obtain ⟨m', e', r'⟩ := yld i xs[i] u H' (by simp [hlt]) y
        rw [List.drop_eq_getElem_cons hlt] at p
        refine ⟨ρ, h, τ, xs[i], m', s.ext m e', r', ?_⟩
        rw [mForL_cons] at p
        cases q : g xs[i] τ h with
        | ok τ1 h2 =>
          simp only [q] at p
          intro ρ2 H2 σ2 m2 e2 s2
          refine ⟨ρ2, h2, τ1, m2, s2, ?_⟩
          have p : PostS G W ρ H (turn (mForL g mb (xs.drop (i + 1))) (mb τ1 h2)) D := p
          cases q2 : mb τ1 h2 with
          | mk f h3 =>
            rw [q2] at p
            cases f with
            | nx τ' => exact fun ρ3 H3 σ3 m3 e3 s3 => ⟨by omega, ρ3, h3, τ', m3, ex.trans (e'.trans (e2.trans e3)), s3, PostS.ext (G := G) (W := W) p (e'.trans (e2.trans e3))⟩
            | ct τ' => exact fun ρ3 H3 σ3 m3 e3 s3 => ⟨by omega, ρ3, h3, τ', m3, ex.trans (e'.trans (e2.trans e3)), s3, PostS.ext (G := G) (W := W) p (e'.trans (e2.trans e3))⟩
            | bk τ' => exact fun ρ3 H3 σ3 m3 e3 s3 => p ρ3 H3 σ3 m3 (e'.trans (e2.trans e3)) s3
            | rt v => exact fun ρ3 H3 σ3 m3 e3 s3 => p ρ3 H3 σ3 m3 (e'.trans (e2.trans e3)) s3
            | ex x τ' => exact fun ρ3 H3 c d σ3 m3 e3 s3 z => p ρ3 H3 c d σ3 m3 (e'.trans (e2.trans e3)) s3 z
          | bad => rw [q2] at p; exact p
        | exc x h2 => simp only [q] at p; exact p
        | bad => simp only [q] at p; exact p
    | mem en l =>
      refine ⟨fun i n σ H => ∃ ρ h τ, MemR G ρ h H ∧ Ext ρ1 H1 ρ H ∧ SlR G ρ H τ σ ∧ PostS G W ρ H (mForR en l g mb n i τ h) D, ⟨1000000, ρ1, h1, τ, m1, Ext.refl, s1, p1⟩, ?_⟩
      rintro i n σ H ⟨ρ, h, τ, m, ex, s, p⟩
      cases n with
      | zero => exact p.elim
      | succ n =>
        rw [mForR_s] at p
        rcases rdAt_cases (en := en) (l := l) (i := i) (h := h) with c | ⟨xs, c1, c2, c⟩ | ⟨xs, x, c1, c2, c⟩
        · rw [c] at p; exact p.elim
        · rw [c] at p
          obtain ⟨go, stop, yld⟩ := (show ItM G ρ1 H1 J en l from r1) ρ h H m ex.toH xs c1
          exact .inl ⟨stop i c2, p.nx' m s⟩
        · rw [c] at p
          simp only at p
          obtain ⟨go, stop, yld⟩ := (show ItM G ρ1 H1 J en l from r1) ρ h H m ex.toH xs c1
          refine .inr ⟨go i (List.getElem?_eq_some_iff.mp c2).1, _, fun σ' H' q => ⟨n, Nat.lt_succ_self n, q⟩, fun u H' y => ?_⟩
          obtain ⟨m', e', r'⟩ := yld i x u H' c2 y
          refine ⟨ρ, h, τ, wr en i x, m', s.ext m e', r', ?_⟩
          cases q : g (wr en i x) τ h with
          | ok τ1 h2 =>
            simp only [q] at p
            intro ρ2 H2 σ2 m2 e2 s2
            refine ⟨ρ2, h2, τ1, m2, s2, ?_⟩
            cases q2 : mb τ1 h2 with
            | mk f h3 =>
              rw [q2] at p
              cases f with
              | nx τ' => exact fun ρ3 H3 σ3 m3 e3 s3 => ⟨ρ3, h3, τ', m3, ex.trans (e'.trans (e2.trans e3)), s3, PostS.ext (G := G) (W := W) p (e'.trans (e2.trans e3))⟩
              | ct τ' => exact fun ρ3 H3 σ3 m3 e3 s3 => ⟨ρ3, h3, τ', m3, ex.trans (e'.trans (e2.trans e3)), s3, PostS.ext (G := G) (W := W) p (e'.trans (e2.trans e3))⟩
              | bk τ' => exact fun ρ3 H3 σ3 m3 e3 s3 => p ρ3 H3 σ3 m3 (e'.trans (e2.trans e3)) s3
              | rt v => exact fun ρ3 H3 σ3 m3 e3 s3 => p ρ3 H3 σ3 m3 (e'.trans (e2.trans e3)) s3
              | ex x τ' => exact fun ρ3 H3 c d σ3 m3 e3 s3 z => p ρ3 H3 c d σ3 m3 (e'.trans (e2.trans e3)) s3 z
            | bad => rw [q2] at p; exact p
          | exc x h2 => simp only [q] at p; exact p.elim
          | bad => simp only [q] at p; exact p.elim
end
def lcM (en : Bool) (l : Nat) (g : CV → Sl → M Sl) (tt : Sl → M Bool) (te : Sl → M CV) (τ : Sl) (n : Nat) : Nat → M (List CV) :=
  Nat.rec (fun _ _ => .bad) (fun _ ih i h => match rdAt en l i h with
    | none => .bad
    | some none => .ok [] h
    | some (some x) => Out.rec (fun τ1 h1 => Out.rec (fun b h2 => Bool.rec (frN (i + 1) ih h2) (Out.rec (fun y h3 => frV 3 y fun y => Out.rec (fun ys h4 => .ok (y :: ys) h4) (fun _ _ => .bad) .bad (frN (i + 1) ih h3)) (fun _ _ => .bad) .bad (te τ1 h2)) b) (fun _ _ => .bad) .bad (tt τ1 h1)) (fun _ _ => .bad) .bad (g x τ h)) n
theorem lcM_s {en : Bool} {l : Nat} {g : CV → Sl → M Sl} {tt : Sl → M Bool} {te : Sl → M CV} {τ : Sl} {n i : Nat} {h : Mem} : lcM en l g tt te τ (n + 1) i h = match rdAt en l i h with
    | none => .bad
    | some none => .ok [] h
    | some (some x) => match g x τ h with
      | .ok τ1 h1 => match tt τ1 h1 with
        | .ok true h2 => match te τ1 h2 with
          | .ok y h3 => match lcM en l g tt te τ n (i + 1) h3 with
            | .ok ys h4 => .ok (y :: ys) h4
            | _ => .bad
          | _ => .bad
        | .ok false h2 => lcM en l g tt te τ n (i + 1) h2
        | _ => .bad
      | _ => .bad := by
  show (match rdAt en l i h with
    | none => .bad
    | some none => .ok [] h
    | some (some x) => Out.rec (fun τ1 h1 => Out.rec (fun b h2 => Bool.rec (frN (i + 1) (lcM en l g tt te τ n) h2) (Out.rec (fun y h3 => frV 3 y fun y => Out.rec (fun ys h4 => .ok (y :: ys) h4) (fun _ _ => .bad) .bad (frN (i + 1) (lcM en l g tt te τ n) h3)) (fun _ _ => .bad) .bad (te τ1 h2)) b) (fun _ _ => .bad) .bad (tt τ1 h1)) (fun _ _ => .bad) .bad (g x τ h) : Out (List CV)) = _
  cases rdAt en l i h with
  | none => rfl
  | some o => cases o with
    | none => rfl
    | some x =>
      simp only [frN_eq, frV_eq]
      cases g x τ h with
      | ok τ1 h1 =>
        simp only
        cases tt τ1 h1 with
        | ok b h2 =>
          cases b with
          | true =>
            simp only
            cases te τ1 h2 with
            | ok y h3 =>
              simp only
              cases lcM en l g tt te τ n (i + 1) h3 <;> rfl
            | exc _ _ => rfl
            | bad => rfl
          | false => rfl
        | exc _ _ => rfl
        | bad => rfl
      | exc _ _ => rfl
      | bad => rfl

theorem lc_coreM {G : Cfg} {g : TG} {gg : CV → Sl → M Sl} {tt : Sl → M Bool} {te : Sl → M CV} {vs : List Nat} {τ : Sl} {σ : L2.St} {ρ1 : Wd} {H1 : Hp} {h1 : Mem} {J : It} {en : Bool} {l : Nat} {D : Addr} {Q : VK}
    (m1 : MemR G ρ1 h1 H1) (s1 : SlR G ρ1 H1 τ σ) (r1 : ItM G ρ1 H1 J en l) (hD : H1 D = none) (hg : LcG G g gg vs) {ys : List CV} {hf : Mem} (e : lcM en l gg tt te (wipeC τ vs) 1000000 0 h1 = .ok ys hf)
    (fin : ∀ r H us, MemR G ⟨D :: ρ1.d, r⟩ hf H → Ext ρ1 H1 ⟨ρ1.d, r⟩ H → H D = some (.lst us) → ValsR G ⟨D :: ρ1.d, r⟩ H ys us → Q (.ref D) H) :
    ∃ W : Nat → Nat → Hp → Prop, (∃ m, W 0 m (upd H1 D (.lst []))) ∧ ∀ i m H, W i m H →
      (J.stop i H ∧ Q (.ref D) H) ∨ (J.go i H ∧ ∃ Nx : Hp → Prop, (∀ H', Nx H' → ∃ m', m' < m ∧ W (i + 1) m' H') ∧ ∀ x H', J.yld i H x H' → g x (L2.wipe σ vs) H' fun σ2 H2 => L2.wipe σ2 vs = L2.wipe σ vs ∧ tBo G W0 tt σ2 H2 fun b H3 =>
        if b = true then tV G W0 te σ2 H3 fun y H4 => ∃ acc, H4 D = some (.lst acc) ∧ acc.length < sizeLine ∧ Nx (upd H4 D (.lst (acc ++ [y]))) else Nx H3) := by
  refine ⟨fun i n H => i + n = 1000000 ∧ ∃ r h done acc rest, MemR G ⟨D :: ρ1.d, r⟩ h H ∧ Ext ρ1 H1 ⟨ρ1.d, r⟩ H ∧ H D = some (.lst acc) ∧ ValsR G ⟨D :: ρ1.d, r⟩ H done acc ∧ done.length ≤ i ∧ lcM en l gg tt te (wipeC τ vs) n i h = .ok rest hf ∧ ys = done ++ rest, ⟨1000000, Nat.zero_add _, ρ1.r, h1, [], [], ys, m1.hide hD, Ext.laid hD, upd_same, rfl, Nat.le_refl _, e, rfl⟩, ?_⟩
  rintro i n H ⟨hin, r, h, done, acc, rest, m, ex, hacc, rd, hdl, el, ey⟩
  have exH : ExtH ρ1 H1 ⟨D :: ρ1.d, r⟩ H := ⟨fun a ha => by
    rcases List.mem_cons.mp ha with z | z
    · exact .inr (z ▸ hD)
    · exact .inl z, ex.pre, ex.keep, ex.new⟩
  have hDd : D ∈ (⟨D :: ρ1.d, r⟩ : Wd).d := List.mem_cons_self
  have hDr : D ∉ r := (m.hid D hDd).2
  cases n with
  | zero => cases el
  | succ n =>
    rw [lcM_s] at el
    rcases rdAt_cases (en := en) (l := l) (i := i) (h := h) with c | ⟨xs, c1, c2, c⟩ | ⟨xs, x, c1, c2, c⟩
    · rw [c] at el; cases el
    · rw [c] at el
      obtain ⟨go, stop, yld⟩ := r1 _ h H m exH xs c1
      cases el
      rw [List.append_nil] at ey
      subst ey
      exact .inl ⟨stop i c2, fin r H acc m ex hacc rd⟩
    · rw [c] at el
      simp only at el
      obtain ⟨go, stop, yld⟩ := r1 _ h H m exH xs c1
      have fin' : ∀ (ρ4 : Wd) (h4 : Mem) (H4 : Hp), MemR G ρ4 h4 H4 → Ext ⟨D :: ρ1.d, r⟩ H ρ4 H4 → ρ4.d = D :: ρ1.d ∧ H4 D = some (.lst acc) ∧ Ext ρ1 H1 ⟨ρ1.d, ρ4.r⟩ H4 := fun ρ4 h4 H4 m4 e4 => by
        refine ⟨e4.hid, e4.keep D _ hacc hDr (fun _ z => by cases z), rfl, fun i a q => e4.pre i a (ex.pre i a q), fun a o q n t => ?_, fun a ps q => ?_, fun a q => ?_⟩
        · refine e4.keep a o (ex.keep a o q n t) (fun z => ?_) t
          rcases ex.new a z with z | z
          · exact n z
          · rw [q] at z; cases z
        · obtain ⟨p1, q1⟩ := ex.tbl a ps q
          exact e4.tbl a p1 q1
        · rcases e4.new a q with z | z
          · exact ex.new a z
          · by_cases hx : a ∈ ρ1.r
            · exact .inl hx
            · cases q1 : H1 a with
              | none => exact .inr rfl
              | some o => exact absurd z (ex.there q1 hx)
      refine .inr ⟨go i (List.getElem?_eq_some_iff.mp c2).1, fun H' => i + 1 + n = 1000000 ∧ ∃ r h done acc rest, MemR G ⟨D :: ρ1.d, r⟩ h H' ∧ Ext ρ1 H1 ⟨ρ1.d, r⟩ H' ∧ H' D = some (.lst acc) ∧ ValsR G ⟨D :: ρ1.d, r⟩ H' done acc ∧ done.length ≤ i + 1 ∧ lcM en l gg tt te (wipeC τ vs) n (i + 1) h = .ok rest hf ∧ ys = done ++ rest, fun H' q => ⟨n, Nat.lt_succ_self n, q⟩, fun u H' y => ?_⟩
      obtain ⟨m', e', r'⟩ := yld i x u H' c2 y
      have s' : SlR G ⟨D :: ρ1.d, r⟩ H' (wipeC τ vs) (L2.wipe σ vs) := by
        have q : SlR G ⟨D :: ρ1.d, r⟩ H τ σ := ⟨s1.1, fun i v q => let ⟨u, a, b⟩ := s1.2 i v q; ⟨u, a, b.extH m1 exH⟩⟩
        exact (q.ext m e').wipe vs
      cases q : gg (wr en i x) (wipeC τ vs) h with
      | ok τ1 h2 =>
        rw [q] at el
        refine hg _ h H' _ _ _ u τ1 h2 _ m' s' r' q fun σ2 eh s2 w2 => ?_
        subst eh
        refine ⟨w2.trans wipe_wipe, ⟨_, h2, τ1, m', s2, ?_⟩⟩
        simp only at el
        cases q2 : tt τ1 h2 with
        | ok b h3 =>
          rw [q2] at el
          intro ρ3 H3 b' m3 e3 eb
          subst eb
          have s3 := s2.ext m' e3
          cases b with
          | true =>
            rw [if_pos rfl]
            simp only at el
            refine ⟨ρ3, h3, τ1, m3, s3, ?_⟩
            cases q3 : te τ1 h3 with
            | ok z h4 =>
              rw [q3] at el
              simp only at el
              intro ρ4 H4 w m4 e4 r4
              obtain ⟨f1, f2, f3⟩ := fin' ρ4 h4 H4 m4 (e'.trans (e3.trans e4))
              obtain ⟨d4, r4'⟩ := ρ4
              cases f1
              have hacl : acc.length ≤ i := by rw [← rd.len]; exact hdl
              refine ⟨acc, f2, by rw [sizeLine_eq]; omega, by omega, r4', h4, done ++ [z], acc ++ [w], ?_⟩
              cases q4 : lcM en l gg tt te (wipeC τ vs) n (i + 1) h4 with
              | ok zs h5 =>
                rw [q4] at el
                cases el
                refine ⟨zs, m4.hidwr List.mem_cons_self, ?_, upd_same, ?_, by simp; omega, rfl, by rw [ey, List.append_assoc]; rfl⟩
                · refine ⟨rfl, f3.pre, fun a o z n t => ?_, fun a ps z => ?_, f3.new⟩
                  · rw [upd_ne (ne_of_none z hD)]
                    exact f3.keep a o z n t
                  · rw [upd_ne (ne_of_none z hD)]
                    exact f3.tbl a ps z
                · exact ((rd.ext m (e'.trans (e3.trans e4))).app (show ValsR G _ H4 [z] [w] from ⟨w, [], rfl, r4, rfl⟩)).wr (.inr List.mem_cons_self) ⟨_, f2⟩
              | exc _ _ => rw [q4] at el; cases el
              | bad => rw [q4] at el; cases el
            | exc _ _ => rw [q3] at el; cases el
            | bad => rw [q3] at el; cases el
          | false =>
            rw [if_neg Bool.false_ne_true]
            simp only at el
            obtain ⟨f1, f2, f3⟩ := fin' ρ3 h3 H3 m3 (e'.trans e3)
            obtain ⟨d3, r3⟩ := ρ3
            cases f1
            exact ⟨by omega, r3, h3, done, acc, rest, m3, f3, f2, rd.ext m (e'.trans e3), by omega, el, ey⟩
        | exc _ _ => rw [q2] at el; cases el
        | bad => rw [q2] at el; cases el
      | exc _ _ => rw [q] at el; cases el
      | bad => rw [q] at el; cases el
def lcA (g : CV → Sl → M Sl) (tt : Sl → M Bool) (te : Sl → M CV) (τ : Sl) (s : Src) : M (List CV) := match s with
  | .fix xs => fun h => if xs.length ≤ 1000000 then lcL g tt te τ xs h else .bad
  | .mem en l => lcM en l g tt te τ 1000000 0
def eLcA (it : Sl → M Src) (g : CV → Sl → M Sl) (tt : Sl → M Bool) (te : Sl → M CV) (vs : List Nat) : Sl → M CV := fun τ => bnd (it τ) fun s h => match lcA g tt te (wipeC τ vs) s h with
  | .ok ys h' => .ok (.lst ys) h'
  | _ => .bad
def eLcNA (it : Sl → M Src) (g : CV → Sl → M Sl) (tt : Sl → M Bool) (te : Sl → M CV) (vs : List Nat) : Sl → M CV := fun τ => bnd (it τ) fun s h => match lcA g tt te (wipeC τ vs) s h with
  | .ok ys h' => frN h'.length fun n => sapp h' [.lst ys] fun h'' => .ok (.ref n) h''
  | _ => .bad
theorem lc_coreA {G : Cfg} {g : TG} {gg : CV → Sl → M Sl} {tt : Sl → M Bool} {te : Sl → M CV} {vs : List Nat} {τ : Sl} {σ : L2.St} {ρ1 : Wd} {H1 : Hp} {h1 : Mem} {J : It} {sc : Src} {D : Addr} {Q : VK}
    (m1 : MemR G ρ1 h1 H1) (s1 : SlR G ρ1 H1 τ σ) (r1 : SrcR G ρ1 H1 sc J) (hD : H1 D = none) (hg : LcG G g gg vs) {ys : List CV} {hf : Mem} (e : lcA gg tt te (wipeC τ vs) sc h1 = .ok ys hf)
    (fin : ∀ r H us, MemR G ⟨D :: ρ1.d, r⟩ hf H → Ext ρ1 H1 ⟨ρ1.d, r⟩ H → H D = some (.lst us) → ValsR G ⟨D :: ρ1.d, r⟩ H ys us → Q (.ref D) H) :
    ∃ W : Nat → Nat → Hp → Prop, (∃ m, W 0 m (upd H1 D (.lst []))) ∧ ∀ i m H, W i m H →
      (J.stop i H ∧ Q (.ref D) H) ∨ (J.go i H ∧ ∃ Nx : Hp → Prop, (∀ H', Nx H' → ∃ m', m' < m ∧ W (i + 1) m' H') ∧ ∀ x H', J.yld i H x H' → g x (L2.wipe σ vs) H' fun σ2 H2 => L2.wipe σ2 vs = L2.wipe σ vs ∧ tBo G W0 tt σ2 H2 fun b H3 =>
        if b = true then tV G W0 te σ2 H3 fun y H4 => ∃ acc, H4 D = some (.lst acc) ∧ acc.length < sizeLine ∧ Nx (upd H4 D (.lst (acc ++ [y]))) else Nx H3) := by
  cases sc with
  | fix xs =>
    have e' : (if xs.length ≤ 1000000 then lcL gg tt te (wipeC τ vs) xs h1 else .bad) = .ok ys hf := e
    by_cases hl : xs.length ≤ 1000000
    · rw [if_pos hl, lcL_eq] at e'
      exact lc_core' (W' := fun _ _ _ _ => True) m1 s1 r1 hD hg hl e' fin
    · rw [if_neg hl] at e'; cases e'
  | mem en l => exact lc_coreM m1 s1 r1 hD hg e fin
theorem lc_redA {G : Cfg} {W : WX} {it : Sl → M Src} {g : TG} {gg : CV → Sl → M Sl} {tt : Sl → M Bool} {te : Sl → M CV} {vs : List Nat} (hg : LcG G g gg vs) {σ : L2.St} {H : Hp} {Q : VK} (q : tV G W (eLcA it gg tt te vs) σ H Q) : tLc (tItA G W it) g (tBo G W0 tt) (tV G W0 te) vs σ H Q := by
  obtain ⟨ρ, h, τ, m, s, p⟩ := q
  refine tM_bind m s p fun xs h1 ρ1 H1 J m1 e1 s1 r1 p1 D hD => ?_
  cases e : lcA gg tt te (wipeC τ vs) xs h1 with
  | ok ys hf =>
    rw [e] at p1
    refine lc_coreA m1 s1 r1 hD hg e fun r H2 us m2 e2 hus rus => ?_
    refine p1 ⟨ρ1.d, r⟩ H2 _ m2.unhid e2 ⟨D, us, rfl, fun z => ?_, hus, rus.unhid⟩
    rcases z with z | z
    · exact (m2.hid D List.mem_cons_self).2 z
    · obtain ⟨⟨_, w⟩, _⟩ := m1.hid D z
      rw [hD] at w; cases w
  | exc _ _ => rw [e] at p1; exact p1.elim
  | bad => rw [e] at p1; exact p1.elim
theorem lc_redNA {G : Cfg} {W : WX} {it : Sl → M Src} {g : TG} {gg : CV → Sl → M Sl} {tt : Sl → M Bool} {te : Sl → M CV} {vs : List Nat} (hg : LcG G g gg vs) {σ : L2.St} {H : Hp} {Q : VK} (q : tV G W (eLcNA it gg tt te vs) σ H Q) : tLc (tItA G W it) g (tBo G W0 tt) (tV G W0 te) vs σ H Q := by
  obtain ⟨ρ, h, τ, m, s, p⟩ := q
  refine tM_bind m s p fun xs h1 ρ1 H1 J m1 e1 s1 r1 p1 D hD => ?_
  cases e : lcA gg tt te (wipeC τ vs) xs h1 with
  | ok ys hf =>
    rw [e] at p1
    simp only [frN_eq, sapp_eq] at p1
    refine lc_coreA m1 s1 r1 hD hg e fun r H2 us m2 e2 hus rus => ?_
    have nD : D ∉ r := (m2.hid D List.mem_cons_self).2
    have ndd : D ∉ ρ1.d := fun z => by
      obtain ⟨⟨_, w⟩, _⟩ := m1.hid D z
      rw [hD] at w; cases w
    refine p1 ⟨ρ1.d, r ++ [D]⟩ H2 _ (m2.unhidN rus hus ndd) ?_ ⟨D, ?_, rfl⟩
    · refine ⟨rfl, fun i a z => ?_, e2.keep, e2.tbl, fun a z => ?_⟩
      · have z2 := e2.pre i a z
        have hi : i < r.length := (List.getElem?_eq_some_iff.mp z2).1
        show (r ++ [D])[i]? = some a
        rw [List.getElem?_append_left hi]; exact z2
      · rcases List.mem_append.mp z with z | z
        · exact e2.new a z
        · rw [List.mem_singleton.mp z]; exact .inr hD
    · show (r ++ [D])[hf.length]? = some D
      rw [← m2.len]; simp
  | exc _ _ => rw [e] at p1; exact p1.elim
  | bad => rw [e] at p1; exact p1.elim
section
variable {G : Cfg} {W : WX} {X : Cx} {pos : Pos}
theorem se_lcA {elt tg iter : Expr} {ifs : List Expr} {scope : Scope} {own : List (Str × Nat)} {it : Sl → M Src} {g : TG} {gg : CV → Sl → M Sl} {tt : Sl → M Bool} {te : Sl → M CV} (hc : X.calm = true) (hN : X.N.Nodup) (hi : SIA G W X tg iter it) (ok : BlkOk X.N X.env.scope scope own)
    (hgg : LcG G g gg (own.map (·.2))) (hg : Blk X scope fun Y => PG Y tg g) (ht : Blk X scope fun Y => PTs Y ifs (tBo G W0 tt)) (he : Blk X scope fun Y => SE G W0 Y elt te) (hs : ∀ x, foldedSetIterable iter X.env x = pure x := by intro _; rfl) :
    SE G W X (.ListComp elt [⟨tg, iter, ifs, 0⟩] scope pos) (eLcA it gg tt te (own.map (·.2))) := (pe_lc hc hN hi ok hg ht he hs).wk fun σ H Q q => lc_redA hgg q
theorem se_lcNA {elt tg iter : Expr} {ifs : List Expr} {scope : Scope} {own : List (Str × Nat)} {it : Sl → M Src} {g : TG} {gg : CV → Sl → M Sl} {tt : Sl → M Bool} {te : Sl → M CV} (hc : X.calm = true) (hN : X.N.Nodup) (hi : SIA G W X tg iter it) (ok : BlkOk X.N X.env.scope scope own)
    (hgg : LcG G g gg (own.map (·.2))) (hg : Blk X scope fun Y => PG Y tg g) (ht : Blk X scope fun Y => PTs Y ifs (tBo G W0 tt)) (he : Blk X scope fun Y => SE G W0 Y elt te) (hs : ∀ x, foldedSetIterable iter X.env x = pure x := by intro _; rfl) :
    SE G W X (.ListComp elt [⟨tg, iter, ifs, 0⟩] scope pos) (eLcNA it gg tt te (own.map (·.2))) := (pe_lc hc hN hi ok hg ht he hs).wk fun σ H Q q => lc_redNA hgg q
theorem ss_setLcA {i : Nat} {y : Str} {py spos : Pos} {elt tg iter : Expr} {ifs : List Expr} {scope : Scope} {own : List (Str × Nat)} {it : Sl → M Src} {g : TG} {gg : CV → Sl → M Sl} {tt : Sl → M Bool} {te : Sl → M CV} (hc : X.calm = true) (hN : X.N.Nodup) (hy : X.N[i]? = some y) (hyl : X.env.scope.names.lookup y = some .local)
    (hsw : swapsWith (.ListComp elt [⟨tg, iter, ifs, 0⟩] scope pos) (some (.Name y py)) spos.line X.env = pure true) (hi : SIA G W X tg iter it) (ok : BlkOk X.N X.env.scope scope own)
    (hgg : LcG G g gg (own.map (·.2))) (hg : Blk X scope fun Y => PG Y tg g) (ht : Blk X scope fun Y => PTs Y ifs (tBo G W0 tt)) (he : Blk X scope fun Y => SE G W0 Y elt te) (hs : ∀ x, foldedSetIterable iter X.env x = pure x := by intro _; rfl) :
    SS G W X (.Assign [.Name y py] (.ListComp elt [⟨tg, iter, ifs, 0⟩] scope pos) spos) (mAsg (gSet i) (eLcA it gg tt te (own.map (·.2)))) := (ps_setLc hc hN hy hyl hsw hi ok hg ht he hs).wk fun D σ H q => asg_red (fun σ H Q q => lc_redA hgg q) q
theorem ss_setLcNA {i : Nat} {y : Str} {py spos : Pos} {elt tg iter : Expr} {ifs : List Expr} {scope : Scope} {own : List (Str × Nat)} {it : Sl → M Src} {g : TG} {gg : CV → Sl → M Sl} {tt : Sl → M Bool} {te : Sl → M CV} (hc : X.calm = true) (hN : X.N.Nodup) (hy : X.N[i]? = some y) (hyl : X.env.scope.names.lookup y = some .local)
    (hsw : swapsWith (.ListComp elt [⟨tg, iter, ifs, 0⟩] scope pos) (some (.Name y py)) spos.line X.env = pure true) (hi : SIA G W X tg iter it) (ok : BlkOk X.N X.env.scope scope own)
    (hgg : LcG G g gg (own.map (·.2))) (hg : Blk X scope fun Y => PG Y tg g) (ht : Blk X scope fun Y => PTs Y ifs (tBo G W0 tt)) (he : Blk X scope fun Y => SE G W0 Y elt te) (hs : ∀ x, foldedSetIterable iter X.env x = pure x := by intro _; rfl) :
    SS G W X (.Assign [.Name y py] (.ListComp elt [⟨tg, iter, ifs, 0⟩] scope pos) spos) (mAsg (gSet i) (eLcNA it gg tt te (own.map (·.2)))) := (ps_setLc hc hN hy hyl hsw hi ok hg ht he hs).wk fun D σ H q => asg_red (fun σ H Q q => lc_redNA hgg q) q
end
end VE

noncomputable section
namespace Lw
open PySem PySem.Spec PyProof.Rows L2 VE
def top (i : Nat) : Stmt := PySem.Challenge.pw_bandrims_k62_whole_euler_numbers.main.body.getD i (.Pass ⟨0, 0, 0, 0⟩)
abbrev GG (K : PySem.W.Frag) (fa ca : Nat → Addr) : Cfg := ⟨K, ca, fa, fun _ => [], []⟩
abbrev s_is_whole : Stmt := top 9
abbrev s_is_integer : Stmt := top 10
abbrev s_is_within : Stmt := top 11
abbrev s_require_within : Stmt := top 12
abbrev s_fraction_in : Stmt := top 13
abbrev s_sum_in : Stmt := top 14
abbrev s_product_in : Stmt := top 15
abbrev s_quotient_in : Stmt := top 16
abbrev s_total_in : Stmt := top 17
abbrev s_power_in : Stmt := top 18
abbrev s_product_from : Stmt := top 19
abbrev s_bernoulli_row : Stmt := top 20
abbrev s_bernoulli : Stmt := top 21
abbrev s_number_at : Stmt := top 25
abbrev s_rows_to : Stmt := top 24
abbrev s_column_to : Stmt := top 26
abbrev s_full_factor : Stmt := top 27
abbrev s_full_in : Stmt := top 28
abbrev s_require_handles : Stmt := top 29
abbrev s_full_gluings : Stmt := top 30
abbrev s_signed : Stmt := top 37
abbrev s_euler_in : Stmt := top 36
abbrev s_euler_number : Stmt := top 38
abbrev s_one_rim_sum : Stmt := top 39
abbrev s_law_dice : Stmt := top 41
abbrev s_law_roll : Stmt := top 42
abbrev s_law_gcd : Stmt := top 43
abbrev s_law_fraction : Stmt := top 44
abbrev s_law_plus : Stmt := top 45
abbrev s_law_times : Stmt := top 46
abbrev s_law_over : Stmt := top 47
abbrev s_law_sum : Stmt := top 48
abbrev s_law_factorial : Stmt := top 49
abbrev s_law_binomial : Stmt := top 50
abbrev s_law_bernoulli : Stmt := top 51
abbrev s_law_due : Stmt := top 52
abbrev s_law_right : Stmt := top 53
abbrev s_law_glued : Stmt := top 54
abbrev s_law : Stmt := top 55
structure Txt (K : PySem.W.Frag) (mg : Str → Option Value) (fa ca : Nat → Addr) (fd : Nat → FuncData) : Prop where
  d_is_whole : mg "is_whole" = some (.ref (fa 0))
  f_is_whole : Fun K "is_whole" "is_whole" s_is_whole (fa 0) (fd 0)
  d_is_integer : mg "is_integer" = some (.ref (fa 1))
  f_is_integer : Fun K "is_integer" "is_integer" s_is_integer (fa 1) (fd 1)
  d_is_within : mg "is_within" = some (.ref (fa 2))
  f_is_within : Fun K "is_within" "is_within" s_is_within (fa 2) (fd 2)
  d_require_within : mg "require_within" = some (.ref (fa 3))
  f_require_within : Fun K "require_within" "require_within" s_require_within (fa 3) (fd 3)
  d_fraction_in : mg "fraction_in" = some (.ref (fa 4))
  f_fraction_in : Fun K "fraction_in" "fraction_in" s_fraction_in (fa 4) (fd 4)
  d_sum_in : mg "sum_in" = some (.ref (fa 5))
  f_sum_in : Fun K "sum_in" "sum_in" s_sum_in (fa 5) (fd 5)
  d_product_in : mg "product_in" = some (.ref (fa 6))
  f_product_in : Fun K "product_in" "product_in" s_product_in (fa 6) (fd 6)
  d_quotient_in : mg "quotient_in" = some (.ref (fa 7))
  f_quotient_in : Fun K "quotient_in" "quotient_in" s_quotient_in (fa 7) (fd 7)
  d_total_in : mg "total_in" = some (.ref (fa 8))
  f_total_in : Fun K "total_in" "total_in" s_total_in (fa 8) (fd 8)
  d_power_in : mg "power_in" = some (.ref (fa 9))
  f_power_in : Fun K "power_in" "power_in" s_power_in (fa 9) (fd 9)
  d_product_from : mg "product_from" = some (.ref (fa 10))
  f_product_from : Fun K "product_from" "product_from" s_product_from (fa 10) (fd 10)
  d_bernoulli_row : mg "bernoulli_row" = some (.ref (fa 11))
  f_bernoulli_row : Fun K "bernoulli_row" "bernoulli_row" s_bernoulli_row (fa 11) (fd 11)
  d_bernoulli : mg "bernoulli" = some (.ref (fa 12))
  f_bernoulli : Fun K "bernoulli" "bernoulli" s_bernoulli (fa 12) (fd 12)
  d_number_at : mg "number_at" = some (.ref (fa 14))
  f_number_at : Fun K "number_at" "number_at" s_number_at (fa 14) (fd 14)
  d_rows_to : mg "rows_to" = some (.ref (fa 13))
  f_rows_to : Fun K "rows_to" "rows_to" s_rows_to (fa 13) (fd 13)
  d_column_to : mg "column_to" = some (.ref (fa 15))
  f_column_to : Fun K "column_to" "column_to" s_column_to (fa 15) (fd 15)
  d_full_factor : mg "full_factor" = some (.ref (fa 16))
  f_full_factor : Fun K "full_factor" "full_factor" s_full_factor (fa 16) (fd 16)
  d_full_in : mg "full_in" = some (.ref (fa 17))
  f_full_in : Fun K "full_in" "full_in" s_full_in (fa 17) (fd 17)
  d_require_handles : mg "require_handles" = some (.ref (fa 18))
  f_require_handles : Fun K "require_handles" "require_handles" s_require_handles (fa 18) (fd 18)
  d_full_gluings : mg "full_gluings" = some (.ref (fa 19))
  f_full_gluings : Fun K "full_gluings" "full_gluings" s_full_gluings (fa 19) (fd 19)
  d_signed : mg "signed" = some (.ref (fa 21))
  f_signed : Fun K "signed" "signed" s_signed (fa 21) (fd 21)
  d_euler_in : mg "euler_in" = some (.ref (fa 20))
  f_euler_in : Fun K "euler_in" "euler_in" s_euler_in (fa 20) (fd 20)
  d_euler_number : mg "euler_number" = some (.ref (fa 22))
  f_euler_number : Fun K "euler_number" "euler_number" s_euler_number (fa 22) (fd 22)
  d_one_rim_sum : mg "one_rim_sum" = some (.ref (fa 23))
  f_one_rim_sum : Fun K "one_rim_sum" "one_rim_sum" s_one_rim_sum (fa 23) (fd 23)
  d_law_dice : mg "_law_dice" = some (.ref (fa 24))
  f_law_dice : Fun K "_law_dice" "_law_dice" s_law_dice (fa 24) (fd 24)
  d_law_roll : mg "_law_roll" = some (.ref (fa 25))
  f_law_roll : Fun K "_law_roll" "_law_roll" s_law_roll (fa 25) (fd 25)
  d_law_gcd : mg "_law_gcd" = some (.ref (fa 26))
  f_law_gcd : Fun K "_law_gcd" "_law_gcd" s_law_gcd (fa 26) (fd 26)
  d_law_fraction : mg "_law_fraction" = some (.ref (fa 27))
  f_law_fraction : Fun K "_law_fraction" "_law_fraction" s_law_fraction (fa 27) (fd 27)
  d_law_plus : mg "_law_plus" = some (.ref (fa 28))
  f_law_plus : Fun K "_law_plus" "_law_plus" s_law_plus (fa 28) (fd 28)
  d_law_times : mg "_law_times" = some (.ref (fa 29))
  f_law_times : Fun K "_law_times" "_law_times" s_law_times (fa 29) (fd 29)
  d_law_over : mg "_law_over" = some (.ref (fa 30))
  f_law_over : Fun K "_law_over" "_law_over" s_law_over (fa 30) (fd 30)
  d_law_sum : mg "_law_sum" = some (.ref (fa 31))
  f_law_sum : Fun K "_law_sum" "_law_sum" s_law_sum (fa 31) (fd 31)
  d_law_factorial : mg "_law_factorial" = some (.ref (fa 32))
  f_law_factorial : Fun K "_law_factorial" "_law_factorial" s_law_factorial (fa 32) (fd 32)
  d_law_binomial : mg "_law_binomial" = some (.ref (fa 33))
  f_law_binomial : Fun K "_law_binomial" "_law_binomial" s_law_binomial (fa 33) (fd 33)
  d_law_bernoulli : mg "_law_bernoulli" = some (.ref (fa 34))
  f_law_bernoulli : Fun K "_law_bernoulli" "_law_bernoulli" s_law_bernoulli (fa 34) (fd 34)
  d_law_due : mg "_law_due" = some (.ref (fa 35))
  f_law_due : Fun K "_law_due" "_law_due" s_law_due (fa 35) (fd 35)
  d_law_right : mg "_law_right" = some (.ref (fa 36))
  f_law_right : Fun K "_law_right" "_law_right" s_law_right (fa 36) (fd 36)
  d_law_glued : mg "_law_glued" = some (.ref (fa 37))
  f_law_glued : Fun K "_law_glued" "_law_glued" s_law_glued (fa 37) (fd 37)
  d_law : mg "law" = some (.ref (fa 38))
  f_law : Fun K "law" "law" s_law (fa 38) (fd 38)
  z_abs : mg "abs" = none
  z_bool : mg "bool" = none
  z_enumerate : mg "enumerate" = none
  z_int : mg "int" = none
  z_isinstance : mg "isinstance" = none
  z_len : mg "len" = none
  z_max : mg "max" = none
  z_min : mg "min" = none
  z_range : mg "range" = none
  i_comb : mg "comb" = some (.builtin "math.comb")
  i_gcd : mg "gcd" = some (.builtin "math.gcd")
  c_BOUND : ∃ t, mg "BOUND" = some (.int 1000000000000000000000000000000000000000000000000000000000000 t)
  c_MAX_BERNOULLI : ∃ t, mg "MAX_BERNOULLI" = some (.int 60 t)
  c_MAX_EULER : ∃ t, mg "MAX_EULER" = some (.int 20 t)
  c_MOST_GLUED : ∃ t, mg "MOST_GLUED" = some (.int 6 t)
  c_MOST_TIES : ∃ t, mg "MOST_TIES" = some (.int 100 t)
  c_ONE : ∃ v, mg "ONE" = some v ∧ KV K (.tup [(.int 1), (.int 1)]) v
  c_ZERO_euler : ∃ v, mg "ZERO_euler" = some v ∧ KV K (.tup [(.int 0), (.int 1)]) v
  c_ZERO_numbers : ∃ v, mg "ZERO_numbers" = some v ∧ KV K (.tup [(.int 0), (.int 1)]) v
section
variable {P : Program} {w : World} {K : PySem.W.Frag} {mg : Str → Option Value} {base : Heap} {fa ca : Nat → Addr} {fd : Nat → FuncData}
def b_is_whole : MS := (mRet (eAnd (eUn (isK isInt) (eVar 0)) (eNot (eUn (isK isBool) (eVar 0)))))
def F_is_whole : List CV → M CV := runB 1 1 b_is_whole
theorem sc_is_whole : FnScope ["value"] ["value"] (defScope s_is_whole) := ⟨rfl, rfl, rfl, by decide +kernel, rfl, by decide +kernel, by decide +kernel⟩
theorem bn_is_whole (T : Txt K mg fa ca fd) : Binds K (fd 0) ["value"] [] := T.f_is_whole.binds fun _ _ _ _ _ _ us hl => match us, hl with | [_], _ => rfl
theorem ok_is_whole (T : Txt K mg fa ca fd) : FnOk P w K mg base (L2.CX P w) 1 (fa 0) (fd 0) ["value"] (spH (GG K fa ca) 1 F_is_whole) :=
  have nd := sc_is_whole.nd
  fnX (G := GG K fa ca) 1 1 (mb := b_is_whole) (by rfl) T.f_is_whole sc_is_whole (by rfl) (by rfl) (by rfl) fun cdv A outer s H E hr B po =>
    (sss_one (ss_ret (se_and (se_isi isInt isInt_ok (by rfl) (by rfl) T.z_isinstance (by rfl) T.z_int (by decide +kernel) (se_var 0)) (se_and1 (se_not (se_isi isBool isBool_ok (by rfl) (by rfl) T.z_isinstance (by rfl) T.z_bool (by decide +kernel) (se_var 0)))))))
def b_is_integer : MS := (mRet (eAnd (eB (callF 1 F_is_whole) (eConsA (eVar 0) eNilA)) (eOp pyLt (eB pyAbs (eConsA (eVar 0) eNilA)) (eC (.int 1000000000000000000000000000000000000000000000000000000000000)))))
def F_is_integer : List CV → M CV := runB 1 1 b_is_integer
theorem sc_is_integer : FnScope ["value"] ["value"] (defScope s_is_integer) := ⟨rfl, rfl, rfl, by decide +kernel, rfl, by decide +kernel, by decide +kernel⟩
theorem bn_is_integer (T : Txt K mg fa ca fd) : Binds K (fd 1) ["value"] [] := T.f_is_integer.binds fun _ _ _ _ _ _ us hl => match us, hl with | [_], _ => rfl
theorem ok_is_integer (T : Txt K mg fa ca fd) : FnOk P w K mg base (L2.CX P w) 2 (fa 1) (fd 1) ["value"] (spH (GG K fa ca) 1 F_is_integer) :=
  have nd := sc_is_integer.nd
  fnX (G := GG K fa ca) 1 1 (mb := b_is_integer) (by rfl) T.f_is_integer sc_is_integer (by rfl) (by rfl) (by rfl) fun cdv A outer s H E hr B po =>
    (sss_one (ss_ret (se_and (se_callF B (ok_is_whole T) (hr.mono (by decide)) (by rfl) T.d_is_whole T.f_is_whole.kp (bn_is_whole T) (sa_cons (se_var 0) sa_nil)) (se_and1 (se_cmp op_lt cmp_ok (se_callB call_abs abs_ok (by rfl) T.z_abs (by decide +kernel) (sa_cons (se_var 0) sa_nil)) (se_gint (by rfl) T.c_BOUND.choose_spec))))))
def b_is_within : MS := (mRet (eAnd (eB (callF 1 F_is_integer) (eConsA (eVar 0) eNilA)) (eChain pyLe pyLe (eVar 1) (eVar 0) (eVar 2))))
def F_is_within : List CV → M CV := runB 3 3 b_is_within
theorem sc_is_within : FnScope ["value", "least", "most"] ["value", "least", "most"] (defScope s_is_within) := ⟨rfl, rfl, rfl, by decide +kernel, rfl, by decide +kernel, by decide +kernel⟩
theorem bn_is_within (T : Txt K mg fa ca fd) : Binds K (fd 2) ["value", "least", "most"] [] := T.f_is_within.binds fun _ _ _ _ _ _ us hl => match us, hl with | [_, _, _], _ => rfl
theorem ok_is_within (T : Txt K mg fa ca fd) : FnOk P w K mg base (L2.CX P w) 3 (fa 2) (fd 2) ["value", "least", "most"] (spH (GG K fa ca) 3 F_is_within) :=
  have nd := sc_is_within.nd
  fnX (G := GG K fa ca) 3 3 (mb := b_is_within) (by rfl) T.f_is_within sc_is_within (by rfl) (by rfl) (by rfl) fun cdv A outer s H E hr B po =>
    (sss_one (ss_ret (se_and (se_callF B (ok_is_integer T) (hr.mono (by decide)) (by rfl) T.d_is_integer T.f_is_integer.kp (bn_is_integer T) (sa_cons (se_var 0) sa_nil)) (se_and1 (se_chain op_le cmp_ok op_le cmp_ok (se_var 1) (se_var 0) (se_var 2))))))
def b_require_within : MS := (mIf (bNot (bOf (eB (callF 3 F_is_within) (eConsA (eVar 0) (eConsA (eVar 1) (eConsA (eVar 2) eNilA)))))) mNever mNil)
def F_require_within : List CV → M CV := runB 3 3 b_require_within
theorem sc_require_within : FnScope ["value", "least", "most"] ["value", "least", "most"] (defScope s_require_within) := ⟨rfl, rfl, rfl, by decide +kernel, rfl, by decide +kernel, by decide +kernel⟩
theorem bn_require_within (T : Txt K mg fa ca fd) : Binds K (fd 3) ["value", "least", "most"] [] := T.f_require_within.binds fun _ _ _ _ _ _ us hl => match us, hl with | [_, _, _], _ => rfl
theorem ok_require_within (T : Txt K mg fa ca fd) : FnOk P w K mg base (L2.CX P w) 4 (fa 3) (fd 3) ["value", "least", "most"] (spH (GG K fa ca) 3 F_require_within) :=
  have nd := sc_require_within.nd
  fnX (G := GG K fa ca) 3 3 (mb := b_require_within) (by rfl) T.f_require_within sc_require_within (by rfl) (by rfl) (by rfl) fun cdv A outer s H E hr B po =>
    (sss_one (ss_if (st_not (st_val (se_callF B (ok_is_within T) (hr.mono (by decide)) (by rfl) T.d_is_within T.f_is_within.kp (bn_is_within T) (sa_cons (se_var 0) (sa_cons (se_var 1) (sa_cons (se_var 2) sa_nil)))))) (sss_one ss_never) sss_nil))
def b_fraction_in : MS := (mSeq (mAsg (gSet 2) (eIf (bOf (eOp pyGt (eVar 1) (eC (.int 0)))) (eB pyGcd (eConsA (eVar 0) (eConsA (eVar 1) eNilA))) (eUn pyNeg (eB pyGcd (eConsA (eVar 0) (eConsA (eVar 1) eNilA))))))
    (mRet (eTup (eConsA (eOp pyFdiv (eVar 0) (eVar 2)) (eConsA (eOp pyFdiv (eVar 1) (eVar 2)) eNilA)))))
def F_fraction_in : List CV → M CV := runB 2 3 b_fraction_in
theorem sc_fraction_in : FnScope ["top", "bottom", "share"] ["top", "bottom"] (defScope s_fraction_in) := ⟨rfl, rfl, rfl, by decide +kernel, rfl, by decide +kernel, by decide +kernel⟩
theorem bn_fraction_in (T : Txt K mg fa ca fd) : Binds K (fd 4) ["top", "bottom"] [] := T.f_fraction_in.binds fun _ _ _ _ _ _ us hl => match us, hl with | [_, _], _ => rfl
theorem ok_fraction_in (T : Txt K mg fa ca fd) : FnOk P w K mg base (L2.CX P w) 1 (fa 4) (fd 4) ["top", "bottom"] (spH (GG K fa ca) 2 F_fraction_in) :=
  have nd := sc_fraction_in.nd
  fnX (G := GG K fa ca) 2 3 (mb := b_fraction_in) (by rfl) T.f_fraction_in sc_fraction_in (by rfl) (by rfl) (by rfl) fun cdv A outer s H E hr B po =>
    (sss_cons (ss_asg (sg_set (i := 2) nd rfl (.inl rfl)) (se_if (st_cmp op_gt cmp_ok (se_var 1) se_int) (se_callBf cr_gcd pyGcd_ok (by rfl) T.i_gcd (sa_cons (se_var 0) (sa_cons (se_var 1) sa_nil))) (se_un un_neg neg_ok (se_callBf cr_gcd pyGcd_ok (by rfl) T.i_gcd (sa_cons (se_var 0) (sa_cons (se_var 1) sa_nil))))))
    (sss_one (ss_ret (se_tup (sa_cons (se_op op_fdivG fdiv_ok (se_var 0) (se_var 2)) (sa_cons (se_op op_fdivG fdiv_ok (se_var 1) (se_var 2)) sa_nil))))))
def b_sum_in : MS := (mRet (eB (callF 2 F_fraction_in) (eConsA (eOp pyAdd (eOp pyMul (eOp pyIx (eVar 0) (eC (.int 0))) (eOp pyIx (eVar 1) (eC (.int 1)))) (eOp pyMul (eOp pyIx (eVar 1) (eC (.int 0))) (eOp pyIx (eVar 0) (eC (.int 1))))) (eConsA (eOp pyMul (eOp pyIx (eVar 0) (eC (.int 1))) (eOp pyIx (eVar 1) (eC (.int 1)))) eNilA))))
def F_sum_in : List CV → M CV := runB 2 2 b_sum_in
theorem sc_sum_in : FnScope ["one", "other"] ["one", "other"] (defScope s_sum_in) := ⟨rfl, rfl, rfl, by decide +kernel, rfl, by decide +kernel, by decide +kernel⟩
theorem bn_sum_in (T : Txt K mg fa ca fd) : Binds K (fd 5) ["one", "other"] [] := T.f_sum_in.binds fun _ _ _ _ _ _ us hl => match us, hl with | [_, _], _ => rfl
theorem ok_sum_in (T : Txt K mg fa ca fd) : FnOk P w K mg base (L2.CX P w) 2 (fa 5) (fd 5) ["one", "other"] (spH (GG K fa ca) 2 F_sum_in) :=
  have nd := sc_sum_in.nd
  fnX (G := GG K fa ca) 2 2 (mb := b_sum_in) (by rfl) T.f_sum_in sc_sum_in (by rfl) (by rfl) (by rfl) fun cdv A outer s H E hr B po =>
    (sss_one (ss_ret (se_callF B (ok_fraction_in T) (hr.mono (by decide)) (by rfl) T.d_fraction_in T.f_fraction_in.kp (bn_fraction_in T) (sa_cons (se_op op_plus plus_ok (se_op op_times times_ok (se_ix (by rfl) (se_var 0) se_int) (se_ix (by rfl) (se_var 1) se_int)) (se_op op_times times_ok (se_ix (by rfl) (se_var 1) se_int) (se_ix (by rfl) (se_var 0) se_int))) (sa_cons (se_op op_times times_ok (se_ix (by rfl) (se_var 0) se_int) (se_ix (by rfl) (se_var 1) se_int)) sa_nil)))))
def b_product_in : MS := (mRet (eB (callF 2 F_fraction_in) (eConsA (eOp pyMul (eOp pyIx (eVar 0) (eC (.int 0))) (eOp pyIx (eVar 1) (eC (.int 0)))) (eConsA (eOp pyMul (eOp pyIx (eVar 0) (eC (.int 1))) (eOp pyIx (eVar 1) (eC (.int 1)))) eNilA))))
def F_product_in : List CV → M CV := runB 2 2 b_product_in
theorem sc_product_in : FnScope ["one", "other"] ["one", "other"] (defScope s_product_in) := ⟨rfl, rfl, rfl, by decide +kernel, rfl, by decide +kernel, by decide +kernel⟩
theorem bn_product_in (T : Txt K mg fa ca fd) : Binds K (fd 6) ["one", "other"] [] := T.f_product_in.binds fun _ _ _ _ _ _ us hl => match us, hl with | [_, _], _ => rfl
theorem ok_product_in (T : Txt K mg fa ca fd) : FnOk P w K mg base (L2.CX P w) 2 (fa 6) (fd 6) ["one", "other"] (spH (GG K fa ca) 2 F_product_in) :=
  have nd := sc_product_in.nd
  fnX (G := GG K fa ca) 2 2 (mb := b_product_in) (by rfl) T.f_product_in sc_product_in (by rfl) (by rfl) (by rfl) fun cdv A outer s H E hr B po =>
    (sss_one (ss_ret (se_callF B (ok_fraction_in T) (hr.mono (by decide)) (by rfl) T.d_fraction_in T.f_fraction_in.kp (bn_fraction_in T) (sa_cons (se_op op_times times_ok (se_ix (by rfl) (se_var 0) se_int) (se_ix (by rfl) (se_var 1) se_int)) (sa_cons (se_op op_times times_ok (se_ix (by rfl) (se_var 0) se_int) (se_ix (by rfl) (se_var 1) se_int)) sa_nil)))))
def b_quotient_in : MS := (mRet (eB (callF 2 F_fraction_in) (eConsA (eOp pyMul (eOp pyIx (eVar 0) (eC (.int 0))) (eOp pyIx (eVar 1) (eC (.int 1)))) (eConsA (eOp pyMul (eOp pyIx (eVar 0) (eC (.int 1))) (eOp pyIx (eVar 1) (eC (.int 0)))) eNilA))))
def F_quotient_in : List CV → M CV := runB 2 2 b_quotient_in
theorem sc_quotient_in : FnScope ["one", "other"] ["one", "other"] (defScope s_quotient_in) := ⟨rfl, rfl, rfl, by decide +kernel, rfl, by decide +kernel, by decide +kernel⟩
theorem bn_quotient_in (T : Txt K mg fa ca fd) : Binds K (fd 7) ["one", "other"] [] := T.f_quotient_in.binds fun _ _ _ _ _ _ us hl => match us, hl with | [_, _], _ => rfl
theorem ok_quotient_in (T : Txt K mg fa ca fd) : FnOk P w K mg base (L2.CX P w) 2 (fa 7) (fd 7) ["one", "other"] (spH (GG K fa ca) 2 F_quotient_in) :=
  have nd := sc_quotient_in.nd
  fnX (G := GG K fa ca) 2 2 (mb := b_quotient_in) (by rfl) T.f_quotient_in sc_quotient_in (by rfl) (by rfl) (by rfl) fun cdv A outer s H E hr B po =>
    (sss_one (ss_ret (se_callF B (ok_fraction_in T) (hr.mono (by decide)) (by rfl) T.d_fraction_in T.f_fraction_in.kp (bn_fraction_in T) (sa_cons (se_op op_times times_ok (se_ix (by rfl) (se_var 0) se_int) (se_ix (by rfl) (se_var 1) se_int)) (sa_cons (se_op op_times times_ok (se_ix (by rfl) (se_var 0) se_int) (se_ix (by rfl) (se_var 1) se_int)) sa_nil)))))
def l_total_in_0 : MS := (mAsg (gSet 1) (eB (callF 2 F_sum_in) (eConsA (eVar 1) (eConsA (eVar 2) eNilA))))
def b_total_in : MS := (mSeq (mAsg (gSet 1) (eC (.tup [(.int 0), (.int 1)])))
    (mSeq (mFor (iSeq (eVar 0)) (gSet 2) l_total_in_0)
    (mRet (eVar 1))))
def F_total_in : List CV → M CV := runB 1 3 b_total_in
theorem sc_total_in : FnScope ["fractions", "found", "one"] ["fractions"] (defScope s_total_in) := ⟨rfl, rfl, rfl, by decide +kernel, rfl, by decide +kernel, by decide +kernel⟩
theorem bn_total_in (T : Txt K mg fa ca fd) : Binds K (fd 8) ["fractions"] [] := T.f_total_in.binds fun _ _ _ _ _ _ us hl => match us, hl with | [_], _ => rfl
theorem ok_total_in (T : Txt K mg fa ca fd) : FnOk P w K mg base (L2.CX P w) 3 (fa 8) (fd 8) ["fractions"] (spH (GG K fa ca) 1 F_total_in) :=
  have nd := sc_total_in.nd
  fnX (G := GG K fa ca) 1 3 (mb := b_total_in) (by rfl) T.f_total_in sc_total_in (by rfl) (by rfl) (by rfl) fun cdv A outer s H E hr B po =>
    (sss_cons (ss_asg (sg_set (i := 1) nd rfl (.inl rfl)) (se_gk (by rfl) T.c_ZERO_numbers))
    (sss_cons (ss_for po rfl (si_seq (by rfl) (se_var 0)) (sg_set (i := 2) nd rfl (.inl rfl)) (sss_one (ss_asg (sg_set (i := 1) nd rfl (.inl rfl)) (se_callF B (ok_sum_in T) (hr.mono (by decide)) (by rfl) T.d_sum_in T.f_sum_in.kp (bn_sum_in T) (sa_cons (se_var 1) (sa_cons (se_var 2) sa_nil))))))
    (sss_one (ss_ret (se_var 1)))))
def l_power_in_0 : MS := (mSeq (mIf (bOf (eOp (pyEq false) (eOp pyMod (eVar 4) (eC (.int 2))) (eC (.int 1)))) (mAug 2 pyIMul (eVar 3)) mNil)
    (mSeq (mAug 3 pyIMul (eVar 3))
    (mAug 4 pyFdiv (eC (.int 2)))))
def b_power_in : MS := (mSeq (mPar3 2 3 4 (eConsA (eC (.int 1)) (eConsA (eVar 0) (eConsA (eVar 1) eNilA))))
    (mSeq (mWhile (bOf (eOp pyGt (eVar 4) (eC (.int 0)))) l_power_in_0 100000)
    (mRet (eVar 2))))
def F_power_in : List CV → M CV := runB 2 5 b_power_in
theorem sc_power_in : FnScope ["number", "many", "found", "here", "left"] ["number", "many"] (defScope s_power_in) := ⟨rfl, rfl, rfl, by decide +kernel, rfl, by decide +kernel, by decide +kernel⟩
theorem bn_power_in (T : Txt K mg fa ca fd) : Binds K (fd 9) ["number", "many"] [] := T.f_power_in.binds fun _ _ _ _ _ _ us hl => match us, hl with | [_, _], _ => rfl
theorem ok_power_in (T : Txt K mg fa ca fd) : FnOk P w K mg base (L2.CX P w) 1 (fa 9) (fd 9) ["number", "many"] (spH (GG K fa ca) 2 F_power_in) :=
  have nd := sc_power_in.nd
  fnX (G := GG K fa ca) 2 5 (mb := b_power_in) (by rfl) T.f_power_in sc_power_in (by rfl) (by rfl) (by rfl) fun cdv A outer s H E hr B po =>
    (sss_cons (ss_par3 (i := 2) (j := 3) (l := 4) rfl nd rfl rfl rfl (by decide) (by decide) (by decide) rfl rfl rfl (sa_cons se_int (sa_cons (se_var 0) (sa_cons (se_var 1) sa_nil))) (by rfl))
    (sss_cons (ss_while 100000 po (st_cmp op_gt cmp_ok (se_var 4) se_int) (sss_cons (ss_if (st_cmp (op_eqD hr.units) eq_ok (se_op op_modN mod_ok (se_var 4) se_int) se_int) (sss_one (ss_aug (i := 2) iop_mulW imul_ok nd rfl (.inl rfl) (se_var 3))) sss_nil)
    (sss_cons (ss_aug (i := 3) iop_mulW imul_ok nd rfl (.inl rfl) (se_var 3))
    (sss_one (ss_aug (i := 4) iop_fdivG fdiv_ok nd rfl (.inl rfl) se_int)))))
    (sss_one (ss_ret (se_var 2)))))
def l_product_from_0 : MS := (mAug 3 pyIMul (eVar 4))
def b_product_from : MS := (mSeq (mAsg (gSet 3) (eC (.int 1)))
    (mSeq (mFor (iArgs rng3 (eConsA (eVar 0) (eConsA (eOp pyAdd (eVar 1) (eC (.int 1))) (eConsA (eVar 2) eNilA)))) (gSet 4) l_product_from_0)
    (mRet (eVar 3))))
def F_product_from : List CV → M CV := runB 3 5 b_product_from
theorem sc_product_from : FnScope ["least", "most", "step", "found", "number"] ["least", "most", "step"] (defScope s_product_from) := ⟨rfl, rfl, rfl, by decide +kernel, rfl, by decide +kernel, by decide +kernel⟩
theorem bn_product_from (T : Txt K mg fa ca fd) : Binds K (fd 10) ["least", "most", "step"] [] := T.f_product_from.binds fun _ _ _ _ _ _ us hl => match us, hl with | [_, _, _], _ => rfl
theorem ok_product_from (T : Txt K mg fa ca fd) : FnOk P w K mg base (L2.CX P w) 1 (fa 10) (fd 10) ["least", "most", "step"] (spH (GG K fa ca) 3 F_product_from) :=
  have nd := sc_product_from.nd
  fnX (G := GG K fa ca) 3 5 (mb := b_product_from) (by rfl) T.f_product_from sc_product_from (by rfl) (by rfl) (by rfl) fun cdv A outer s H E hr B po =>
    (sss_cons (ss_asg (sg_set (i := 3) nd rfl (.inl rfl)) se_int)
    (sss_cons (ss_for po rfl (si_rng3 (by rfl) T.z_range (sa_cons (se_var 0) (sa_cons (se_op op_plus plus_ok (se_var 1) se_int) (sa_cons (se_var 2) sa_nil)))) (sg_set (i := 4) nd rfl (.inl rfl)) (sss_one (ss_aug (i := 3) iop_mulW imul_ok nd rfl (.inl rfl) (se_var 4))))
    (sss_one (ss_ret (se_var 3)))))
def l_bernoulli_row_0 : Sl → M CV := (eB (callF 2 F_product_in) (eConsA (eTup (eConsA (eB pyComb (eConsA (eOp pyAdd (eVar 2) (eC (.int 1))) (eConsA (eVar 5) eNilA))) (eConsA (eC (.int 1)) eNilA))) (eConsA (eVar 4) eNilA)))
def l_bernoulli_row_1 : MS := (mSeq (mAsg (gSet 3) (eB (callF 1 F_total_in) (eConsA (eLcA (iEnumA (eConsA (eVar 1) eNilA)) (gUnp 2 (gConsT (gSet 5) (gConsT (gSet 4) gNilT))) bYes l_bernoulli_row_0 [5, 4]) eNilA)))
    (mExpr (eMt isLis pyAppend (eVar 1) (eConsA (eB (callF 2 F_quotient_in) (eConsA (eVar 3) (eConsA (eTup (eConsA (eOp pySub (eUn pyNeg (eVar 2)) (eC (.int 1))) (eConsA (eC (.int 1)) eNilA))) eNilA))) eNilA))))
def b_bernoulli_row : MS := (mSeq (mAsg (gSet 1) (eNew (eConsA (eC (.tup [(.int 1), (.int 1)])) eNilA)))
    (mSeq (mFor (iArgs rng2 (eConsA (eC (.int 1)) (eConsA (eOp pyAdd (eVar 0) (eC (.int 1))) eNilA))) (gSet 2) l_bernoulli_row_1)
    (mRet (eVar 1))))
def F_bernoulli_row : List CV → M CV := runB 1 6 b_bernoulli_row
theorem sc_bernoulli_row : FnScope ["most", "found", "last", "whole", "one", "place"] ["most"] (defScope s_bernoulli_row) := ⟨rfl, rfl, rfl, by decide +kernel, rfl, by decide +kernel, by decide +kernel⟩
theorem bn_bernoulli_row (T : Txt K mg fa ca fd) : Binds K (fd 11) ["most"] [] := T.f_bernoulli_row.binds fun _ _ _ _ _ _ us hl => match us, hl with | [_], _ => rfl
theorem ok_bernoulli_row (T : Txt K mg fa ca fd) : FnOk P w K mg base (L2.CX P w) 4 (fa 11) (fd 11) ["most"] (spH (GG K fa ca) 1 F_bernoulli_row) :=
  have nd := sc_bernoulli_row.nd
  fnX (G := GG K fa ca) 1 6 (mb := b_bernoulli_row) (by rfl) T.f_bernoulli_row sc_bernoulli_row (by rfl) (by rfl) (by rfl) fun cdv A outer s H E hr B po =>
    (sss_cons (ss_asg (sg_set (i := 1) nd rfl (.inl rfl)) (se_new (sa_cons (se_gk (by rfl) T.c_ONE) sa_nil)))
    (sss_cons (ss_for po rfl (si_rng2 (by rfl) T.z_range (sa_cons se_int (sa_cons (se_op op_plus plus_ok (se_var 0) se_int) sa_nil))) (sg_set (i := 2) nd rfl (.inr rfl)) (sss_cons (ss_asg (sg_set (i := 3) nd rfl (.inl rfl)) (se_callF B (ok_total_in T) (hr.mono (by decide)) (by rfl) T.d_total_in T.f_total_in.kp (bn_total_in T) (sa_cons (se_lcA (own := [("place", 5), ("one", 4)]) (g := (gTup K 2 (gCons (gName 5) (gCons (gName 4) gNil)))) rfl nd (si_enumA (by rfl) (by rfl) T.z_enumerate (sa_cons (se_var 1) sa_nil)) (blkOk_by (N := ["most", "found", "last", "whole", "one", "place"]) (sc := defScope s_bernoulli_row) (by decide +kernel)) (lcg_unp (lcg_cons (lcg_set (by decide)) (lcg_cons (lcg_set (by decide)) lcg_nil))) (fun _ _ _ _ _ => (pg_tup rfl (pgs_cons (pg_name (i := 5) nd rfl (.inl rfl)) (pgs_cons (pg_name (i := 4) nd rfl (.inl rfl)) pgs_nil)))) (fun _ _ _ _ _ => sts_nil) (fun _ _ _ _ _ => (se_callF ⟨by rfl, L2.takes0⟩ (ok_product_in T) (hr.mono (by decide)) (by rfl) T.d_product_in T.f_product_in.kp (bn_product_in T) (sa_cons (se_tup (sa_cons (se_callBf comb_run pyComb_ok (by rfl) T.i_comb (sa_cons (se_op op_plus plus_ok (se_var 2) se_int) (sa_cons (se_var 5) sa_nil))) (sa_cons se_int sa_nil))) (sa_cons (se_var 4) sa_nil))))) sa_nil)))
    (sss_one (ss_expr (se_mt isLis_ty PySem.F.plainAttrs_list PySem.F.slot_list_append PySem.F.type_list_append mt_append append_ok (se_var 1) (sa_cons (se_callF B (ok_quotient_in T) (hr.mono (by decide)) (by rfl) T.d_quotient_in T.f_quotient_in.kp (bn_quotient_in T) (sa_cons (se_var 3) (sa_cons (se_tup (sa_cons (se_op op_sub sub_ok (se_un un_neg neg_ok (se_var 2)) se_int) (sa_cons se_int sa_nil))) sa_nil))) sa_nil))))))
    (sss_one (ss_ret (se_var 1)))))
def b_bernoulli : MS := (mSeq (mExpr (eB (callF 3 F_require_within) (eConsA (eVar 0) (eConsA (eC (.int 0)) (eConsA (eC (.int 60)) eNilA)))))
    (mRet (eOp pyIx (eB (callF 1 F_bernoulli_row) (eConsA (eVar 0) eNilA)) (eVar 0))))
def F_bernoulli : List CV → M CV := runB 1 1 b_bernoulli
theorem sc_bernoulli : FnScope ["number"] ["number"] (defScope s_bernoulli) := ⟨rfl, rfl, rfl, by decide +kernel, rfl, by decide +kernel, by decide +kernel⟩
theorem bn_bernoulli (T : Txt K mg fa ca fd) : Binds K (fd 12) ["number"] [] := T.f_bernoulli.binds fun _ _ _ _ _ _ us hl => match us, hl with | [_], _ => rfl
theorem ok_bernoulli (T : Txt K mg fa ca fd) : FnOk P w K mg base (L2.CX P w) 5 (fa 12) (fd 12) ["number"] (spH (GG K fa ca) 1 F_bernoulli) :=
  have nd := sc_bernoulli.nd
  fnX (G := GG K fa ca) 1 1 (mb := b_bernoulli) (by rfl) T.f_bernoulli sc_bernoulli (by rfl) (by rfl) (by rfl) fun cdv A outer s H E hr B po =>
    (sss_cons (ss_expr (se_callF B (ok_require_within T) (hr.mono (by decide)) (by rfl) T.d_require_within T.f_require_within.kp (bn_require_within T) (sa_cons (se_var 0) (sa_cons se_int (sa_cons (se_gint (by rfl) T.c_MAX_BERNOULLI.choose_spec) sa_nil)))))
    (sss_one (ss_ret (se_ix (by rfl) (se_callF B (ok_bernoulli_row T) (hr.mono (by decide)) (by rfl) T.d_bernoulli_row T.f_bernoulli_row.kp (bn_bernoulli_row T) (sa_cons (se_var 0) sa_nil)) (se_var 0)))))
def b_number_at : MS := (mSeq (mIf (bOr (bOf (eOp pyLt (eVar 2) (eC (.int 0)))) (bNot (bOf (eChain pyLe pyLt (eC (.int 0)) (eVar 1) (eB pyLen (eConsA (eOp pyIx (eVar 0) (eVar 2)) eNilA)))))) (mRet (eC (.int 0))) mNil)
    (mRet (eOp pyIx (eOp pyIx (eVar 0) (eVar 2)) (eVar 1))))
def F_number_at : List CV → M CV := runB 3 3 b_number_at
theorem sc_number_at : FnScope ["rows", "handles", "ties"] ["rows", "handles", "ties"] (defScope s_number_at) := ⟨rfl, rfl, rfl, by decide +kernel, rfl, by decide +kernel, by decide +kernel⟩
theorem bn_number_at (T : Txt K mg fa ca fd) : Binds K (fd 14) ["rows", "handles", "ties"] [] := T.f_number_at.binds fun _ _ _ _ _ _ us hl => match us, hl with | [_, _, _], _ => rfl
theorem ok_number_at (T : Txt K mg fa ca fd) : FnOk P w K mg base (L2.CX P w) 1 (fa 14) (fd 14) ["rows", "handles", "ties"] (spH (GG K fa ca) 3 F_number_at) :=
  have nd := sc_number_at.nd
  fnX (G := GG K fa ca) 3 3 (mb := b_number_at) (by rfl) T.f_number_at sc_number_at (by rfl) (by rfl) (by rfl) fun cdv A outer s H E hr B po =>
    (sss_cons (ss_if (st_bool (sw_or (st_cmp op_lt cmp_ok (se_var 2) se_int) (sw_or1 (st_not (st_chain op_le cmp_ok op_lt cmp_ok se_int (se_var 1) (se_callB call_len len_ok (by rfl) T.z_len (by decide +kernel) (sa_cons (se_ix (by rfl) (se_var 0) (se_var 2)) sa_nil))))))) (sss_one (ss_ret se_int)) sss_nil)
    (sss_one (ss_ret (se_ix (by rfl) (se_ix (by rfl) (se_var 0) (se_var 2)) (se_var 1)))))
def l_rows_to_0 : MS := (mSeq (mAsg (gSet 5) (eOp pyMul (eOp pyMul (eC (.int 2)) (eOp pySub (eOp pyMul (eC (.int 2)) (eVar 2)) (eC (.int 1)))) (eCall 3 F_number_at (eConsA (eVar 1) (eConsA (eVar 4) (eConsA (eOp pySub (eVar 2) (eC (.int 1))) eNilA))))))
    (mSeq (mAug 5 pyIAdd (eOp pyMul (eOp pyMul (eOp pyMul (eOp pySub (eOp pyMul (eC (.int 2)) (eVar 2)) (eC (.int 1))) (eOp pySub (eVar 2) (eC (.int 1)))) (eOp pySub (eOp pyMul (eC (.int 2)) (eVar 2)) (eC (.int 3)))) (eCall 3 F_number_at (eConsA (eVar 1) (eConsA (eOp pySub (eVar 4) (eC (.int 1))) (eConsA (eOp pySub (eVar 2) (eC (.int 2))) eNilA))))))
    (mExpr (eMt isLis pyAppend (eVar 3) (eConsA (eOp pyFdiv (eVar 5) (eOp pyAdd (eVar 2) (eC (.int 1)))) eNilA)))))
def l_rows_to_1 : MS := (mSeq (mAsg (gSet 3) (eNew eNilA))
    (mSeq (mFor (iArgs rng1 (eConsA (eOp pyAdd (eOp pyFdiv (eVar 2) (eC (.int 2))) (eC (.int 1))) eNilA)) (gSet 4) l_rows_to_0)
    (mExpr (eMt isLis pyAppend (eVar 1) (eConsA (eVar 3) eNilA)))))
def b_rows_to : MS := (mSeq (mAsg (gSet 1) (eNew (eConsA (eLst (eConsA (eC (.int 1)) eNilA)) eNilA)))
    (mSeq (mFor (iArgs rng2 (eConsA (eC (.int 1)) (eConsA (eOp pyAdd (eVar 0) (eC (.int 1))) eNilA))) (gSet 2) l_rows_to_1)
    (mRet (eVar 1))))
def F_rows_to : List CV → M CV := runB 1 6 b_rows_to
theorem sc_rows_to : FnScope ["ties", "found", "many", "row", "handles", "whole"] ["ties"] (defScope s_rows_to) := ⟨rfl, rfl, rfl, by decide +kernel, rfl, by decide +kernel, by decide +kernel⟩
theorem bn_rows_to (T : Txt K mg fa ca fd) : Binds K (fd 13) ["ties"] [] := T.f_rows_to.binds fun _ _ _ _ _ _ us hl => match us, hl with | [_], _ => rfl
theorem ok_rows_to (T : Txt K mg fa ca fd) : FnOk P w K mg base (L2.CX P w) 2 (fa 13) (fd 13) ["ties"] (spH (GG K fa ca) 1 F_rows_to) :=
  have nd := sc_rows_to.nd
  fnX (G := GG K fa ca) 1 6 (mb := b_rows_to) (by rfl) T.f_rows_to sc_rows_to (by rfl) (by rfl) (by rfl) fun cdv A outer s H E hr B po =>
    (sss_cons (ss_asg (sg_set (i := 1) nd rfl (.inl rfl)) (se_new (sa_cons (se_lst (sa_cons se_int sa_nil)) sa_nil)))
    (sss_cons (ss_for po rfl (si_rng2 (by rfl) T.z_range (sa_cons se_int (sa_cons (se_op op_plus plus_ok (se_var 0) se_int) sa_nil))) (sg_set (i := 2) nd rfl (.inl rfl)) (sss_cons (ss_asg (sg_set (i := 3) nd rfl (.inl rfl)) (se_new sa_nil))
    (sss_cons (ss_for po rfl (si_rng1 (by rfl) T.z_range (sa_cons (se_op op_plus plus_ok (se_op op_fdivG fdiv_ok (se_var 2) se_int) se_int) sa_nil)) (sg_set (i := 4) nd rfl (.inl rfl)) (sss_cons (ss_asg (sg_set (i := 5) nd rfl (.inl rfl)) (se_op op_times times_ok (se_op op_times times_ok se_int (se_op op_sub sub_ok (se_op op_times times_ok se_int (se_var 2)) se_int)) (se_call B (ok_number_at T) (hr.mono (by decide)) (by rfl) T.d_number_at T.f_number_at.kp (bn_number_at T) (sa_cons (se_var 1) (sa_cons (se_var 4) (sa_cons (se_op op_sub sub_ok (se_var 2) se_int) sa_nil))))))
    (sss_cons (ss_aug (i := 5) iop_add iadd_ok nd rfl (.inl rfl) (se_op op_times times_ok (se_op op_times times_ok (se_op op_times times_ok (se_op op_sub sub_ok (se_op op_times times_ok se_int (se_var 2)) se_int) (se_op op_sub sub_ok (se_var 2) se_int)) (se_op op_sub sub_ok (se_op op_times times_ok se_int (se_var 2)) se_int)) (se_call B (ok_number_at T) (hr.mono (by decide)) (by rfl) T.d_number_at T.f_number_at.kp (bn_number_at T) (sa_cons (se_var 1) (sa_cons (se_op op_sub sub_ok (se_var 4) se_int) (sa_cons (se_op op_sub sub_ok (se_var 2) se_int) sa_nil))))))
    (sss_one (ss_expr (se_mt isLis_ty PySem.F.plainAttrs_list PySem.F.slot_list_append PySem.F.type_list_append mt_append append_ok (se_var 3) (sa_cons (se_op op_fdivG fdiv_ok (se_var 5) (se_op op_plus plus_ok (se_var 2) se_int)) sa_nil)))))))
    (sss_one (ss_expr (se_mt isLis_ty PySem.F.plainAttrs_list PySem.F.slot_list_append PySem.F.type_list_append mt_append append_ok (se_var 1) (sa_cons (se_var 3) sa_nil)))))))
    (sss_one (ss_ret (se_var 1)))))
def l_column_to_0 : Sl → M CV := (eCall 3 F_number_at (eConsA (eVar 2) (eConsA (eVar 0) (eConsA (eVar 3) eNilA))))
def b_column_to : MS := (mSeq (mAsg (gSet 2) (eB (callF 1 F_rows_to) (eConsA (eVar 1) eNilA)))
    (mRet (eLc (iArgs rng1 (eConsA (eOp pyAdd (eVar 1) (eC (.int 1))) eNilA)) (gSet 3) bYes l_column_to_0 [3])))
def F_column_to : List CV → M CV := runB 2 4 b_column_to
theorem sc_column_to : FnScope ["handles", "ties", "rows", "many"] ["handles", "ties"] (defScope s_column_to) := ⟨rfl, rfl, rfl, by decide +kernel, rfl, by decide +kernel, by decide +kernel⟩
theorem bn_column_to (T : Txt K mg fa ca fd) : Binds K (fd 15) ["handles", "ties"] [] := T.f_column_to.binds fun _ _ _ _ _ _ us hl => match us, hl with | [_, _], _ => rfl
theorem ok_column_to (T : Txt K mg fa ca fd) : FnOk P w K mg base (L2.CX P w) 3 (fa 15) (fd 15) ["handles", "ties"] (spH (GG K fa ca) 2 F_column_to) :=
  have nd := sc_column_to.nd
  fnX (G := GG K fa ca) 2 4 (mb := b_column_to) (by rfl) T.f_column_to sc_column_to (by rfl) (by rfl) (by rfl) fun cdv A outer s H E hr B po =>
    (sss_cons (ss_asg (sg_set (i := 2) nd rfl (.inr rfl)) (se_callF B (ok_rows_to T) (hr.mono (by decide)) (by rfl) T.d_rows_to T.f_rows_to.kp (bn_rows_to T) (sa_cons (se_var 1) sa_nil)))
    (sss_one (ss_ret (se_lc (own := [("many", 3)]) (g := (gName 3)) rfl nd (si_rng1 (by rfl) T.z_range (sa_cons (se_op op_plus plus_ok (se_var 1) se_int) sa_nil)) (blkOk_by (N := ["handles", "ties", "rows", "many"]) (sc := defScope s_column_to) (by decide +kernel)) (lcg_set (by decide)) (fun _ _ _ _ _ => (pg_name (i := 3) nd rfl (.inl rfl))) (fun _ _ _ _ _ => sts_nil) (fun _ _ _ _ _ => (se_call ⟨by rfl, L2.takes0⟩ (ok_number_at T) (hr.mono (by decide)) (by rfl) T.d_number_at T.f_number_at.kp (bn_number_at T) (sa_cons (se_var 2) (sa_cons (se_var 0) (sa_cons (se_var 3) sa_nil)))))))))
def l_full_factor_0 : MS := (mSeq (mAsg (gSet 4) (eOp pySub (eVar 1) (eVar 3)))
    (mSeq (mAsg (gSet 5) (eOp pyMul (eOp pyMul (eB pyComb (eConsA (eVar 0) (eConsA (eVar 3) eNilA))) (eB (callF 2 F_power_in) (eConsA (eC (.int 2)) (eConsA (eVar 4) eNilA)))) (eB pyComb (eConsA (eOp pyAdd (eOp pySub (eOp pyMul (eC (.int 2)) (eVar 0)) (eC (.int 1))) (eVar 4)) (eConsA (eVar 4) eNilA)))))
    (mAug 2 pyIAdd (eIf (bOf (eOp (pyEq false) (eOp pyMod (eVar 4) (eC (.int 2))) (eC (.int 1)))) (eUn pyNeg (eVar 5)) (eVar 5)))))
def b_full_factor : MS := (mSeq (mAsg (gSet 2) (eC (.int 0)))
    (mSeq (mFor (iArgs rng1 (eConsA (eOp pyAdd (eVar 1) (eC (.int 1))) eNilA)) (gSet 3) l_full_factor_0)
    (mRet (eVar 2))))
def F_full_factor : List CV → M CV := runB 2 6 b_full_factor
theorem sc_full_factor : FnScope ["many", "left", "found", "step", "rest", "ways"] ["many", "left"] (defScope s_full_factor) := ⟨rfl, rfl, rfl, by decide +kernel, rfl, by decide +kernel, by decide +kernel⟩
theorem bn_full_factor (T : Txt K mg fa ca fd) : Binds K (fd 16) ["many", "left"] [] := T.f_full_factor.binds fun _ _ _ _ _ _ us hl => match us, hl with | [_, _], _ => rfl
theorem ok_full_factor (T : Txt K mg fa ca fd) : FnOk P w K mg base (L2.CX P w) 2 (fa 16) (fd 16) ["many", "left"] (spH (GG K fa ca) 2 F_full_factor) :=
  have nd := sc_full_factor.nd
  fnX (G := GG K fa ca) 2 6 (mb := b_full_factor) (by rfl) T.f_full_factor sc_full_factor (by rfl) (by rfl) (by rfl) fun cdv A outer s H E hr B po =>
    (sss_cons (ss_asg (sg_set (i := 2) nd rfl (.inl rfl)) se_int)
    (sss_cons (ss_for po rfl (si_rng1 (by rfl) T.z_range (sa_cons (se_op op_plus plus_ok (se_var 1) se_int) sa_nil)) (sg_set (i := 3) nd rfl (.inl rfl)) (sss_cons (ss_asg (sg_set (i := 4) nd rfl (.inl rfl)) (se_op op_sub sub_ok (se_var 1) (se_var 3)))
    (sss_cons (ss_asg (sg_set (i := 5) nd rfl (.inl rfl)) (se_op op_times times_ok (se_op op_times times_ok (se_callBf comb_run pyComb_ok (by rfl) T.i_comb (sa_cons (se_var 0) (sa_cons (se_var 3) sa_nil))) (se_callF B (ok_power_in T) (hr.mono (by decide)) (by rfl) T.d_power_in T.f_power_in.kp (bn_power_in T) (sa_cons se_int (sa_cons (se_var 4) sa_nil)))) (se_callBf comb_run pyComb_ok (by rfl) T.i_comb (sa_cons (se_op op_plus plus_ok (se_op op_sub sub_ok (se_op op_times times_ok se_int (se_var 0)) se_int) (se_var 4)) (sa_cons (se_var 4) sa_nil)))))
    (sss_one (ss_aug (i := 2) iop_add iadd_ok nd rfl (.inl rfl) (se_if (st_cmp (op_eqD hr.units) eq_ok (se_op op_modN mod_ok (se_var 4) se_int) se_int) (se_un un_neg neg_ok (se_var 5)) (se_var 5)))))))
    (sss_one (ss_ret (se_var 2)))))
def l_full_in_0 : MS := (mIf (bOf (eOp (pyEq true) (eVar 4) (eC (.int 0)))) (mExpr (eMt isLis pyAppend (eVar 2) (eConsA (eB (callF 2 F_fraction_in) (eConsA (eOp pyMul (eOp pyMul (eB (callF 2 F_full_factor) (eConsA (eVar 3) (eConsA (eOp pySub (eVar 1) (eVar 3)) eNilA))) (eVar 1)) (eVar 4)) (eConsA (eVar 3) eNilA))) eNilA))) mNil)
def b_full_in : MS := (mSeq (mAsg (gSet 2) (eNew eNilA))
    (mSeq (mFor (iArgs enumOf2 (eConsA (eB (callF 2 F_column_to) (eConsA (eVar 0) (eConsA (eVar 1) eNilA))) eNilA)) (gUnp 2 (gConsT (gSet 3) (gConsT (gSet 4) gNilT))) l_full_in_0)
    (mRet (eOp pyIx (eB (callF 1 F_total_in) (eConsA (eVar 2) eNilA)) (eC (.int 0))))))
def F_full_in : List CV → M CV := runB 2 5 b_full_in
theorem sc_full_in : FnScope ["handles", "ties", "found", "many", "number"] ["handles", "ties"] (defScope s_full_in) := ⟨rfl, rfl, rfl, by decide +kernel, rfl, by decide +kernel, by decide +kernel⟩
theorem bn_full_in (T : Txt K mg fa ca fd) : Binds K (fd 17) ["handles", "ties"] [] := T.f_full_in.binds fun _ _ _ _ _ _ us hl => match us, hl with | [_, _], _ => rfl
theorem ok_full_in (T : Txt K mg fa ca fd) : FnOk P w K mg base (L2.CX P w) 4 (fa 17) (fd 17) ["handles", "ties"] (spH (GG K fa ca) 2 F_full_in) :=
  have nd := sc_full_in.nd
  fnX (G := GG K fa ca) 2 5 (mb := b_full_in) (by rfl) T.f_full_in sc_full_in (by rfl) (by rfl) (by rfl) fun cdv A outer s H E hr B po =>
    (sss_cons (ss_asg (sg_set (i := 2) nd rfl (.inl rfl)) (se_new sa_nil))
    (sss_cons (ss_for po rfl (si_enum2 (by rfl) (by rfl) T.z_enumerate (sa_cons (se_callF B (ok_column_to T) (hr.mono (by decide)) (by rfl) T.d_column_to T.f_column_to.kp (bn_column_to T) (sa_cons (se_var 0) (sa_cons (se_var 1) sa_nil))) sa_nil)) (sg_unp rfl rfl (sgs_cons (sg_set (i := 3) nd rfl (.inl rfl)) (sgs_cons (sg_set (i := 4) nd rfl (.inl rfl)) sgs_nil))) (sss_one (ss_if (st_cmp (op_neD hr.units) ne_ok (se_var 4) se_int) (sss_one (ss_expr (se_mt isLis_ty PySem.F.plainAttrs_list PySem.F.slot_list_append PySem.F.type_list_append mt_append append_ok (se_var 2) (sa_cons (se_callF B (ok_fraction_in T) (hr.mono (by decide)) (by rfl) T.d_fraction_in T.f_fraction_in.kp (bn_fraction_in T) (sa_cons (se_op op_times times_ok (se_op op_times times_ok (se_callF B (ok_full_factor T) (hr.mono (by decide)) (by rfl) T.d_full_factor T.f_full_factor.kp (bn_full_factor T) (sa_cons (se_var 3) (sa_cons (se_op op_sub sub_ok (se_var 1) (se_var 3)) sa_nil))) (se_var 1)) (se_var 4)) (sa_cons (se_var 3) sa_nil))) sa_nil)))) sss_nil)))
    (sss_one (ss_ret (se_ix (by rfl) (se_callF B (ok_total_in T) (hr.mono (by decide)) (by rfl) T.d_total_in T.f_total_in.kp (bn_total_in T) (sa_cons (se_var 2) sa_nil)) se_int)))))
def b_require_handles : MS := (mIf (bOr (bNot (bOf (eB (callF 1 F_is_integer) (eConsA (eVar 0) eNilA)))) (bOf (eOp pyLt (eVar 0) (eVar 1)))) mNever mNil)
def F_require_handles : List CV → M CV := runB 2 2 b_require_handles
theorem sc_require_handles : FnScope ["value", "least"] ["value", "least"] (defScope s_require_handles) := ⟨rfl, rfl, rfl, by decide +kernel, rfl, by decide +kernel, by decide +kernel⟩
theorem bn_require_handles (T : Txt K mg fa ca fd) : Binds K (fd 18) ["value", "least"] [] := T.f_require_handles.binds fun _ _ _ _ _ _ us hl => match us, hl with | [_, _], _ => rfl
theorem ok_require_handles (T : Txt K mg fa ca fd) : FnOk P w K mg base (L2.CX P w) 3 (fa 18) (fd 18) ["value", "least"] (spH (GG K fa ca) 2 F_require_handles) :=
  have nd := sc_require_handles.nd
  fnX (G := GG K fa ca) 2 2 (mb := b_require_handles) (by rfl) T.f_require_handles sc_require_handles (by rfl) (by rfl) (by rfl) fun cdv A outer s H E hr B po =>
    (sss_one (ss_if (st_bool (sw_or (st_not (st_val (se_callF B (ok_is_integer T) (hr.mono (by decide)) (by rfl) T.d_is_integer T.f_is_integer.kp (bn_is_integer T) (sa_cons (se_var 0) sa_nil)))) (sw_or1 (st_cmp op_lt cmp_ok (se_var 0) (se_var 1))))) (sss_one ss_never) sss_nil))
def b_full_gluings : MS := (mSeq (mExpr (eB (callF 2 F_require_handles) (eConsA (eVar 0) (eConsA (eC (.int 1)) eNilA))))
    (mSeq (mExpr (eB (callF 3 F_require_within) (eConsA (eVar 1) (eConsA (eC (.int 0)) (eConsA (eC (.int 100)) eNilA)))))
    (mRet (eB (callF 2 F_full_in) (eConsA (eVar 0) (eConsA (eVar 1) eNilA))))))
def F_full_gluings : List CV → M CV := runB 2 2 b_full_gluings
theorem sc_full_gluings : FnScope ["handles", "ties"] ["handles", "ties"] (defScope s_full_gluings) := ⟨rfl, rfl, rfl, by decide +kernel, rfl, by decide +kernel, by decide +kernel⟩
theorem bn_full_gluings (T : Txt K mg fa ca fd) : Binds K (fd 19) ["handles", "ties"] [] := T.f_full_gluings.binds fun _ _ _ _ _ _ us hl => match us, hl with | [_, _], _ => rfl
theorem ok_full_gluings (T : Txt K mg fa ca fd) : FnOk P w K mg base (L2.CX P w) 5 (fa 19) (fd 19) ["handles", "ties"] (spH (GG K fa ca) 2 F_full_gluings) :=
  have nd := sc_full_gluings.nd
  fnX (G := GG K fa ca) 2 2 (mb := b_full_gluings) (by rfl) T.f_full_gluings sc_full_gluings (by rfl) (by rfl) (by rfl) fun cdv A outer s H E hr B po =>
    (sss_cons (ss_expr (se_callF B (ok_require_handles T) (hr.mono (by decide)) (by rfl) T.d_require_handles T.f_require_handles.kp (bn_require_handles T) (sa_cons (se_var 0) (sa_cons se_int sa_nil))))
    (sss_cons (ss_expr (se_callF B (ok_require_within T) (hr.mono (by decide)) (by rfl) T.d_require_within T.f_require_within.kp (bn_require_within T) (sa_cons (se_var 1) (sa_cons se_int (sa_cons (se_gint (by rfl) T.c_MOST_TIES.choose_spec) sa_nil)))))
    (sss_one (ss_ret (se_callF B (ok_full_in T) (hr.mono (by decide)) (by rfl) T.d_full_in T.f_full_in.kp (bn_full_in T) (sa_cons (se_var 0) (sa_cons (se_var 1) sa_nil)))))))
def b_signed : MS := (mRet (eIf (bOf (eOp (pyEq false) (eOp pyMod (eVar 1) (eC (.int 2))) (eC (.int 1)))) (eTup (eConsA (eUn pyNeg (eOp pyIx (eVar 0) (eC (.int 0)))) (eConsA (eOp pyIx (eVar 0) (eC (.int 1))) eNilA))) (eVar 0)))
def F_signed : List CV → M CV := runB 2 2 b_signed
theorem sc_signed : FnScope ["number", "ties"] ["number", "ties"] (defScope s_signed) := ⟨rfl, rfl, rfl, by decide +kernel, rfl, by decide +kernel, by decide +kernel⟩
theorem bn_signed (T : Txt K mg fa ca fd) : Binds K (fd 21) ["number", "ties"] [] := T.f_signed.binds fun _ _ _ _ _ _ us hl => match us, hl with | [_, _], _ => rfl
theorem ok_signed (T : Txt K mg fa ca fd) : FnOk P w K mg base (L2.CX P w) 1 (fa 21) (fd 21) ["number", "ties"] (spH (GG K fa ca) 2 F_signed) :=
  have nd := sc_signed.nd
  fnX (G := GG K fa ca) 2 2 (mb := b_signed) (by rfl) T.f_signed sc_signed (by rfl) (by rfl) (by rfl) fun cdv A outer s H E hr B po =>
    (sss_one (ss_ret (se_if (st_cmp (op_eqD hr.units) eq_ok (se_op op_modN mod_ok (se_var 1) se_int) se_int) (se_tup (sa_cons (se_un un_neg neg_ok (se_ix (by rfl) (se_var 0) se_int)) (sa_cons (se_ix (by rfl) (se_var 0) se_int) sa_nil))) (se_var 0))))
def b_euler_in : MS := (mSeq (mIf (bOf (eOp (pyEq false) (eVar 0) (eC (.int 0)))) (mRet (eB (callF 2 F_signed) (eConsA (eTup (eConsA (eB (callF 3 F_product_from) (eConsA (eC (.int 1)) (eConsA (eOp pySub (eVar 1) (eC (.int 3))) (eConsA (eC (.int 1)) eNilA)))) (eConsA (eC (.int 1)) eNilA))) (eConsA (eOp pySub (eVar 1) (eC (.int 3))) eNilA)))) mNil)
    (mSeq (mAsg (gSet 2) (eB (callF 2 F_product_in) (eConsA (eB (callF 1 F_bernoulli) (eConsA (eOp pyMul (eC (.int 2)) (eVar 0)) eNilA)) (eConsA (eTup (eConsA (eC (.int 1)) (eConsA (eOp pyMul (eC (.int 2)) (eVar 0)) eNilA))) eNilA))))
    (mSeq (mAsg (gSet 3) (eB (callF 2 F_fraction_in) (eConsA (eB (callF 3 F_product_from) (eConsA (eC (.int 1)) (eConsA (eOp pyAdd (eOp pySub (eOp pyMul (eC (.int 2)) (eVar 0)) (eC (.int 3))) (eVar 1)) (eConsA (eC (.int 1)) eNilA)))) (eConsA (eB (callF 3 F_product_from) (eConsA (eC (.int 1)) (eConsA (eOp pySub (eOp pyMul (eC (.int 2)) (eVar 0)) (eC (.int 2))) (eConsA (eC (.int 1)) eNilA)))) eNilA))))
    (mRet (eB (callF 2 F_signed) (eConsA (eB (callF 2 F_product_in) (eConsA (eVar 3) (eConsA (eVar 2) eNilA))) (eConsA (eVar 1) eNilA)))))))
def F_euler_in : List CV → M CV := runB 2 4 b_euler_in
theorem sc_euler_in : FnScope ["handles", "many", "whole", "ways"] ["handles", "many"] (defScope s_euler_in) := ⟨rfl, rfl, rfl, by decide +kernel, rfl, by decide +kernel, by decide +kernel⟩
theorem bn_euler_in (T : Txt K mg fa ca fd) : Binds K (fd 20) ["handles", "many"] [] := T.f_euler_in.binds fun _ _ _ _ _ _ us hl => match us, hl with | [_, _], _ => rfl
theorem ok_euler_in (T : Txt K mg fa ca fd) : FnOk P w K mg base (L2.CX P w) 6 (fa 20) (fd 20) ["handles", "many"] (spH (GG K fa ca) 2 F_euler_in) :=
  have nd := sc_euler_in.nd
  fnX (G := GG K fa ca) 2 4 (mb := b_euler_in) (by rfl) T.f_euler_in sc_euler_in (by rfl) (by rfl) (by rfl) fun cdv A outer s H E hr B po =>
    (sss_cons (ss_if (st_cmp (op_eqD hr.units) eq_ok (se_var 0) se_int) (sss_one (ss_ret (se_callF B (ok_signed T) (hr.mono (by decide)) (by rfl) T.d_signed T.f_signed.kp (bn_signed T) (sa_cons (se_tup (sa_cons (se_callF B (ok_product_from T) (hr.mono (by decide)) (by rfl) T.d_product_from T.f_product_from.kp (bn_product_from T) (sa_cons se_int (sa_cons (se_op op_sub sub_ok (se_var 1) se_int) (sa_cons se_int sa_nil)))) (sa_cons se_int sa_nil))) (sa_cons (se_op op_sub sub_ok (se_var 1) se_int) sa_nil))))) sss_nil)
    (sss_cons (ss_asg (sg_set (i := 2) nd rfl (.inl rfl)) (se_callF B (ok_product_in T) (hr.mono (by decide)) (by rfl) T.d_product_in T.f_product_in.kp (bn_product_in T) (sa_cons (se_callF B (ok_bernoulli T) (hr.mono (by decide)) (by rfl) T.d_bernoulli T.f_bernoulli.kp (bn_bernoulli T) (sa_cons (se_op op_times times_ok se_int (se_var 0)) sa_nil)) (sa_cons (se_tup (sa_cons se_int (sa_cons (se_op op_times times_ok se_int (se_var 0)) sa_nil))) sa_nil))))
    (sss_cons (ss_asg (sg_set (i := 3) nd rfl (.inl rfl)) (se_callF B (ok_fraction_in T) (hr.mono (by decide)) (by rfl) T.d_fraction_in T.f_fraction_in.kp (bn_fraction_in T) (sa_cons (se_callF B (ok_product_from T) (hr.mono (by decide)) (by rfl) T.d_product_from T.f_product_from.kp (bn_product_from T) (sa_cons se_int (sa_cons (se_op op_plus plus_ok (se_op op_sub sub_ok (se_op op_times times_ok se_int (se_var 0)) se_int) (se_var 1)) (sa_cons se_int sa_nil)))) (sa_cons (se_callF B (ok_product_from T) (hr.mono (by decide)) (by rfl) T.d_product_from T.f_product_from.kp (bn_product_from T) (sa_cons se_int (sa_cons (se_op op_sub sub_ok (se_op op_times times_ok se_int (se_var 0)) se_int) (sa_cons se_int sa_nil)))) sa_nil))))
    (sss_one (ss_ret (se_callF B (ok_signed T) (hr.mono (by decide)) (by rfl) T.d_signed T.f_signed.kp (bn_signed T) (sa_cons (se_callF B (ok_product_in T) (hr.mono (by decide)) (by rfl) T.d_product_in T.f_product_in.kp (bn_product_in T) (sa_cons (se_var 3) (sa_cons (se_var 2) sa_nil))) (sa_cons (se_var 1) sa_nil))))))))
def b_euler_number : MS := (mSeq (mExpr (eB (callF 3 F_require_within) (eConsA (eVar 0) (eConsA (eC (.int 0)) (eConsA (eC (.int 20)) eNilA)))))
    (mSeq (mExpr (eB (callF 3 F_require_within) (eConsA (eVar 1) (eConsA (eC (.int 0)) (eConsA (eC (.int 20)) eNilA)))))
    (mSeq (mIf (bOf (eOp pyLt (eOp pyAdd (eOp pySub (eOp pyMul (eC (.int 2)) (eVar 0)) (eC (.int 2))) (eVar 1)) (eC (.int 1)))) mNever mNil)
    (mRet (eB (callF 2 F_euler_in) (eConsA (eVar 0) (eConsA (eVar 1) eNilA)))))))
def F_euler_number : List CV → M CV := runB 2 2 b_euler_number
theorem sc_euler_number : FnScope ["handles", "many"] ["handles", "many"] (defScope s_euler_number) := ⟨rfl, rfl, rfl, by decide +kernel, rfl, by decide +kernel, by decide +kernel⟩
theorem bn_euler_number (T : Txt K mg fa ca fd) : Binds K (fd 22) ["handles", "many"] [] := T.f_euler_number.binds fun _ _ _ _ _ _ us hl => match us, hl with | [_, _], _ => rfl
theorem ok_euler_number (T : Txt K mg fa ca fd) : FnOk P w K mg base (L2.CX P w) 7 (fa 22) (fd 22) ["handles", "many"] (spH (GG K fa ca) 2 F_euler_number) :=
  have nd := sc_euler_number.nd
  fnX (G := GG K fa ca) 2 2 (mb := b_euler_number) (by rfl) T.f_euler_number sc_euler_number (by rfl) (by rfl) (by rfl) fun cdv A outer s H E hr B po =>
    (sss_cons (ss_expr (se_callF B (ok_require_within T) (hr.mono (by decide)) (by rfl) T.d_require_within T.f_require_within.kp (bn_require_within T) (sa_cons (se_var 0) (sa_cons se_int (sa_cons (se_gint (by rfl) T.c_MAX_EULER.choose_spec) sa_nil)))))
    (sss_cons (ss_expr (se_callF B (ok_require_within T) (hr.mono (by decide)) (by rfl) T.d_require_within T.f_require_within.kp (bn_require_within T) (sa_cons (se_var 1) (sa_cons se_int (sa_cons (se_gint (by rfl) T.c_MAX_EULER.choose_spec) sa_nil)))))
    (sss_cons (ss_if (st_cmp op_lt cmp_ok (se_op op_plus plus_ok (se_op op_sub sub_ok (se_op op_times times_ok se_int (se_var 0)) se_int) (se_var 1)) se_int) (sss_one ss_never) sss_nil)
    (sss_one (ss_ret (se_callF B (ok_euler_in T) (hr.mono (by decide)) (by rfl) T.d_euler_in T.f_euler_in.kp (bn_euler_in T) (sa_cons (se_var 0) (sa_cons (se_var 1) sa_nil))))))))
def l_one_rim_sum_0 : MS := (mAsg (gSet 1) (eB (callF 2 F_sum_in) (eConsA (eVar 1) (eConsA (eB (callF 2 F_signed) (eConsA (eB (callF 2 F_fraction_in) (eConsA (eB (callF 2 F_full_gluings) (eConsA (eVar 0) (eConsA (eVar 2) eNilA))) (eConsA (eOp pyMul (eC (.int 2)) (eVar 2)) eNilA))) (eConsA (eOp pySub (eVar 2) (eC (.int 1))) eNilA))) eNilA))))
def b_one_rim_sum : MS := (mSeq (mIf (bNot (bOf (eB (callF 3 F_is_within) (eConsA (eVar 0) (eConsA (eC (.int 1)) (eConsA (eC (.int 6)) eNilA)))))) mNever mNil)
    (mSeq (mAsg (gSet 1) (eC (.tup [(.int 0), (.int 1)])))
    (mSeq (mFor (iArgs rng2 (eConsA (eOp pyMul (eC (.int 2)) (eVar 0)) (eConsA (eOp pySub (eOp pyMul (eC (.int 6)) (eVar 0)) (eC (.int 2))) eNilA))) (gSet 2) l_one_rim_sum_0)
    (mRet (eVar 1)))))
def F_one_rim_sum : List CV → M CV := runB 1 3 b_one_rim_sum
theorem sc_one_rim_sum : FnScope ["handles", "found", "ties"] ["handles"] (defScope s_one_rim_sum) := ⟨rfl, rfl, rfl, by decide +kernel, rfl, by decide +kernel, by decide +kernel⟩
theorem bn_one_rim_sum (T : Txt K mg fa ca fd) : Binds K (fd 23) ["handles"] [] := T.f_one_rim_sum.binds fun _ _ _ _ _ _ us hl => match us, hl with | [_], _ => rfl
theorem ok_one_rim_sum (T : Txt K mg fa ca fd) : FnOk P w K mg base (L2.CX P w) 6 (fa 23) (fd 23) ["handles"] (spH (GG K fa ca) 1 F_one_rim_sum) :=
  have nd := sc_one_rim_sum.nd
  fnX (G := GG K fa ca) 1 3 (mb := b_one_rim_sum) (by rfl) T.f_one_rim_sum sc_one_rim_sum (by rfl) (by rfl) (by rfl) fun cdv A outer s H E hr B po =>
    (sss_cons (ss_if (st_not (st_val (se_callF B (ok_is_within T) (hr.mono (by decide)) (by rfl) T.d_is_within T.f_is_within.kp (bn_is_within T) (sa_cons (se_var 0) (sa_cons se_int (sa_cons (se_gint (by rfl) T.c_MOST_GLUED.choose_spec) sa_nil)))))) (sss_one ss_never) sss_nil)
    (sss_cons (ss_asg (sg_set (i := 1) nd rfl (.inl rfl)) (se_gk (by rfl) T.c_ZERO_euler))
    (sss_cons (ss_for po rfl (si_rng2 (by rfl) T.z_range (sa_cons (se_op op_times times_ok se_int (se_var 0)) (sa_cons (se_op op_sub sub_ok (se_op op_times times_ok se_int (se_var 0)) se_int) sa_nil))) (sg_set (i := 2) nd rfl (.inl rfl)) (sss_one (ss_asg (sg_set (i := 1) nd rfl (.inl rfl)) (se_callF B (ok_sum_in T) (hr.mono (by decide)) (by rfl) T.d_sum_in T.f_sum_in.kp (bn_sum_in T) (sa_cons (se_var 1) (sa_cons (se_callF B (ok_signed T) (hr.mono (by decide)) (by rfl) T.d_signed T.f_signed.kp (bn_signed T) (sa_cons (se_callF B (ok_fraction_in T) (hr.mono (by decide)) (by rfl) T.d_fraction_in T.f_fraction_in.kp (bn_fraction_in T) (sa_cons (se_callF B (ok_full_gluings T) (hr.mono (by decide)) (by rfl) T.d_full_gluings T.f_full_gluings.kp (bn_full_gluings T) (sa_cons (se_var 0) (sa_cons (se_var 2) sa_nil))) (sa_cons (se_op op_times times_ok se_int (se_var 2)) sa_nil))) (sa_cons (se_op op_sub sub_ok (se_var 2) se_int) sa_nil))) sa_nil))))))
    (sss_one (ss_ret (se_var 1))))))
def b_law_dice : MS := (mSeq (mAsg (gSet 2) (eIf (bOf (eOp pyLt (eVar 1) (eB pyLen (eConsA (eVar 0) eNilA)))) (eB pyInt (eConsA (eOp pyIx (eVar 0) (eVar 1)) eNilA)) (eOp pyAdd (eOp pyMul (eC (.int 89)) (eVar 1)) (eC (.int 53)))))
    (mSeq (mAsg (gSet 3) (eOp pyMod (eB pyMax (eConsA (eC (.int 0)) (eConsA (eOp pySub (eB pyAbs (eConsA (eVar 2) eNilA)) (eOp pyPow (eC (.int 10)) (eC (.int 16)))) eNilA))) (eOp pyMul (eOp pyPow (eC (.int 10)) (eC (.int 56))) (eOp pyPow (eC (.int 10)) (eC (.int 60))))))
    (mRet (eNew (eConsA (eVar 3) (eConsA (eOp pyAdd (eOp pyAdd (eOp pyAdd (eOp pyMul (eOp pyMod (eB pyAbs (eConsA (eVar 2) eNilA)) (eC (.int 1152921504606846869))) (eC (.int 61))) (eOp pyMul (eC (.int 1009)) (eVar 1))) (eOp pyMul (eC (.int 43)) (eB pyInt (eConsA (eOp pyLt (eVar 2) (eC (.int 0))) eNilA)))) (eC (.int 17))) (eConsA (eC (.int 0)) eNilA)))))))
def F_law_dice : List CV → M CV := runB 2 4 b_law_dice
theorem sc_law_dice : FnScope ["script", "spot", "cell", "left"] ["script", "spot"] (defScope s_law_dice) := ⟨rfl, rfl, rfl, by decide +kernel, rfl, by decide +kernel, by decide +kernel⟩
theorem bn_law_dice (T : Txt K mg fa ca fd) : Binds K (fd 24) ["script", "spot"] [] := T.f_law_dice.binds fun _ _ _ _ _ _ us hl => match us, hl with | [_, _], _ => rfl
theorem ok_law_dice (T : Txt K mg fa ca fd) : FnOk P w K mg base (L2.CX P w) 1 (fa 24) (fd 24) ["script", "spot"] (spH (GG K fa ca) 2 F_law_dice) :=
  have nd := sc_law_dice.nd
  fnX (G := GG K fa ca) 2 4 (mb := b_law_dice) (by rfl) T.f_law_dice sc_law_dice (by rfl) (by rfl) (by rfl) fun cdv A outer s H E hr B po =>
    (sss_cons (ss_asg (sg_set (i := 2) nd rfl (.inl rfl)) (se_if (st_cmp op_lt cmp_ok (se_var 1) (se_callB call_len len_ok (by rfl) T.z_len (by decide +kernel) (sa_cons (se_var 0) sa_nil))) (se_callTy call_int1 int_ok (by rfl) T.z_int (by decide +kernel) (sa_cons (se_ix (by rfl) (se_var 0) (se_var 1)) sa_nil)) (se_op op_plus plus_ok (se_op op_times times_ok se_int (se_var 1)) se_int)))
    (sss_cons (ss_asg (sg_set (i := 3) nd rfl (.inl rfl)) (se_op op_modN mod_ok (se_callB (call_max2 rfl) max_ok (by rfl) T.z_max (by decide +kernel) (sa_cons se_int (sa_cons (se_op op_sub sub_ok (se_callB call_abs abs_ok (by rfl) T.z_abs (by decide +kernel) (sa_cons (se_var 2) sa_nil)) (se_op op_pow pow_ok se_int se_int)) sa_nil))) (se_op op_times times_ok (se_op op_pow pow_ok se_int se_int) (se_op op_pow pow_ok se_int se_int))))
    (sss_one (ss_ret (se_new (sa_cons (se_var 3) (sa_cons (se_op op_plus plus_ok (se_op op_plus plus_ok (se_op op_plus plus_ok (se_op op_times times_ok (se_op op_modN mod_ok (se_callB call_abs abs_ok (by rfl) T.z_abs (by decide +kernel) (sa_cons (se_var 2) sa_nil)) se_int) se_int) (se_op op_times times_ok se_int (se_var 1))) (se_op op_times times_ok se_int (se_callTy call_int1 int_ok (by rfl) T.z_int (by decide +kernel) (sa_cons (se_cmp op_lt cmp_ok (se_var 2) se_int) sa_nil)))) se_int) (sa_cons se_int sa_nil))))))))
def b_law_roll : MS := (mSeq (mIf (bOf (eOp pyGt (eOp pyIx (eVar 0) (eC (.int 0))) (eC (.int 0)))) (mSeq (mAsg (gSet 2) (eOp pyMod (eB pyInt (eConsA (eOp pyIx (eVar 0) (eC (.int 0))) eNilA)) (eVar 1)))
    (mSeq (mAsg (gSub (eVar 0) (eC (.int 0))) (eOp pyFdiv (eOp pyIx (eVar 0) (eC (.int 0))) (eVar 1)))
    (mRet (eVar 2)))) mNil)
    (mSeq (mAsg (gSub (eVar 0) (eC (.int 2))) (eOp pyAdd (eOp pyIx (eVar 0) (eC (.int 2))) (eC (.int 1))))
    (mSeq (mAsg (gSet 3) (eOp pyMod (eB pyInt (eConsA (eOp pyAdd (eOp pyIx (eVar 0) (eC (.int 1))) (eOp pyMul (eC (.int 99990067)) (eOp pyIx (eVar 0) (eC (.int 2))))) eNilA)) (eC (.int 2305843009213693381))))
    (mSeq (mAsg (gSet 4) (eOp pyAdd (eOp pyMul (eOp pyMod (eB pyInt (eConsA (eOp pyAdd (eOp pyMul (eVar 3) (eVar 3)) (eOp pyMul (eC (.int 89)) (eOp pyIx (eVar 0) (eC (.int 2))))) eNilA)) (eC (.int 2305843009213693343))) (eC (.int 8675309))) (eVar 3)))
    (mRet (eOp pyMod (eB pyInt (eConsA (eOp pyFdiv (eVar 4) (eC (.int 65551))) eNilA)) (eVar 1)))))))
def F_law_roll : List CV → M CV := runB 2 5 b_law_roll
theorem sc_law_roll : FnScope ["dice", "total", "found", "one", "two"] ["dice", "total"] (defScope s_law_roll) := ⟨rfl, rfl, rfl, by decide +kernel, rfl, by decide +kernel, by decide +kernel⟩
theorem bn_law_roll (T : Txt K mg fa ca fd) : Binds K (fd 25) ["dice", "total"] [] := T.f_law_roll.binds fun _ _ _ _ _ _ us hl => match us, hl with | [_, _], _ => rfl
theorem ok_law_roll (T : Txt K mg fa ca fd) : FnOk P w K mg base (L2.CX P w) 1 (fa 25) (fd 25) ["dice", "total"] (spH (GG K fa ca) 2 F_law_roll) :=
  have nd := sc_law_roll.nd
  fnX (G := GG K fa ca) 2 5 (mb := b_law_roll) (by rfl) T.f_law_roll sc_law_roll (by rfl) (by rfl) (by rfl) fun cdv A outer s H E hr B po =>
    (sss_cons (ss_if (st_cmp op_gt cmp_ok (se_ix (by rfl) (se_var 0) se_int) se_int) (sss_cons (ss_asg (sg_set (i := 2) nd rfl (.inl rfl)) (se_op op_modN mod_ok (se_callTy call_int1 int_ok (by rfl) T.z_int (by decide +kernel) (sa_cons (se_ix (by rfl) (se_var 0) se_int) sa_nil)) (se_var 1)))
    (sss_cons (ss_asg (sg_sub (W := fun c d _ H => E c d H) (se_var 0) se_int) (se_op op_fdivG fdiv_ok (se_ix (by rfl) (se_var 0) se_int) (se_var 1)))
    (sss_one (ss_ret (se_var 2))))) sss_nil)
    (sss_cons (ss_asg (sg_sub (W := fun c d _ H => E c d H) (se_var 0) se_int) (se_op op_plus plus_ok (se_ix (by rfl) (se_var 0) se_int) se_int))
    (sss_cons (ss_asg (sg_set (i := 3) nd rfl (.inl rfl)) (se_op op_modN mod_ok (se_callTy call_int1 int_ok (by rfl) T.z_int (by decide +kernel) (sa_cons (se_op op_plus plus_ok (se_ix (by rfl) (se_var 0) se_int) (se_op op_times times_ok se_int (se_ix (by rfl) (se_var 0) se_int))) sa_nil)) se_int))
    (sss_cons (ss_asg (sg_set (i := 4) nd rfl (.inl rfl)) (se_op op_plus plus_ok (se_op op_times times_ok (se_op op_modN mod_ok (se_callTy call_int1 int_ok (by rfl) T.z_int (by decide +kernel) (sa_cons (se_op op_plus plus_ok (se_op op_times times_ok (se_var 3) (se_var 3)) (se_op op_times times_ok se_int (se_ix (by rfl) (se_var 0) se_int))) sa_nil)) se_int) se_int) (se_var 3)))
    (sss_one (ss_ret (se_op op_modN mod_ok (se_callTy call_int1 int_ok (by rfl) T.z_int (by decide +kernel) (sa_cons (se_op op_fdivG fdiv_ok (se_var 4) se_int) sa_nil)) (se_var 1))))))))
def l_law_gcd_0 : MS := (mPar 0 1 (eConsA (eVar 1) (eConsA (eOp pyMod (eB pyInt (eConsA (eVar 0) eNilA)) (eVar 1)) eNilA)))
def b_law_gcd : MS := (mSeq (mPar 0 1 (eConsA (eB pyAbs (eConsA (eVar 0) eNilA)) (eConsA (eB pyAbs (eConsA (eVar 1) eNilA)) eNilA)))
    (mSeq (mWhile (bOf (eOp pyGt (eVar 1) (eC (.int 0)))) l_law_gcd_0 100000)
    (mRet (eVar 0))))
def F_law_gcd : List CV → M CV := runB 2 2 b_law_gcd
theorem sc_law_gcd : FnScope ["one", "other"] ["one", "other"] (defScope s_law_gcd) := ⟨rfl, rfl, rfl, by decide +kernel, rfl, by decide +kernel, by decide +kernel⟩
theorem bn_law_gcd (T : Txt K mg fa ca fd) : Binds K (fd 26) ["one", "other"] [] := T.f_law_gcd.binds fun _ _ _ _ _ _ us hl => match us, hl with | [_, _], _ => rfl
theorem ok_law_gcd (T : Txt K mg fa ca fd) : FnOk P w K mg base (L2.CX P w) 1 (fa 26) (fd 26) ["one", "other"] (spH (GG K fa ca) 2 F_law_gcd) :=
  have nd := sc_law_gcd.nd
  fnX (G := GG K fa ca) 2 2 (mb := b_law_gcd) (by rfl) T.f_law_gcd sc_law_gcd (by rfl) (by rfl) (by rfl) fun cdv A outer s H E hr B po =>
    (sss_cons (ss_par (i := 0) (j := 1) rfl nd rfl rfl (by decide) rfl rfl (sa_cons (se_callB call_abs abs_ok (by rfl) T.z_abs (by decide +kernel) (sa_cons (se_var 0) sa_nil)) (sa_cons (se_callB call_abs abs_ok (by rfl) T.z_abs (by decide +kernel) (sa_cons (se_var 1) sa_nil)) sa_nil)) (by rfl))
    (sss_cons (ss_while 100000 po (st_cmp op_gt cmp_ok (se_var 1) se_int) (sss_one (ss_par (i := 0) (j := 1) rfl nd rfl rfl (by decide) rfl rfl (sa_cons (se_var 1) (sa_cons (se_op op_modN mod_ok (se_callTy call_int1 int_ok (by rfl) T.z_int (by decide +kernel) (sa_cons (se_var 0) sa_nil)) (se_var 1)) sa_nil)) (by rfl))))
    (sss_one (ss_ret (se_var 0)))))
def b_law_fraction : MS := (mSeq (mAsg (gSet 2) (eB (callF 2 F_law_gcd) (eConsA (eVar 0) (eConsA (eVar 1) eNilA))))
    (mSeq (mIf (bOf (eOp pyLt (eVar 1) (eC (.int 0)))) (mAsg (gSet 2) (eUn pyNeg (eVar 2))) mNil)
    (mRet (eTup (eConsA (eOp pyFdiv (eVar 0) (eVar 2)) (eConsA (eOp pyFdiv (eVar 1) (eVar 2)) eNilA))))))
def F_law_fraction : List CV → M CV := runB 2 3 b_law_fraction
theorem sc_law_fraction : FnScope ["top", "bottom", "shared"] ["top", "bottom"] (defScope s_law_fraction) := ⟨rfl, rfl, rfl, by decide +kernel, rfl, by decide +kernel, by decide +kernel⟩
theorem bn_law_fraction (T : Txt K mg fa ca fd) : Binds K (fd 27) ["top", "bottom"] [] := T.f_law_fraction.binds fun _ _ _ _ _ _ us hl => match us, hl with | [_, _], _ => rfl
theorem ok_law_fraction (T : Txt K mg fa ca fd) : FnOk P w K mg base (L2.CX P w) 2 (fa 27) (fd 27) ["top", "bottom"] (spH (GG K fa ca) 2 F_law_fraction) :=
  have nd := sc_law_fraction.nd
  fnX (G := GG K fa ca) 2 3 (mb := b_law_fraction) (by rfl) T.f_law_fraction sc_law_fraction (by rfl) (by rfl) (by rfl) fun cdv A outer s H E hr B po =>
    (sss_cons (ss_asg (sg_set (i := 2) nd rfl (.inl rfl)) (se_callF B (ok_law_gcd T) (hr.mono (by decide)) (by rfl) T.d_law_gcd T.f_law_gcd.kp (bn_law_gcd T) (sa_cons (se_var 0) (sa_cons (se_var 1) sa_nil))))
    (sss_cons (ss_if (st_cmp op_lt cmp_ok (se_var 1) se_int) (sss_one (ss_asg (sg_set (i := 2) nd rfl (.inl rfl)) (se_un un_neg neg_ok (se_var 2)))) sss_nil)
    (sss_one (ss_ret (se_tup (sa_cons (se_op op_fdivG fdiv_ok (se_var 0) (se_var 2)) (sa_cons (se_op op_fdivG fdiv_ok (se_var 1) (se_var 2)) sa_nil)))))))
def b_law_plus : MS := (mRet (eB (callF 2 F_law_fraction) (eConsA (eOp pyAdd (eOp pyMul (eOp pyIx (eVar 0) (eC (.int 0))) (eOp pyIx (eVar 1) (eC (.int 1)))) (eOp pyMul (eOp pyIx (eVar 1) (eC (.int 0))) (eOp pyIx (eVar 0) (eC (.int 1))))) (eConsA (eOp pyMul (eOp pyIx (eVar 0) (eC (.int 1))) (eOp pyIx (eVar 1) (eC (.int 1)))) eNilA))))
def F_law_plus : List CV → M CV := runB 2 2 b_law_plus
theorem sc_law_plus : FnScope ["one", "other"] ["one", "other"] (defScope s_law_plus) := ⟨rfl, rfl, rfl, by decide +kernel, rfl, by decide +kernel, by decide +kernel⟩
theorem bn_law_plus (T : Txt K mg fa ca fd) : Binds K (fd 28) ["one", "other"] [] := T.f_law_plus.binds fun _ _ _ _ _ _ us hl => match us, hl with | [_, _], _ => rfl
theorem ok_law_plus (T : Txt K mg fa ca fd) : FnOk P w K mg base (L2.CX P w) 3 (fa 28) (fd 28) ["one", "other"] (spH (GG K fa ca) 2 F_law_plus) :=
  have nd := sc_law_plus.nd
  fnX (G := GG K fa ca) 2 2 (mb := b_law_plus) (by rfl) T.f_law_plus sc_law_plus (by rfl) (by rfl) (by rfl) fun cdv A outer s H E hr B po =>
    (sss_one (ss_ret (se_callF B (ok_law_fraction T) (hr.mono (by decide)) (by rfl) T.d_law_fraction T.f_law_fraction.kp (bn_law_fraction T) (sa_cons (se_op op_plus plus_ok (se_op op_times times_ok (se_ix (by rfl) (se_var 0) se_int) (se_ix (by rfl) (se_var 1) se_int)) (se_op op_times times_ok (se_ix (by rfl) (se_var 1) se_int) (se_ix (by rfl) (se_var 0) se_int))) (sa_cons (se_op op_times times_ok (se_ix (by rfl) (se_var 0) se_int) (se_ix (by rfl) (se_var 1) se_int)) sa_nil)))))
def b_law_times : MS := (mRet (eB (callF 2 F_law_fraction) (eConsA (eOp pyMul (eOp pyIx (eVar 0) (eC (.int 0))) (eOp pyIx (eVar 1) (eC (.int 0)))) (eConsA (eOp pyMul (eOp pyIx (eVar 0) (eC (.int 1))) (eOp pyIx (eVar 1) (eC (.int 1)))) eNilA))))
def F_law_times : List CV → M CV := runB 2 2 b_law_times
theorem sc_law_times : FnScope ["one", "other"] ["one", "other"] (defScope s_law_times) := ⟨rfl, rfl, rfl, by decide +kernel, rfl, by decide +kernel, by decide +kernel⟩
theorem bn_law_times (T : Txt K mg fa ca fd) : Binds K (fd 29) ["one", "other"] [] := T.f_law_times.binds fun _ _ _ _ _ _ us hl => match us, hl with | [_, _], _ => rfl
theorem ok_law_times (T : Txt K mg fa ca fd) : FnOk P w K mg base (L2.CX P w) 3 (fa 29) (fd 29) ["one", "other"] (spH (GG K fa ca) 2 F_law_times) :=
  have nd := sc_law_times.nd
  fnX (G := GG K fa ca) 2 2 (mb := b_law_times) (by rfl) T.f_law_times sc_law_times (by rfl) (by rfl) (by rfl) fun cdv A outer s H E hr B po =>
    (sss_one (ss_ret (se_callF B (ok_law_fraction T) (hr.mono (by decide)) (by rfl) T.d_law_fraction T.f_law_fraction.kp (bn_law_fraction T) (sa_cons (se_op op_times times_ok (se_ix (by rfl) (se_var 0) se_int) (se_ix (by rfl) (se_var 1) se_int)) (sa_cons (se_op op_times times_ok (se_ix (by rfl) (se_var 0) se_int) (se_ix (by rfl) (se_var 1) se_int)) sa_nil)))))
def b_law_over : MS := (mRet (eB (callF 2 F_law_fraction) (eConsA (eOp pyMul (eOp pyIx (eVar 0) (eC (.int 0))) (eOp pyIx (eVar 1) (eC (.int 1)))) (eConsA (eOp pyMul (eOp pyIx (eVar 0) (eC (.int 1))) (eOp pyIx (eVar 1) (eC (.int 0)))) eNilA))))
def F_law_over : List CV → M CV := runB 2 2 b_law_over
theorem sc_law_over : FnScope ["one", "other"] ["one", "other"] (defScope s_law_over) := ⟨rfl, rfl, rfl, by decide +kernel, rfl, by decide +kernel, by decide +kernel⟩
theorem bn_law_over (T : Txt K mg fa ca fd) : Binds K (fd 30) ["one", "other"] [] := T.f_law_over.binds fun _ _ _ _ _ _ us hl => match us, hl with | [_, _], _ => rfl
theorem ok_law_over (T : Txt K mg fa ca fd) : FnOk P w K mg base (L2.CX P w) 3 (fa 30) (fd 30) ["one", "other"] (spH (GG K fa ca) 2 F_law_over) :=
  have nd := sc_law_over.nd
  fnX (G := GG K fa ca) 2 2 (mb := b_law_over) (by rfl) T.f_law_over sc_law_over (by rfl) (by rfl) (by rfl) fun cdv A outer s H E hr B po =>
    (sss_one (ss_ret (se_callF B (ok_law_fraction T) (hr.mono (by decide)) (by rfl) T.d_law_fraction T.f_law_fraction.kp (bn_law_fraction T) (sa_cons (se_op op_times times_ok (se_ix (by rfl) (se_var 0) se_int) (se_ix (by rfl) (se_var 1) se_int)) (sa_cons (se_op op_times times_ok (se_ix (by rfl) (se_var 0) se_int) (se_ix (by rfl) (se_var 1) se_int)) sa_nil)))))
def l_law_sum_0 : MS := (mAsg (gSet 1) (eB (callF 2 F_law_plus) (eConsA (eVar 1) (eConsA (eVar 2) eNilA))))
def b_law_sum : MS := (mSeq (mAsg (gSet 1) (eTup (eConsA (eC (.int 0)) (eConsA (eC (.int 1)) eNilA))))
    (mSeq (mFor (iSeq (eVar 0)) (gSet 2) l_law_sum_0)
    (mRet (eVar 1))))
def F_law_sum : List CV → M CV := runB 1 3 b_law_sum
theorem sc_law_sum : FnScope ["fractions", "found", "one"] ["fractions"] (defScope s_law_sum) := ⟨rfl, rfl, rfl, by decide +kernel, rfl, by decide +kernel, by decide +kernel⟩
theorem bn_law_sum (T : Txt K mg fa ca fd) : Binds K (fd 31) ["fractions"] [] := T.f_law_sum.binds fun _ _ _ _ _ _ us hl => match us, hl with | [_], _ => rfl
theorem ok_law_sum (T : Txt K mg fa ca fd) : FnOk P w K mg base (L2.CX P w) 4 (fa 31) (fd 31) ["fractions"] (spH (GG K fa ca) 1 F_law_sum) :=
  have nd := sc_law_sum.nd
  fnX (G := GG K fa ca) 1 3 (mb := b_law_sum) (by rfl) T.f_law_sum sc_law_sum (by rfl) (by rfl) (by rfl) fun cdv A outer s H E hr B po =>
    (sss_cons (ss_asg (sg_set (i := 1) nd rfl (.inl rfl)) (se_tup (sa_cons se_int (sa_cons se_int sa_nil))))
    (sss_cons (ss_for po rfl (si_seq (by rfl) (se_var 0)) (sg_set (i := 2) nd rfl (.inl rfl)) (sss_one (ss_asg (sg_set (i := 1) nd rfl (.inl rfl)) (se_callF B (ok_law_plus T) (hr.mono (by decide)) (by rfl) T.d_law_plus T.f_law_plus.kp (bn_law_plus T) (sa_cons (se_var 1) (sa_cons (se_var 2) sa_nil))))))
    (sss_one (ss_ret (se_var 1)))))
def l_law_factorial_0 : MS := (mAsg (gSet 1) (eOp pyMul (eVar 1) (eVar 2)))
def b_law_factorial : MS := (mSeq (mAsg (gSet 1) (eC (.int 1)))
    (mSeq (mFor (iArgs rng2 (eConsA (eC (.int 2)) (eConsA (eOp pyAdd (eVar 0) (eC (.int 1))) eNilA))) (gSet 2) l_law_factorial_0)
    (mRet (eVar 1))))
def F_law_factorial : List CV → M CV := runB 1 3 b_law_factorial
theorem sc_law_factorial : FnScope ["number", "found", "step"] ["number"] (defScope s_law_factorial) := ⟨rfl, rfl, rfl, by decide +kernel, rfl, by decide +kernel, by decide +kernel⟩
theorem bn_law_factorial (T : Txt K mg fa ca fd) : Binds K (fd 32) ["number"] [] := T.f_law_factorial.binds fun _ _ _ _ _ _ us hl => match us, hl with | [_], _ => rfl
theorem ok_law_factorial (T : Txt K mg fa ca fd) : FnOk P w K mg base (L2.CX P w) 1 (fa 32) (fd 32) ["number"] (spH (GG K fa ca) 1 F_law_factorial) :=
  have nd := sc_law_factorial.nd
  fnX (G := GG K fa ca) 1 3 (mb := b_law_factorial) (by rfl) T.f_law_factorial sc_law_factorial (by rfl) (by rfl) (by rfl) fun cdv A outer s H E hr B po =>
    (sss_cons (ss_asg (sg_set (i := 1) nd rfl (.inl rfl)) se_int)
    (sss_cons (ss_for po rfl (si_rng2 (by rfl) T.z_range (sa_cons se_int (sa_cons (se_op op_plus plus_ok (se_var 0) se_int) sa_nil))) (sg_set (i := 2) nd rfl (.inl rfl)) (sss_one (ss_asg (sg_set (i := 1) nd rfl (.inl rfl)) (se_op op_times times_ok (se_var 1) (se_var 2)))))
    (sss_one (ss_ret (se_var 1)))))
def l_law_binomial_0 : MS := (mAsg (gSet 2) (eOp pyFdiv (eOp pyMul (eVar 2) (eOp pySub (eVar 0) (eVar 3))) (eOp pyAdd (eVar 3) (eC (.int 1)))))
def b_law_binomial : MS := (mSeq (mAsg (gSet 2) (eC (.int 1)))
    (mSeq (mFor (iArgs rng1 (eConsA (eVar 1) eNilA)) (gSet 3) l_law_binomial_0)
    (mRet (eVar 2))))
def F_law_binomial : List CV → M CV := runB 2 4 b_law_binomial
theorem sc_law_binomial : FnScope ["top", "low", "found", "step"] ["top", "low"] (defScope s_law_binomial) := ⟨rfl, rfl, rfl, by decide +kernel, rfl, by decide +kernel, by decide +kernel⟩
theorem bn_law_binomial (T : Txt K mg fa ca fd) : Binds K (fd 33) ["top", "low"] [] := T.f_law_binomial.binds fun _ _ _ _ _ _ us hl => match us, hl with | [_, _], _ => rfl
theorem ok_law_binomial (T : Txt K mg fa ca fd) : FnOk P w K mg base (L2.CX P w) 1 (fa 33) (fd 33) ["top", "low"] (spH (GG K fa ca) 2 F_law_binomial) :=
  have nd := sc_law_binomial.nd
  fnX (G := GG K fa ca) 2 4 (mb := b_law_binomial) (by rfl) T.f_law_binomial sc_law_binomial (by rfl) (by rfl) (by rfl) fun cdv A outer s H E hr B po =>
    (sss_cons (ss_asg (sg_set (i := 2) nd rfl (.inl rfl)) se_int)
    (sss_cons (ss_for po rfl (si_rng1 (by rfl) T.z_range (sa_cons (se_var 1) sa_nil)) (sg_set (i := 3) nd rfl (.inl rfl)) (sss_one (ss_asg (sg_set (i := 2) nd rfl (.inl rfl)) (se_op op_fdivG fdiv_ok (se_op op_times times_ok (se_var 2) (se_op op_sub sub_ok (se_var 0) (se_var 3))) (se_op op_plus plus_ok (se_var 3) se_int)))))
    (sss_one (ss_ret (se_var 2)))))
def l_law_bernoulli_0 : Sl → M CV := (eB (callF 2 F_law_times) (eConsA (eTup (eConsA (eB (callF 2 F_law_binomial) (eConsA (eOp pyAdd (eVar 2) (eC (.int 1))) (eConsA (eVar 4) eNilA))) (eConsA (eC (.int 1)) eNilA))) (eConsA (eVar 5) eNilA)))
def l_law_bernoulli_1 : MS := (mSeq (mAsg (gSet 3) (eB (callF 1 F_law_sum) (eConsA (eLcA (iEnumA (eConsA (eVar 1) eNilA)) (gUnp 2 (gConsT (gSet 4) (gConsT (gSet 5) gNilT))) bYes l_law_bernoulli_0 [4, 5]) eNilA)))
    (mExpr (eMt isLis pyAppend (eVar 1) (eConsA (eB (callF 2 F_law_over) (eConsA (eVar 3) (eConsA (eTup (eConsA (eOp pySub (eOp pySub (eC (.int 0)) (eVar 2)) (eC (.int 1))) (eConsA (eC (.int 1)) eNilA))) eNilA))) eNilA))))
def b_law_bernoulli : MS := (mSeq (mAsg (gSet 1) (eNew (eConsA (eTup (eConsA (eC (.int 1)) (eConsA (eC (.int 1)) eNilA))) eNilA)))
    (mSeq (mFor (iArgs rng2 (eConsA (eC (.int 1)) (eConsA (eOp pyAdd (eVar 0) (eC (.int 1))) eNilA))) (gSet 2) l_law_bernoulli_1)
    (mRet (eVar 1))))
def F_law_bernoulli : List CV → M CV := runB 1 6 b_law_bernoulli
theorem sc_law_bernoulli : FnScope ["most", "found", "last", "whole", "at", "one"] ["most"] (defScope s_law_bernoulli) := ⟨rfl, rfl, rfl, by decide +kernel, rfl, by decide +kernel, by decide +kernel⟩
theorem bn_law_bernoulli (T : Txt K mg fa ca fd) : Binds K (fd 34) ["most"] [] := T.f_law_bernoulli.binds fun _ _ _ _ _ _ us hl => match us, hl with | [_], _ => rfl
theorem ok_law_bernoulli (T : Txt K mg fa ca fd) : FnOk P w K mg base (L2.CX P w) 5 (fa 34) (fd 34) ["most"] (spH (GG K fa ca) 1 F_law_bernoulli) :=
  have nd := sc_law_bernoulli.nd
  fnX (G := GG K fa ca) 1 6 (mb := b_law_bernoulli) (by rfl) T.f_law_bernoulli sc_law_bernoulli (by rfl) (by rfl) (by rfl) fun cdv A outer s H E hr B po =>
    (sss_cons (ss_asg (sg_set (i := 1) nd rfl (.inl rfl)) (se_new (sa_cons (se_tup (sa_cons se_int (sa_cons se_int sa_nil))) sa_nil)))
    (sss_cons (ss_for po rfl (si_rng2 (by rfl) T.z_range (sa_cons se_int (sa_cons (se_op op_plus plus_ok (se_var 0) se_int) sa_nil))) (sg_set (i := 2) nd rfl (.inr rfl)) (sss_cons (ss_asg (sg_set (i := 3) nd rfl (.inl rfl)) (se_callF B (ok_law_sum T) (hr.mono (by decide)) (by rfl) T.d_law_sum T.f_law_sum.kp (bn_law_sum T) (sa_cons (se_lcA (own := [("at", 4), ("one", 5)]) (g := (gTup K 2 (gCons (gName 4) (gCons (gName 5) gNil)))) rfl nd (si_enumA (by rfl) (by rfl) T.z_enumerate (sa_cons (se_var 1) sa_nil)) (blkOk_by (N := ["most", "found", "last", "whole", "at", "one"]) (sc := defScope s_law_bernoulli) (by decide +kernel)) (lcg_unp (lcg_cons (lcg_set (by decide)) (lcg_cons (lcg_set (by decide)) lcg_nil))) (fun _ _ _ _ _ => (pg_tup rfl (pgs_cons (pg_name (i := 4) nd rfl (.inl rfl)) (pgs_cons (pg_name (i := 5) nd rfl (.inl rfl)) pgs_nil)))) (fun _ _ _ _ _ => sts_nil) (fun _ _ _ _ _ => (se_callF ⟨by rfl, L2.takes0⟩ (ok_law_times T) (hr.mono (by decide)) (by rfl) T.d_law_times T.f_law_times.kp (bn_law_times T) (sa_cons (se_tup (sa_cons (se_callF ⟨by rfl, L2.takes0⟩ (ok_law_binomial T) (hr.mono (by decide)) (by rfl) T.d_law_binomial T.f_law_binomial.kp (bn_law_binomial T) (sa_cons (se_op op_plus plus_ok (se_var 2) se_int) (sa_cons (se_var 4) sa_nil))) (sa_cons se_int sa_nil))) (sa_cons (se_var 5) sa_nil))))) sa_nil)))
    (sss_one (ss_expr (se_mt isLis_ty PySem.F.plainAttrs_list PySem.F.slot_list_append PySem.F.type_list_append mt_append append_ok (se_var 1) (sa_cons (se_callF B (ok_law_over T) (hr.mono (by decide)) (by rfl) T.d_law_over T.f_law_over.kp (bn_law_over T) (sa_cons (se_var 3) (sa_cons (se_tup (sa_cons (se_op op_sub sub_ok (se_op op_sub sub_ok se_int (se_var 2)) se_int) (sa_cons se_int sa_nil))) sa_nil))) sa_nil))))))
    (sss_one (ss_ret (se_var 1)))))
def b_law_due : MS := (mSeq (mAsg (gSet 2) (eOp pySub (eC (.int 1)) (eOp pyMul (eC (.int 2)) (eOp pyMod (eB pyInt (eConsA (eVar 1) eNilA)) (eC (.int 2))))))
    (mSeq (mIf (bOf (eOp (pyEq false) (eVar 0) (eC (.int 0)))) (mRet (eTup (eConsA (eOp pySub (eC (.int 0)) (eOp pyMul (eVar 2) (eB (callF 1 F_law_factorial) (eConsA (eOp pySub (eVar 1) (eC (.int 3))) eNilA)))) (eConsA (eC (.int 1)) eNilA)))) mNil)
    (mSeq (mAsg (gSet 3) (eB (callF 2 F_law_fraction) (eConsA (eB (callF 1 F_law_factorial) (eConsA (eOp pySub (eOp pyAdd (eOp pyMul (eC (.int 2)) (eVar 0)) (eVar 1)) (eC (.int 3))) eNilA)) (eConsA (eB (callF 1 F_law_factorial) (eConsA (eOp pySub (eOp pyMul (eC (.int 2)) (eVar 0)) (eC (.int 2))) eNilA)) eNilA))))
    (mRet (eB (callF 2 F_law_times) (eConsA (eTup (eConsA (eVar 2) (eConsA (eC (.int 1)) eNilA))) (eConsA (eB (callF 2 F_law_times) (eConsA (eVar 3) (eConsA (eB (callF 2 F_law_over) (eConsA (eOp pyIx (eB (callF 1 F_law_bernoulli) (eConsA (eOp pyMul (eC (.int 2)) (eVar 0)) eNilA)) (eOp pyMul (eC (.int 2)) (eVar 0))) (eConsA (eTup (eConsA (eOp pyMul (eC (.int 2)) (eVar 0)) (eConsA (eC (.int 1)) eNilA))) eNilA))) eNilA))) eNilA)))))))
def F_law_due : List CV → M CV := runB 2 4 b_law_due
theorem sc_law_due : FnScope ["handles", "many", "sign", "half"] ["handles", "many"] (defScope s_law_due) := ⟨rfl, rfl, rfl, by decide +kernel, rfl, by decide +kernel, by decide +kernel⟩
theorem bn_law_due (T : Txt K mg fa ca fd) : Binds K (fd 35) ["handles", "many"] [] := T.f_law_due.binds fun _ _ _ _ _ _ us hl => match us, hl with | [_, _], _ => rfl
theorem ok_law_due (T : Txt K mg fa ca fd) : FnOk P w K mg base (L2.CX P w) 6 (fa 35) (fd 35) ["handles", "many"] (spH (GG K fa ca) 2 F_law_due) :=
  have nd := sc_law_due.nd
  fnX (G := GG K fa ca) 2 4 (mb := b_law_due) (by rfl) T.f_law_due sc_law_due (by rfl) (by rfl) (by rfl) fun cdv A outer s H E hr B po =>
    (sss_cons (ss_asg (sg_set (i := 2) nd rfl (.inl rfl)) (se_op op_sub sub_ok se_int (se_op op_times times_ok se_int (se_op op_modN mod_ok (se_callTy call_int1 int_ok (by rfl) T.z_int (by decide +kernel) (sa_cons (se_var 1) sa_nil)) se_int))))
    (sss_cons (ss_if (st_cmp (op_eqD hr.units) eq_ok (se_var 0) se_int) (sss_one (ss_ret (se_tup (sa_cons (se_op op_sub sub_ok se_int (se_op op_times times_ok (se_var 2) (se_callF B (ok_law_factorial T) (hr.mono (by decide)) (by rfl) T.d_law_factorial T.f_law_factorial.kp (bn_law_factorial T) (sa_cons (se_op op_sub sub_ok (se_var 1) se_int) sa_nil)))) (sa_cons se_int sa_nil))))) sss_nil)
    (sss_cons (ss_asg (sg_set (i := 3) nd rfl (.inl rfl)) (se_callF B (ok_law_fraction T) (hr.mono (by decide)) (by rfl) T.d_law_fraction T.f_law_fraction.kp (bn_law_fraction T) (sa_cons (se_callF B (ok_law_factorial T) (hr.mono (by decide)) (by rfl) T.d_law_factorial T.f_law_factorial.kp (bn_law_factorial T) (sa_cons (se_op op_sub sub_ok (se_op op_plus plus_ok (se_op op_times times_ok se_int (se_var 0)) (se_var 1)) se_int) sa_nil)) (sa_cons (se_callF B (ok_law_factorial T) (hr.mono (by decide)) (by rfl) T.d_law_factorial T.f_law_factorial.kp (bn_law_factorial T) (sa_cons (se_op op_sub sub_ok (se_op op_times times_ok se_int (se_var 0)) se_int) sa_nil)) sa_nil))))
    (sss_one (ss_ret (se_callF B (ok_law_times T) (hr.mono (by decide)) (by rfl) T.d_law_times T.f_law_times.kp (bn_law_times T) (sa_cons (se_tup (sa_cons (se_var 2) (sa_cons se_int sa_nil))) (sa_cons (se_callF B (ok_law_times T) (hr.mono (by decide)) (by rfl) T.d_law_times T.f_law_times.kp (bn_law_times T) (sa_cons (se_var 3) (sa_cons (se_callF B (ok_law_over T) (hr.mono (by decide)) (by rfl) T.d_law_over T.f_law_over.kp (bn_law_over T) (sa_cons (se_ix (by rfl) (se_callF B (ok_law_bernoulli T) (hr.mono (by decide)) (by rfl) T.d_law_bernoulli T.f_law_bernoulli.kp (bn_law_bernoulli T) (sa_cons (se_op op_times times_ok se_int (se_var 0)) sa_nil)) (se_op op_times times_ok se_int (se_var 0))) (sa_cons (se_tup (sa_cons (se_op op_times times_ok se_int (se_var 0)) (sa_cons se_int sa_nil))) sa_nil))) sa_nil))) sa_nil))))))))
def b_law_right : MS := (mSeq (mAsg (gSet 1) (eCall 2 F_law_roll (eConsA (eVar 0) (eConsA (eC (.int 21)) eNilA))))
    (mSeq (mAsg (gSet 2) (eIf (bOf (eOp (pyEq false) (eVar 1) (eC (.int 0)))) (eC (.int 3)) (eB pyInt (eConsA (eOp (pyEq false) (eVar 1) (eC (.int 1))) eNilA))))
    (mSeq (mAsg (gSet 3) (eOp pyAdd (eVar 2) (eCall 2 F_law_roll (eConsA (eVar 0) (eConsA (eOp pySub (eC (.int 21)) (eVar 2)) eNilA)))))
    (mSeq (mAsg (gSet 4) (eB (callF 2 F_euler_number) (eConsA (eVar 1) (eConsA (eVar 3) eNilA))))
    (mSeq (mIf (bOf (eOp (pyEq true) (eVar 4) (eB (callF 2 F_law_due) (eConsA (eVar 1) (eConsA (eVar 3) eNilA))))) (mRet (eC (.bl false))) mNil)
    (mSeq (mAsg (gSet 5) (eB (callF 2 F_law_times) (eConsA (eTup (eConsA (eOp pySub (eOp pySub (eC (.int 2)) (eOp pyMul (eC (.int 2)) (eVar 1))) (eVar 3)) (eConsA (eC (.int 1)) eNilA))) (eConsA (eVar 4) eNilA))))
    (mSeq (mIf (bAnd (bOf (eOp pyLt (eVar 3) (eC (.int 20)))) (bOf (eOp (pyEq true) (eB (callF 2 F_euler_number) (eConsA (eVar 1) (eConsA (eOp pyAdd (eVar 3) (eC (.int 1))) eNilA))) (eVar 5)))) (mRet (eC (.bl false))) mNil)
    (mSeq (mAsg (gSet 6) (eIf (bOf (eOp (pyEq false) (eVar 1) (eC (.int 0)))) (eOp (pyEq false) (eOp pyMod (eB pyInt (eConsA (eOp pyAdd (eVar 3) (eVar 1)) eNilA)) (eC (.int 2))) (eC (.int 1))) (eOp (pyEq false) (eOp pyMod (eB pyInt (eConsA (eOp pyAdd (eOp pyAdd (eVar 3) (eVar 1)) (eC (.int 1))) eNilA)) (eC (.int 2))) (eC (.int 0)))))
    (mRet (eAnd (eOp (pyEq false) (eOp pyGt (eOp pyIx (eVar 4) (eC (.int 0))) (eC (.int 0))) (eVar 6)) (eOr (eOp pyGt (eVar 1) (eC (.int 0))) (eOp (pyEq false) (eOp pyIx (eVar 4) (eC (.int 1))) (eC (.int 1))))))))))))))
def F_law_right : List CV → M CV := runB 1 7 b_law_right
theorem sc_law_right : FnScope ["dice", "handles", "least", "many", "told", "due", "is_above"] ["dice"] (defScope s_law_right) := ⟨rfl, rfl, rfl, by decide +kernel, rfl, by decide +kernel, by decide +kernel⟩
theorem bn_law_right (T : Txt K mg fa ca fd) : Binds K (fd 36) ["dice"] [] := T.f_law_right.binds fun _ _ _ _ _ _ us hl => match us, hl with | [_], _ => rfl
theorem ok_law_right (T : Txt K mg fa ca fd) : FnOk P w K mg base (L2.CX P w) 8 (fa 36) (fd 36) ["dice"] (spH (GG K fa ca) 1 F_law_right) :=
  have nd := sc_law_right.nd
  fnX (G := GG K fa ca) 1 7 (mb := b_law_right) (by rfl) T.f_law_right sc_law_right (by rfl) (by rfl) (by rfl) fun cdv A outer s H E hr B po =>
    (sss_cons (ss_asg (sg_set (i := 1) nd rfl (.inl rfl)) (se_call B (ok_law_roll T) (hr.mono (by decide)) (by rfl) T.d_law_roll T.f_law_roll.kp (bn_law_roll T) (sa_cons (se_var 0) (sa_cons se_int sa_nil))))
    (sss_cons (ss_asg (sg_set (i := 2) nd rfl (.inl rfl)) (se_if (st_cmp (op_eqD hr.units) eq_ok (se_var 1) se_int) se_int (se_callTy call_int1 int_ok (by rfl) T.z_int (by decide +kernel) (sa_cons (se_cmp (op_eqD hr.units) eq_ok (se_var 1) se_int) sa_nil))))
    (sss_cons (ss_asg (sg_set (i := 3) nd rfl (.inl rfl)) (se_op op_plus plus_ok (se_var 2) (se_call B (ok_law_roll T) (hr.mono (by decide)) (by rfl) T.d_law_roll T.f_law_roll.kp (bn_law_roll T) (sa_cons (se_var 0) (sa_cons (se_op op_sub sub_ok se_int (se_var 2)) sa_nil)))))
    (sss_cons (ss_asg (sg_set (i := 4) nd rfl (.inl rfl)) (se_callF B (ok_euler_number T) (hr.mono (by decide)) (by rfl) T.d_euler_number T.f_euler_number.kp (bn_euler_number T) (sa_cons (se_var 1) (sa_cons (se_var 3) sa_nil))))
    (sss_cons (ss_if (st_cmp (op_neD hr.units) ne_ok (se_var 4) (se_callF B (ok_law_due T) (hr.mono (by decide)) (by rfl) T.d_law_due T.f_law_due.kp (bn_law_due T) (sa_cons (se_var 1) (sa_cons (se_var 3) sa_nil)))) (sss_one (ss_ret se_bl)) sss_nil)
    (sss_cons (ss_asg (sg_set (i := 5) nd rfl (.inl rfl)) (se_callF B (ok_law_times T) (hr.mono (by decide)) (by rfl) T.d_law_times T.f_law_times.kp (bn_law_times T) (sa_cons (se_tup (sa_cons (se_op op_sub sub_ok (se_op op_sub sub_ok se_int (se_op op_times times_ok se_int (se_var 1))) (se_var 3)) (sa_cons se_int sa_nil))) (sa_cons (se_var 4) sa_nil))))
    (sss_cons (ss_if (st_bool (sw_and (st_cmp op_lt cmp_ok (se_var 3) se_int) (sw_and1 (st_cmp (op_neD hr.units) ne_ok (se_callF B (ok_euler_number T) (hr.mono (by decide)) (by rfl) T.d_euler_number T.f_euler_number.kp (bn_euler_number T) (sa_cons (se_var 1) (sa_cons (se_op op_plus plus_ok (se_var 3) se_int) sa_nil))) (se_var 5))))) (sss_one (ss_ret se_bl)) sss_nil)
    (sss_cons (ss_asg (sg_set (i := 6) nd rfl (.inl rfl)) (se_if (st_cmp (op_eqD hr.units) eq_ok (se_var 1) se_int) (se_cmp (op_eqD hr.units) eq_ok (se_op op_modN mod_ok (se_callTy call_int1 int_ok (by rfl) T.z_int (by decide +kernel) (sa_cons (se_op op_plus plus_ok (se_var 3) (se_var 1)) sa_nil)) se_int) se_int) (se_cmp (op_eqD hr.units) eq_ok (se_op op_modN mod_ok (se_callTy call_int1 int_ok (by rfl) T.z_int (by decide +kernel) (sa_cons (se_op op_plus plus_ok (se_op op_plus plus_ok (se_var 3) (se_var 1)) se_int) sa_nil)) se_int) se_int)))
    (sss_one (ss_ret (se_and (se_cmp (op_eqD hr.units) eq_ok (se_cmp op_gt cmp_ok (se_ix (by rfl) (se_var 4) se_int) se_int) (se_var 6)) (se_and1 (se_or (se_cmp op_gt cmp_ok (se_var 1) se_int) (se_and1 (se_cmp (op_eqD hr.units) eq_ok (se_ix (by rfl) (se_var 4) se_int) se_int)))))))))))))))
def l_law_glued_0 : MS := (mExpr (eMt isLis pyAppend (eVar 1) (eConsA (eB (callF 2 F_law_fraction) (eConsA (eOp pyMul (eOp pySub (eC (.int 1)) (eOp pyMul (eC (.int 2)) (eOp pyMod (eB pyInt (eConsA (eOp pyAdd (eVar 2) (eC (.int 1))) eNilA)) (eC (.int 2))))) (eB (callF 2 F_full_gluings) (eConsA (eVar 0) (eConsA (eVar 2) eNilA)))) (eConsA (eOp pyMul (eC (.int 2)) (eVar 2)) eNilA))) eNilA)))
def b_law_glued : MS := (mSeq (mAsg (gSet 1) (eNew eNilA))
    (mSeq (mFor (iArgs rng2 (eConsA (eOp pyMul (eC (.int 2)) (eVar 0)) (eConsA (eOp pySub (eOp pyMul (eC (.int 6)) (eVar 0)) (eC (.int 2))) eNilA))) (gSet 2) l_law_glued_0)
    (mRet (eB (callF 1 F_law_sum) (eConsA (eVar 1) eNilA)))))
def F_law_glued : List CV → M CV := runB 1 3 b_law_glued
theorem sc_law_glued : FnScope ["handles", "some", "ties"] ["handles"] (defScope s_law_glued) := ⟨rfl, rfl, rfl, by decide +kernel, rfl, by decide +kernel, by decide +kernel⟩
theorem bn_law_glued (T : Txt K mg fa ca fd) : Binds K (fd 37) ["handles"] [] := T.f_law_glued.binds fun _ _ _ _ _ _ us hl => match us, hl with | [_], _ => rfl
theorem ok_law_glued (T : Txt K mg fa ca fd) : FnOk P w K mg base (L2.CX P w) 6 (fa 37) (fd 37) ["handles"] (spH (GG K fa ca) 1 F_law_glued) :=
  have nd := sc_law_glued.nd
  fnX (G := GG K fa ca) 1 3 (mb := b_law_glued) (by rfl) T.f_law_glued sc_law_glued (by rfl) (by rfl) (by rfl) fun cdv A outer s H E hr B po =>
    (sss_cons (ss_asg (sg_set (i := 1) nd rfl (.inl rfl)) (se_new sa_nil))
    (sss_cons (ss_for po rfl (si_rng2 (by rfl) T.z_range (sa_cons (se_op op_times times_ok se_int (se_var 0)) (sa_cons (se_op op_sub sub_ok (se_op op_times times_ok se_int (se_var 0)) se_int) sa_nil))) (sg_set (i := 2) nd rfl (.inl rfl)) (sss_one (ss_expr (se_mt isLis_ty PySem.F.plainAttrs_list PySem.F.slot_list_append PySem.F.type_list_append mt_append append_ok (se_var 1) (sa_cons (se_callF B (ok_law_fraction T) (hr.mono (by decide)) (by rfl) T.d_law_fraction T.f_law_fraction.kp (bn_law_fraction T) (sa_cons (se_op op_times times_ok (se_op op_sub sub_ok se_int (se_op op_times times_ok se_int (se_op op_modN mod_ok (se_callTy call_int1 int_ok (by rfl) T.z_int (by decide +kernel) (sa_cons (se_op op_plus plus_ok (se_var 2) se_int) sa_nil)) se_int))) (se_callF B (ok_full_gluings T) (hr.mono (by decide)) (by rfl) T.d_full_gluings T.f_full_gluings.kp (bn_full_gluings T) (sa_cons (se_var 0) (sa_cons (se_var 2) sa_nil)))) (sa_cons (se_op op_times times_ok se_int (se_var 2)) sa_nil))) sa_nil)))))
    (sss_one (ss_ret (se_callF B (ok_law_sum T) (hr.mono (by decide)) (by rfl) T.d_law_sum T.f_law_sum.kp (bn_law_sum T) (sa_cons (se_var 1) sa_nil))))))
def l_law_0 : MS := (mIf (bNot (bOf (eCall 1 F_law_right (eConsA (eVar 2) eNilA)))) (mRet (eC (.bl false))) mNil)
def l_law_1 : MS := (mSeq (mAsg (gSet 2) (eCall 2 F_law_dice (eConsA (eVar 0) (eConsA (eVar 1) eNilA))))
    (mSeq (mFor (iArgs rng1 (eConsA (eC (.int 6)) eNilA)) (gSet 3) l_law_0)
    (mSeq (mAsg (gSet 4) (eOp pyAdd (eC (.int 1)) (eCall 2 F_law_roll (eConsA (eVar 2) (eConsA (eC (.int 6)) eNilA)))))
    (mIf (bOr (bOf (eOp (pyEq true) (eB (callF 1 F_one_rim_sum) (eConsA (eVar 4) eNilA)) (eB (callF 2 F_euler_number) (eConsA (eVar 4) (eConsA (eC (.int 1)) eNilA))))) (bOf (eOp (pyEq true) (eB (callF 1 F_law_glued) (eConsA (eVar 4) eNilA)) (eB (callF 2 F_euler_number) (eConsA (eVar 4) (eConsA (eC (.int 1)) eNilA)))))) (mRet (eC (.bl false))) mNil))))
def l_law_2 : Sl → M CV := (eB (callF 1 F_one_rim_sum) (eConsA (eVar 4) eNilA))
def b_law : MS := (mSeq (mFor (iArgs rng1 (eConsA (eB pyMax (eConsA (eC (.int 1)) (eConsA (eB pyMin (eConsA (eC (.int 3)) (eConsA (eB pyLen (eConsA (eVar 0) eNilA)) eNilA))) eNilA))) eNilA)) (gSet 1) l_law_1)
    (mSeq (mAsg (gSet 5) (eLst (eConsA (eB (callF 2 F_euler_number) (eConsA (eC (.int 0)) (eConsA (eC (.int 3)) eNilA))) (eConsA (eB (callF 2 F_euler_number) (eConsA (eC (.int 0)) (eConsA (eC (.int 6)) eNilA))) (eConsA (eB (callF 2 F_euler_number) (eConsA (eC (.int 1)) (eConsA (eC (.int 1)) eNilA))) (eConsA (eB (callF 2 F_euler_number) (eConsA (eC (.int 1)) (eConsA (eC (.int 2)) eNilA))) (eConsA (eB (callF 2 F_euler_number) (eConsA (eC (.int 2)) (eConsA (eC (.int 1)) eNilA))) (eConsA (eB (callF 2 F_euler_number) (eConsA (eC (.int 2)) (eConsA (eC (.int 0)) eNilA))) eNilA))))))))
    (mSeq (mIf (bOr (bOf (eOp (pyEq true) (eVar 5) (eLst (eConsA (eTup (eConsA (eC (.int 1)) (eConsA (eC (.int 1)) eNilA))) (eConsA (eTup (eConsA (eUn pyNeg (eC (.int 6))) (eConsA (eC (.int 1)) eNilA))) (eConsA (eTup (eConsA (eUn pyNeg (eC (.int 1))) (eConsA (eC (.int 12)) eNilA))) (eConsA (eTup (eConsA (eC (.int 1)) (eConsA (eC (.int 12)) eNilA))) (eConsA (eTup (eConsA (eC (.int 1)) (eConsA (eC (.int 120)) eNilA))) (eConsA (eTup (eConsA (eUn pyNeg (eC (.int 1))) (eConsA (eC (.int 240)) eNilA))) eNilA))))))))) (bOr (bOf (eOp (pyEq true) (eB (callF 2 F_euler_number) (eConsA (eC (.int 3)) (eConsA (eC (.int 2)) eNilA))) (eTup (eConsA (eC (.int 5)) (eConsA (eC (.int 252)) eNilA))))) (bOf (eOp (pyEq true) (eB (callF 2 F_euler_number) (eConsA (eC (.int 2)) (eConsA (eC (.int 3)) eNilA))) (eTup (eConsA (eC (.int 1)) (eConsA (eC (.int 10)) eNilA))))))) (mRet (eC (.bl false))) mNil)
    (mRet (eOp (pyEq false) (eLc (iArgs rng2 (eConsA (eC (.int 1)) (eConsA (eC (.int 7)) eNilA))) (gSet 4) bYes l_law_2 [4]) (eLst (eConsA (eTup (eConsA (eUn pyNeg (eC (.int 1))) (eConsA (eC (.int 12)) eNilA))) (eConsA (eTup (eConsA (eC (.int 1)) (eConsA (eC (.int 120)) eNilA))) (eConsA (eTup (eConsA (eUn pyNeg (eC (.int 1))) (eConsA (eC (.int 252)) eNilA))) (eConsA (eTup (eConsA (eC (.int 1)) (eConsA (eC (.int 240)) eNilA))) (eConsA (eTup (eConsA (eUn pyNeg (eC (.int 1))) (eConsA (eC (.int 132)) eNilA))) (eConsA (eTup (eConsA (eC (.int 691)) (eConsA (eC (.int 32760)) eNilA))) eNilA))))))))))))
def F_law : List CV → M CV := runB 1 6 b_law
theorem sc_law : FnScope ["script", "spot", "dice", "turn", "handles", "told"] ["script"] (defScope s_law) := ⟨rfl, rfl, rfl, by decide +kernel, rfl, by decide +kernel, by decide +kernel⟩
theorem bn_law (T : Txt K mg fa ca fd) : Binds K (fd 38) ["script"] [] := T.f_law.binds fun _ _ _ _ _ _ us hl => match us, hl with | [_], _ => rfl
theorem ok_law (T : Txt K mg fa ca fd) : FnOk P w K mg base (L2.CX P w) 9 (fa 38) (fd 38) ["script"] (spH (GG K fa ca) 1 F_law) :=
  have nd := sc_law.nd
  fnX (G := GG K fa ca) 1 6 (mb := b_law) (by rfl) T.f_law sc_law (by rfl) (by rfl) (by rfl) fun cdv A outer s H E hr B po =>
    (sss_cons (ss_for po rfl (si_rng1 (by rfl) T.z_range (sa_cons (se_callB (call_max2 rfl) max_ok (by rfl) T.z_max (by decide +kernel) (sa_cons se_int (sa_cons (se_callB (call_min2 rfl) min_ok (by rfl) T.z_min (by decide +kernel) (sa_cons se_int (sa_cons (se_callB call_len len_ok (by rfl) T.z_len (by decide +kernel) (sa_cons (se_var 0) sa_nil)) sa_nil))) sa_nil))) sa_nil)) (sg_set (i := 1) nd rfl (.inl rfl)) (sss_cons (ss_asg (sg_set (i := 2) nd rfl (.inl rfl)) (se_call B (ok_law_dice T) (hr.mono (by decide)) (by rfl) T.d_law_dice T.f_law_dice.kp (bn_law_dice T) (sa_cons (se_var 0) (sa_cons (se_var 1) sa_nil))))
    (sss_cons (ss_for po rfl (si_rng1 (by rfl) T.z_range (sa_cons se_int sa_nil)) (sg_set (i := 3) nd rfl (.inl rfl)) (sss_one (ss_if (st_not (st_val (se_call B (ok_law_right T) (hr.mono (by decide)) (by rfl) T.d_law_right T.f_law_right.kp (bn_law_right T) (sa_cons (se_var 2) sa_nil)))) (sss_one (ss_ret se_bl)) sss_nil)))
    (sss_cons (ss_asg (sg_set (i := 4) nd rfl (.inl rfl)) (se_op op_plus plus_ok se_int (se_call B (ok_law_roll T) (hr.mono (by decide)) (by rfl) T.d_law_roll T.f_law_roll.kp (bn_law_roll T) (sa_cons (se_var 2) (sa_cons se_int sa_nil)))))
    (sss_one (ss_if (st_bool (sw_or (st_cmp (op_neD hr.units) ne_ok (se_callF B (ok_one_rim_sum T) (hr.mono (by decide)) (by rfl) T.d_one_rim_sum T.f_one_rim_sum.kp (bn_one_rim_sum T) (sa_cons (se_var 4) sa_nil)) (se_callF B (ok_euler_number T) (hr.mono (by decide)) (by rfl) T.d_euler_number T.f_euler_number.kp (bn_euler_number T) (sa_cons (se_var 4) (sa_cons se_int sa_nil)))) (sw_or1 (st_cmp (op_neD hr.units) ne_ok (se_callF B (ok_law_glued T) (hr.mono (by decide)) (by rfl) T.d_law_glued T.f_law_glued.kp (bn_law_glued T) (sa_cons (se_var 4) sa_nil)) (se_callF B (ok_euler_number T) (hr.mono (by decide)) (by rfl) T.d_euler_number T.f_euler_number.kp (bn_euler_number T) (sa_cons (se_var 4) (sa_cons se_int sa_nil))))))) (sss_one (ss_ret se_bl)) sss_nil))))))
    (sss_cons (ss_asg (sg_set (i := 5) nd rfl (.inl rfl)) (se_lst (sa_cons (se_callF B (ok_euler_number T) (hr.mono (by decide)) (by rfl) T.d_euler_number T.f_euler_number.kp (bn_euler_number T) (sa_cons se_int (sa_cons se_int sa_nil))) (sa_cons (se_callF B (ok_euler_number T) (hr.mono (by decide)) (by rfl) T.d_euler_number T.f_euler_number.kp (bn_euler_number T) (sa_cons se_int (sa_cons se_int sa_nil))) (sa_cons (se_callF B (ok_euler_number T) (hr.mono (by decide)) (by rfl) T.d_euler_number T.f_euler_number.kp (bn_euler_number T) (sa_cons se_int (sa_cons se_int sa_nil))) (sa_cons (se_callF B (ok_euler_number T) (hr.mono (by decide)) (by rfl) T.d_euler_number T.f_euler_number.kp (bn_euler_number T) (sa_cons se_int (sa_cons se_int sa_nil))) (sa_cons (se_callF B (ok_euler_number T) (hr.mono (by decide)) (by rfl) T.d_euler_number T.f_euler_number.kp (bn_euler_number T) (sa_cons se_int (sa_cons se_int sa_nil))) (sa_cons (se_callF B (ok_euler_number T) (hr.mono (by decide)) (by rfl) T.d_euler_number T.f_euler_number.kp (bn_euler_number T) (sa_cons se_int (sa_cons se_int sa_nil))) sa_nil))))))))
    (sss_cons (ss_if (st_bool (sw_or (st_cmp (op_neD hr.units) ne_ok (se_var 5) (se_lst (sa_cons (se_tup (sa_cons se_int (sa_cons se_int sa_nil))) (sa_cons (se_tup (sa_cons (se_un un_neg neg_ok se_int) (sa_cons se_int sa_nil))) (sa_cons (se_tup (sa_cons (se_un un_neg neg_ok se_int) (sa_cons se_int sa_nil))) (sa_cons (se_tup (sa_cons se_int (sa_cons se_int sa_nil))) (sa_cons (se_tup (sa_cons se_int (sa_cons se_int sa_nil))) (sa_cons (se_tup (sa_cons (se_un un_neg neg_ok se_int) (sa_cons se_int sa_nil))) sa_nil)))))))) (sw_or (st_cmp (op_neD hr.units) ne_ok (se_callF B (ok_euler_number T) (hr.mono (by decide)) (by rfl) T.d_euler_number T.f_euler_number.kp (bn_euler_number T) (sa_cons se_int (sa_cons se_int sa_nil))) (se_tup (sa_cons se_int (sa_cons se_int sa_nil)))) (sw_or1 (st_cmp (op_neD hr.units) ne_ok (se_callF B (ok_euler_number T) (hr.mono (by decide)) (by rfl) T.d_euler_number T.f_euler_number.kp (bn_euler_number T) (sa_cons se_int (sa_cons se_int sa_nil))) (se_tup (sa_cons se_int (sa_cons se_int sa_nil)))))))) (sss_one (ss_ret se_bl)) sss_nil)
    (sss_one (ss_ret (se_cmp (op_eqD hr.units) eq_ok (se_lc (own := [("handles", 4)]) (g := (gName 4)) rfl nd (si_rng2 (by rfl) T.z_range (sa_cons se_int (sa_cons se_int sa_nil))) (blkOk_by (N := ["script", "spot", "dice", "turn", "handles", "told"]) (sc := defScope s_law) (by decide +kernel)) (lcg_set (by decide)) (fun _ _ _ _ _ => (pg_name (i := 4) nd rfl (.inl rfl))) (fun _ _ _ _ _ => sts_nil) (fun _ _ _ _ _ => (se_callF ⟨by rfl, L2.takes0⟩ (ok_one_rim_sum T) (hr.mono (by decide)) (by rfl) T.d_one_rim_sum T.f_one_rim_sum.kp (bn_one_rim_sum T) (sa_cons (se_var 4) sa_nil)))) (se_lst (sa_cons (se_tup (sa_cons (se_un un_neg neg_ok se_int) (sa_cons se_int sa_nil))) (sa_cons (se_tup (sa_cons se_int (sa_cons se_int sa_nil))) (sa_cons (se_tup (sa_cons (se_un un_neg neg_ok se_int) (sa_cons se_int sa_nil))) (sa_cons (se_tup (sa_cons se_int (sa_cons se_int sa_nil))) (sa_cons (se_tup (sa_cons (se_un un_neg neg_ok se_int) (sa_cons se_int sa_nil))) (sa_cons (se_tup (sa_cons se_int (sa_cons se_int sa_nil))) sa_nil)))))))))))))
end
end Lw
end
namespace Lw
open PySem PySem.Spec PyProof.Rows L2 VE
end Lw
noncomputable section
namespace Lw
open PySem VE
set_option exponentiation.threshold 500000
def trL {β : Type} (g : CV → Sl → M Sl) (b : MS) (rd : Sl → Mem → β) (xs : List CV) : Sl → Mem → List β :=
  List.rec (fun τ h => [rd τ h]) (fun x _ ih τ h => rd τ h :: Out.rec (fun τ1 h1 => OS.rec (fun f h2 => Fl.rec (fun τ2 => ih τ2 h2) (fun _ => []) (fun _ => []) (fun _ => []) (fun _ _ => []) f) [] (b τ1 h1)) (fun _ _ => []) [] (g x τ h)) xs
theorem trL_at {β : Type} {g : CV → Sl → M Sl} {b : MS} {rd : Sl → Mem → β} {r : β} : ∀ {n : Nat} {xs : List CV} {τ : Sl} {h : Mem}, (trL g b rd xs τ h)[n]? = some r → ∃ τ' h', mForL g b (xs.take n) τ h = .mk (.nx τ') h' ∧ rd τ' h' = r
  | 0, xs, τ, h, e => by
    refine ⟨τ, h, rfl, ?_⟩
    cases xs <;> exact Option.some.inj e
  | n + 1, [], τ, h, e => by cases e
  | n + 1, x :: xs, τ, h, e => by
    have e' : (Out.rec (motive := fun _ => List β) (fun τ1 h1 => OS.rec (motive := fun _ => List β) (fun f h2 => Fl.rec (motive := fun _ => List β) (fun τ2 => trL g b rd xs τ2 h2) (fun _ => []) (fun _ => []) (fun _ => []) (fun _ _ => []) f) [] (b τ1 h1)) (fun _ _ => []) [] (g x τ h))[n]? = some r := e
    show ∃ τ' h', Out.rec (motive := fun _ => OS) (fun τ1 h1 => turn (mForL g b (xs.take n)) (b τ1 h1)) (fun _ _ => .bad) .bad (g x τ h) = .mk (.nx τ') h' ∧ rd τ' h' = r
    cases q : g x τ h with
    | ok τ1 h1 =>
      rw [q] at e'
      cases q2 : b τ1 h1 with
      | mk f h2 =>
        simp only [q2] at e' ⊢
        cases f with
        | nx τ2 => exact trL_at e'
        | _ => cases e'
      | bad => simp only [q2] at e'; cases e'
    | exc _ _ => rw [q] at e'; cases e'
    | bad => rw [q] at e'; cases e'

def upto (n : Nat) : List CV := (List.range n).map fun (i : Nat) => .int (1 + (i : Int))
def rdM (τ : Sl) (h : Mem) : Nat × Option (Option CV) × Option (Option CV) × Mem := (τ.length, sget τ 0, sget τ 1, h)
def qCV (x : Int × Int) : CV := .tup [.int x.1, .int x.2]
def bern : List (Int × Int) := [(1, 1), ((-1), 2), (1, 6), (0, 1), ((-1), 30), (0, 1), (1, 42), (0, 1), ((-1), 30), (0, 1), (5, 66), (0, 1), ((-691), 2730), (0, 1), (7, 6), (0, 1), ((-3617), 510), (0, 1), (43867, 798), (0, 1), ((-174611), 330), (0, 1), (854513, 138), (0, 1), ((-236364091), 2730), (0, 1), (8553103, 6), (0, 1), ((-23749461029), 870), (0, 1), (8615841276005, 14322), (0, 1), ((-7709321041217), 510), (0, 1), (2577687858367, 6), (0, 1), ((-26315271553053477373), 1919190), (0, 1), (2929993913841559, 6), (0, 1), ((-261082718496449122051), 13530)]
def memB (s : Nat) : Mem := [.lst ((bern.take (s + 1)).map qCV)]
theorem trB (x : CV) : trL (gSet 2) l_bernoulli_row_1 rdM (upto 40) [some x, some (.ref 0), none, none, none, none] (memB 0) = (List.range 41).map fun s => (6, some (some x), some (some (.ref 0)), memB s) := by kernel_rfl
theorem trLaw (x : CV) : trL (gSet 2) l_law_bernoulli_1 rdM (upto 40) [some x, some (.ref 0), none, none, none, none] (memB 0) = (List.range 41).map fun s => (6, some (some x), some (some (.ref 0)), memB s) := by kernel_rfl

def bT (n : Nat) : Int × Int := bern.getD n (0, 0)
def isQ (o : Out CV) (x : Int × Int) : Bool := match o with
  | .ok v h => match v with
    | .tup [.int a, .int b] => (a == x.1) && (b == x.2) && h.isEmpty
    | _ => false
  | _ => false
theorem isQ_eq {o : Out CV} {x : Int × Int} (e : isQ o x = true) : o = .ok (qCV x) [] := by
  unfold isQ at e
  split at e
  · split at e
    · rename_i a b
      simp only [Bool.and_eq_true, beq_iff_eq, List.isEmpty_iff] at e
      obtain ⟨⟨rfl, rfl⟩, rfl⟩ := e
      rfl
    · cases e
  · cases e
def fq (a b : Int) : Int × Int := let g : Int := (Nat.gcd a.natAbs b.natAbs : Nat); (a / g, b / g)
def fac : Nat → Nat := fun n => Nat.rec 1 (fun k s => s * (k + 1)) n
def eH (h m : Nat) (r : Int × Int) : Int × Int := if m % 2 = 1 then (-r.1, r.2) else r
/-- the Euler numbers -/
def eT (h m : Nat) : Int × Int :=
  if h = 0 then (if (m - 3) % 2 = 1 then (-(fac (m - 3) : Int), 1) else ((fac (m - 3) : Int), 1)) else
    let w := fq (bT (2 * h)).1 ((bT (2 * h)).2 * (2 * h))
    let q := fq (fac (2 * h + m - 3)) (fac (2 * h - 2))
    eH h m (fq (q.1 * w.1) (q.2 * w.2))
def wT (h : Nat) : Int × Int := fq (bT (2 * h)).1 ((bT (2 * h)).2 * (2 * h))
def restE : MS := (mSeq (mAsg (gSet 3) (eB (callF 2 F_fraction_in) (eConsA (eB (callF 3 F_product_from) (eConsA (eC (.int 1)) (eConsA (eOp pyAdd (eOp pySub (eOp pyMul (eC (.int 2)) (eVar 0)) (eC (.int 3))) (eVar 1)) (eConsA (eC (.int 1)) eNilA)))) (eConsA (eB (callF 3 F_product_from) (eConsA (eC (.int 1)) (eConsA (eOp pySub (eOp pyMul (eC (.int 2)) (eVar 0)) (eC (.int 2))) (eConsA (eC (.int 1)) eNilA)))) eNilA))))
    (mRet (eB (callF 2 F_signed) (eConsA (eB (callF 2 F_product_in) (eConsA (eVar 3) (eConsA (eVar 2) eNilA))) (eConsA (eVar 1) eNilA)))))
def runE (h m : Nat) : Out CV := endB (restE [some (.int h), some (.int m), some (qCV (wT h)), none] [])
theorem ckW : ∀ h, h < 20 → isQ (callF 2 F_product_in [qCV (bT (2 * (h + 1))), .tup [.int 1, .int ((2 * (h + 1) : Nat) : Int)]] []) (wT (h + 1)) = true := by decide +kernel
theorem ck0 : ∀ m, m < 18 → isQ (F_euler_in [.int (0 : Nat), .int ((m + 3 : Nat) : Int)] []) (eT 0 (m + 3)) = true := by decide +kernel
theorem ckE : ∀ h, h < 20 → ∀ m, m < 21 → (isQ (runE (h + 1) m) (eT (h + 1) m) || Nat.beq h 0 && Nat.beq m 0) = true := by decide +kernel
theorem ckF : ∀ h, h < 6 → isQ (F_one_rim_sum [.int ((h + 1 : Nat) : Int)] []) (eT (h + 1) 1) = true := by decide +kernel

theorem upto_take {t : Nat} (h : t ≤ 40) : (upto 40).take t = upto t := by
  unfold upto
  rw [← List.map_take, List.take_range, Nat.min_eq_left h]
theorem rng2_upto {t : Nat} (h : t ≤ 100) {m : Mem} : rng2 [.int 1, .int ((t : Int) + 1)] m = .ok (upto t) m := by
  unfold rng2
  simp only
  rw [if_pos (by omega)]
  have e : ((t : Int) + 1 - 1).toNat = t := by omega
  rw [e]; rfl
theorem tr_at {B : MS} {t : Nat} (ht : t ≤ 40) {x : CV} (e : trL (gSet 2) B rdM (upto 40) [some x, some (.ref 0), none, none, none, none] (memB 0) = (List.range 41).map fun s => (6, some (some x), some (some (.ref 0)), memB s)) :
    ∃ τ', mForL (gSet 2) B (upto t) [some x, some (.ref 0), none, none, none, none] (memB 0) = .mk (.nx τ') (memB t) ∧ τ'[1]? = some (some (.ref 0)) := by
  have q : (trL (gSet 2) B rdM (upto 40) [some x, some (.ref 0), none, none, none, none] (memB 0))[t]? = some (6, some (some x), some (some (.ref 0)), memB t) := by
    rw [e, List.getElem?_map, List.getElem?_range (by omega)]; rfl
  obtain ⟨τ', h', e1, e2⟩ := trL_at q
  unfold rdM at e2
  simp only [Prod.mk.injEq] at e2
  obtain ⟨l, q0, q1, rfl⟩ := e2
  rw [upto_take ht] at e1
  rw [sget_eq] at q1
  exact ⟨τ', e1, q1⟩
theorem newP {τ : Sl} : eNew (eConsA (eC (.tup [(.int 1), (.int 1)])) eNilA) τ [] = .ok (.ref 0) (memB 0) := by kernel_rfl
theorem newL {τ : Sl} : eNew (eConsA (eTup (eConsA (eC (.int 1)) (eConsA (eC (.int 1)) eNilA))) eNilA) τ [] = .ok (.ref 0) (memB 0) := by kernel_rfl
theorem rng1p {t : Nat} {U : List CV} {τ : Sl} {m : Mem} (hU : ∀ m, rng2 [.int 1, .int ((t : Int) + 1)] m = .ok U m) (h0 : τ[0]? = some (some (.int t))) : (iArgs rng2 (eConsA (eC (.int 1)) (eConsA (eOp pyAdd (eVar 0) (eC (.int 1))) eNilA))) τ m = .ok U m :=
  iArgs_ok (eCons_ok eC_ok (eCons_ok (eOp_ok (eVar_ok h0) eC_ok rfl) eNil_ok)) (hU m)
theorem mapO_q {f : CV → Option CV} (hf : ∀ x, f (qCV x) = some (qCV x)) : ∀ l : List (Int × Int), mapO f (l.map qCV) = some (l.map qCV)
  | [] => rfl
  | x :: l => by
    rw [List.map_cons]
    unfold mapO
    rw [hf, mapO_q hf l]
theorem frzB (t : Nat) : frzV 9 (memB t) (.ref 0) = some (.lst ((bern.take (t + 1)).map qCV)) := by
  have q : memAt (memB t) 0 = some ((bern.take (t + 1)).map qCV) := rfl
  unfold frzV
  simp only [q]
  rw [mapO_q (f := frzV 8 (memB t)) (fun x => rfl)]
theorem bernF {t : Nat} (ht : t ≤ 40) {h : Mem} : callF 1 F_bernoulli_row [.int t] h = .ok (.lst ((bern.take (t + 1)).map qCV)) h := by
  obtain ⟨τ', e1, e2⟩ := tr_at ht (trB (.int t))
  exact callF_read (h' := memB t) (v := .ref 0) (run_rt rfl ((mSeq_nx (mAsg_ok newP)).trans ((mSeq_nx ((mFor_nx (rng1p (fun m => rng2_upto (by omega)) rfl)).trans e1)).trans (mRet_ok (eVar_ok e2))))) rfl rfl (frzB t)
theorem lawbF {t : Nat} (ht : t ≤ 40) {h : Mem} : callF 1 F_law_bernoulli [.int t] h = .ok (.lst ((bern.take (t + 1)).map qCV)) h := by
  obtain ⟨τ', e1, e2⟩ := tr_at ht (trLaw (.int t))
  exact callF_read (h' := memB t) (v := .ref 0) (run_rt rfl ((mSeq_nx (mAsg_ok newL)).trans ((mSeq_nx ((mFor_nx (rng1p (fun m => rng2_upto (by omega)) rfl)).trans e1)).trans (mRet_ok (eVar_ok e2))))) rfl rfl (frzB t)
theorem bern_ix {t : Nat} (ht : t ≤ 40) (m : Mem) : pyIx (.lst ((bern.take (t + 1)).map qCV)) (.int t) m = .ok (qCV (bT t)) m := by
  have q : ((bern.take (t + 1)).map qCV)[t]? = some (qCV (bT t)) := by
    have hl : bern.length = 41 := by decide +kernel
    rw [List.getElem?_map, List.getElem?_take_of_lt (by omega)]
    unfold bT
    rw [List.getD_eq_getElem?_getD, List.getElem?_eq_getElem (by omega)]
    rfl
  simp only [pyIx, seqOf, rd_pyAtN, q]
theorem wholeF {v : Int} {h : Mem} : callF 1 F_is_whole [.int v] h = .ok (.bl true) h := by
  refine callF_read (h' := []) (v := .bl true) ?_ rfl rfl rfl
  unfold F_is_whole
  rw [runB_eq]
  unfold b_is_whole startC
  simp [rd_mSeq, rd_mIf, rd_bOf, rd_bNot, rd_bOr, rd_bAnd, rd_eIf, rd_eAnd, rd_eNot, rd_eOp, rd_eUn, rd_eVar, rd_eC, rd_ret, rd_stuck, rd_isB, rd_mAsg, rd_eB, rd_eConsA, rd_eNilA, rd_gSet, rd_mRet, rd_mRetN, rd_mNil, rd_mExpr, rd_mAug, rd_eCall, rd_iArgs, rd_mFor, rd_memAt, rd_eNew, rd_bnd, pyIx, seqOf, rd_pyAtN, rd_pyAt0, rd_pyAt1, rd_pyAt2, rd_pyAt3, rd_pyAt4, rd_pyAtM, pyCmp, pyInt, pyMod, pyFdiv, pyAdd, pySub, pyMul, pyNeg, VE.pyLen, gSub, L2.ixN, frV_eq, sset_eq, sapp_eq, frN_eq, frLs_eq, endB, turn, isK, kindOf, isInt, isBool]
theorem integerF {v : Int} {h : Mem} (hv : v.natAbs < 10 ^ 60) : callF 1 F_is_integer [.int v] h = .ok (.bl true) h := by
  refine callF_read (h' := []) (v := .bl true) ?_ rfl rfl rfl
  have hv' : decide ((if v < 0 then -v else v) < 1000000000000000000000000000000000000000000000000000000000000) = true := by
    have : (10 ^ 60 : Nat) = 1000000000000000000000000000000000000000000000000000000000000 := by decide
    exact decide_eq_true (by split <;> omega)
  unfold F_is_integer
  rw [runB_eq]
  unfold b_is_integer startC
  simp only [rd_mSeq, rd_mIf, rd_bOf, rd_bNot, rd_bOr, rd_bAnd, rd_eIf, rd_eAnd, rd_eNot, rd_eOp, rd_eUn, rd_eVar, rd_eC, rd_ret, rd_stuck, rd_isB, rd_mAsg, rd_eB, rd_eConsA, rd_eNilA, rd_gSet, rd_mRet, rd_mRetN, rd_mNil, rd_mExpr, rd_mAug, rd_eCall, rd_iArgs, rd_mFor, rd_memAt, rd_eNew, rd_bnd, pyIx, seqOf, rd_pyAtN, rd_pyAt0, rd_pyAt1, rd_pyAt2, rd_pyAt3, rd_pyAt4, rd_pyAtM, pyCmp, pyInt, pyMod, pyFdiv, pyAdd, pySub, pyMul, pyNeg, VE.pyLen, gSub, L2.ixN, frV_eq, sset_eq, sapp_eq, frN_eq, frLs_eq, endB, turn, wholeF, pyAbs, hv', List.map_cons, List.map_nil, List.length_cons, List.length_nil, if_true, List.cons_append, List.nil_append, List.getElem?_cons_zero, Nat.zero_add, Nat.sub_self, List.replicate_zero]
theorem withinF {v a b : Int} {h : Mem} (hv : v.natAbs < 10 ^ 60) (ha : a ≤ v) (hb : v ≤ b) : callF 3 F_is_within [.int v, .int a, .int b] h = .ok (.bl true) h := by
  refine callF_read (h' := []) (v := .bl true) ?_ rfl rfl rfl
  unfold F_is_within
  rw [runB_eq]
  unfold b_is_within startC
  simp [rd_mSeq, rd_mIf, rd_bOf, rd_bNot, rd_bOr, rd_bAnd, rd_eIf, rd_eAnd, rd_eNot, rd_eOp, rd_eUn, rd_eVar, rd_eC, rd_ret, rd_stuck, rd_isB, rd_mAsg, rd_eB, rd_eConsA, rd_eNilA, rd_gSet, rd_mRet, rd_mRetN, rd_mNil, rd_mExpr, rd_mAug, rd_eCall, rd_iArgs, rd_mFor, rd_memAt, rd_eNew, rd_bnd, pyIx, seqOf, rd_pyAtN, rd_pyAt0, rd_pyAt1, rd_pyAt2, rd_pyAt3, rd_pyAt4, rd_pyAtM, pyCmp, pyInt, pyMod, pyFdiv, pyAdd, pySub, pyMul, pyNeg, VE.pyLen, gSub, L2.ixN, frV_eq, sset_eq, sapp_eq, frN_eq, frLs_eq, endB, turn, integerF hv, eChain, ha, hb]
theorem reqF {v a b : Int} {h : Mem} (hv : v.natAbs < 10 ^ 60) (ha : a ≤ v) (hb : v ≤ b) : callF 3 F_require_within [.int v, .int a, .int b] h = .ok .non h := by
  refine callF_read (h' := []) (v := .non) ?_ rfl rfl rfl
  unfold F_require_within
  rw [runB_eq]
  unfold b_require_within startC
  simp [rd_mSeq, rd_mIf, rd_bOf, rd_bNot, rd_bOr, rd_bAnd, rd_eIf, rd_eAnd, rd_eNot, rd_eOp, rd_eUn, rd_eVar, rd_eC, rd_ret, rd_stuck, rd_isB, rd_mAsg, rd_eB, rd_eConsA, rd_eNilA, rd_gSet, rd_mRet, rd_mRetN, rd_mNil, rd_mExpr, rd_mAug, rd_eCall, rd_iArgs, rd_mFor, rd_memAt, rd_eNew, rd_bnd, pyIx, seqOf, rd_pyAtN, rd_pyAt0, rd_pyAt1, rd_pyAt2, rd_pyAt3, rd_pyAt4, rd_pyAtM, pyCmp, pyInt, pyMod, pyFdiv, pyAdd, pySub, pyMul, pyNeg, VE.pyLen, gSub, L2.ixN, frV_eq, sset_eq, sapp_eq, frN_eq, frLs_eq, endB, turn, withinF hv ha hb]
theorem bernoulliF {t : Nat} (ht : t ≤ 40) {h : Mem} : callF 1 F_bernoulli [.int t] h = .ok (qCV (bT t)) h :=
  callF_read (h' := []) (v := qCV (bT t)) (run_rt rfl ((mSeq_nx (mExpr_ok (eB_ok (eCons_ok (eVar_ok rfl) (eCons_ok eC_ok (eCons_ok eC_ok eNil_ok))) (reqF (by omega) (by omega) (by omega))))).trans
    (mRet_ok (eOp_ok (eB_ok (eCons_ok (eVar_ok rfl) eNil_ok) (bernF ht)) (eVar_ok rfl) (bern_ix ht []))))) rfl rfl rfl
/-- law's index -/
theorem lawIx {h : Nat} (hh : h ≤ 20) {τ : Sl} (e : τ[0]? = some (some (.int h))) (m : Mem) : eOp pyIx (eB (callF 1 F_law_bernoulli) (eConsA (eOp pyMul (eC (.int 2)) (eVar 0)) eNilA)) (eOp pyMul (eC (.int 2)) (eVar 0)) τ m = .ok (qCV (bT (2 * h))) m := by
  have q : pyMul (.int 2) (.int h) m = .ok (.int ((2 * h : Nat) : Int)) m := by
    have f : fit (h : Int) = true := Nat.ble_eq.mpr (Nat.le_trans (show (h : Int).natAbs ≤ 2 ^ 10 by omega) (Nat.pow_le_pow_right (by decide) (by decide)))
    unfold pyMul
    simp only [f, show fit 2 = true by decide +kernel, Bool.and_true, if_true]
    congr 2
  exact eOp_ok (eB_ok (eCons_ok (eOp_ok eC_ok (eVar_ok e) q) eNil_ok) (lawbF (by omega))) (eOp_ok eC_ok (eVar_ok e) q) (bern_ix (by omega) m)

theorem pyEq_int {neg : Bool} {a b : Int} {h : Mem} : pyEq neg (.int a) (.int b) h = .ok (.bl (neg ^^ decide (a = b))) h := by
  have e : PyData.eqv (.int a) (.int b) = decide (a = b) := by
    show (a == b) = _
    rw [Bool.eq_iff_iff]; simp
  show (if SeqAt.shaped (.int a) && SeqAt.shaped (.int b) then Out.ok (CV.bl (neg ^^ PyData.eqv (.int a) (.int b))) h else .bad) = _
  rw [e]; rfl
theorem pyEq_q {neg : Bool} {x : Int × Int} {h : Mem} : pyEq neg (qCV x) (qCV x) h = .ok (.bl (!neg)) h := by
  have e : PyData.eqv (.tuple [.int x.1, .int x.2]) (.tuple [.int x.1, .int x.2]) = true := PySem.SeqAt.eqv_refl _ rfl
  show (if SeqAt.shaped (.tuple [.int x.1, .int x.2]) && SeqAt.shaped (.tuple [.int x.1, .int x.2]) then Out.ok (CV.bl (neg ^^ PyData.eqv (.tuple [.int x.1, .int x.2]) (.tuple [.int x.1, .int x.2]))) h else .bad) = _
  rw [e]
  cases neg <;> rfl
theorem eTup2_ok {a b : Sl → M CV} {τ : Sl} {x y : CV} {h h1 h2 : Mem} (e1 : a τ h = .ok x h1) (e2 : b τ h1 = .ok y h2) : eTup (eConsA a (eConsA b eNilA)) τ h = .ok (.tup [x, y]) h2 := by
  unfold eTup
  rw [rd_bnd, eCons_ok e1 (eCons_ok e2 eNil_ok)]
  rfl
theorem two_mul {h : Nat} (hh : h ≤ 100) {m : Mem} : pyMul (.int 2) (.int h) m = .ok (.int ((2 * h : Nat) : Int)) m := by
  have f : fit (h : Int) = true := Nat.ble_eq.mpr (Nat.le_trans (show (h : Int).natAbs ≤ 2 ^ 10 by omega) (Nat.pow_le_pow_right (by decide) (by decide)))
  unfold pyMul
  simp only [f, show fit 2 = true by decide +kernel, Bool.and_true, if_true]
  congr 2
theorem eq0F {τ : Sl} {h : Nat} (h0 : 0 < h) (e : τ[0]? = some (some (.int h))) (m : Mem) : bOf (eOp (pyEq false) (eVar 0) (eC (.int 0))) τ m = .ok false m :=
  bOf_ok (eOp_ok (eVar_ok e) eC_ok (pyEq_int.trans (by rw [decide_eq_false (by omega)]; rfl)))
theorem callF_q {np : Nat} {F : List CV → M CV} {xs : List CV} {x : Int × Int} {h : Mem} (e : F xs [] = .ok (qCV x) []) (hn : noRefs xs = true) (hl : xs.length = np) : callF np F xs h = .ok (qCV x) h := callF_read e hn hl rfl
theorem callF_m {np : Nat} {F : List CV → M CV} {xs : List CV} {v : CV} {h : Mem} (e : callF np F xs [] = .ok v []) (hn : noRefs xs = true) : callF np F xs h = .ok v h := by
  unfold callF at e ⊢
  by_cases hl : xs.length = np
  · rw [if_pos hl, if_pos hn] at e ⊢
    cases q : F xs [] with
    | ok w h' =>
      rw [q] at e
      simp only at e ⊢
      cases q2 : frzV 9 h' w with
      | none => rw [q2] at e; cases e
      | some w' => rw [q2] at e; cases e; rfl
    | exc x h' =>
      rw [q] at e
      simp only at e
      cases q2 : mapO (frzV 9 h') x.args with
      | none => rw [q2] at e; cases e
      | some w' => rw [q2] at e; cases e
    | bad => rw [q] at e; cases e
  · rw [if_neg hl] at e; cases e
theorem euler_in0 {m : Nat} (h3 : 3 ≤ m) (hm : m ≤ 20) : F_euler_in [.int (0 : Nat), .int m] [] = .ok (qCV (eT 0 m)) [] := by
  obtain ⟨k, rfl⟩ : ∃ k, m = k + 3 := ⟨m - 3, by omega⟩
  exact isQ_eq (ck0 k (by omega))
theorem euler_in1 {h m : Nat} (h0 : 0 < h) (hh : h ≤ 20) (hm : m ≤ 20) (hx : 3 ≤ 2 * h + m) : F_euler_in [.int h, .int m] [] = .ok (qCV (eT h m)) [] := by
  have w : callF 2 F_product_in [qCV (bT (2 * h)), .tup [.int 1, .int ((2 * h : Nat) : Int)]] [] = .ok (qCV (wT h)) [] := by
    obtain ⟨k, rfl⟩ : ∃ k, h = k + 1 := ⟨h - 1, by omega⟩
    exact isQ_eq (ckW k (by omega))
  have r : runE h m = .ok (qCV (eT h m)) [] := by
    obtain ⟨k, rfl⟩ : ∃ k, h = k + 1 := ⟨h - 1, by omega⟩
    have c := ckE k (by omega) m (by omega)
    refine isQ_eq ?_
    rw [Bool.or_eq_true] at c
    rcases c with c | c
    · exact c
    · rw [Bool.and_eq_true, Nat.beq_eq, Nat.beq_eq] at c
      omega
  have e : b_euler_in (startC 4 [.int h, .int m]) [] = restE [some (.int h), some (.int m), some (qCV (wT h)), none] [] :=
    (mSeq_nx ((mIf_f (eq0F h0 rfl [])).trans rd_mNil)).trans (mSeq_nx (mAsg_ok (eB_ok (eCons_ok (eB_ok (eCons_ok (eOp_ok eC_ok (eVar_ok rfl) (two_mul (by omega))) eNil_ok) (bernoulliF (by omega))) (eCons_ok (eTup2_ok eC_ok (eOp_ok eC_ok (eVar_ok rfl) (two_mul (by omega)))) eNil_ok)) w)))
  unfold F_euler_in
  rw [runB_eq, if_pos (show [CV.int (h : Int), CV.int (m : Int)].length = 2 from rfl), e]
  exact r
theorem eulerF {h m : Nat} (hh : h ≤ 20) (hm : m ≤ 20) (hx : 3 ≤ 2 * h + m) {hp : Mem} : callF 2 F_euler_number [.int h, .int m] hp = .ok (qCV (eT h m)) hp := by
  have q : F_euler_in [.int h, .int m] [] = .ok (qCV (eT h m)) [] := by
    by_cases h0 : h = 0
    · subst h0; exact euler_in0 (by omega) hm
    · exact euler_in1 (by omega) hh hm hx
  have c : bOf (eOp pyLt (eOp pyAdd (eOp pySub (eOp pyMul (eC (.int 2)) (eVar 0)) (eC (.int 2))) (eVar 1)) (eC (.int 1))) (startC 2 [.int h, .int m]) [] = .ok (decide (((2 * h : Nat) : Int) - 2 + m < 1)) [] :=
    bOf_ok (eOp_ok (eOp_ok (eOp_ok (eOp_ok eC_ok (eVar_ok rfl) (two_mul (by omega))) eC_ok rfl) (eVar_ok rfl) rfl) eC_ok rfl)
  rw [decide_eq_false (by omega)] at c
  exact callF_q (run_rt rfl ((mSeq_nx (mExpr_ok (eB_ok (eCons_ok (eVar_ok rfl) (eCons_ok eC_ok (eCons_ok eC_ok eNil_ok))) (reqF (by omega) (by omega) (by omega))))).trans
    ((mSeq_nx (mExpr_ok (eB_ok (eCons_ok (eVar_ok rfl) (eCons_ok eC_ok (eCons_ok eC_ok eNil_ok))) (reqF (by omega) (by omega) (by omega))))).trans
    ((mSeq_nx ((mIf_f c).trans rd_mNil)).trans (mRet_ok (eB_ok (eCons_ok (eVar_ok rfl) (eCons_ok (eVar_ok rfl) eNil_ok)) (callF_q q rfl rfl))))))) rfl rfl
def halfD : MS := (mAsg (gSet 3) (eB (callF 2 F_law_fraction) (eConsA (eB (callF 1 F_law_factorial) (eConsA (eOp pySub (eOp pyAdd (eOp pyMul (eC (.int 2)) (eVar 0)) (eVar 1)) (eC (.int 3))) eNilA)) (eConsA (eB (callF 1 F_law_factorial) (eConsA (eOp pySub (eOp pyMul (eC (.int 2)) (eVar 0)) (eC (.int 2))) eNilA)) eNilA))))
def signD : MS := (mAsg (gSet 2) (eOp pySub (eC (.int 1)) (eOp pyMul (eC (.int 2)) (eOp pyMod (eB pyInt (eConsA (eVar 1) eNilA)) (eC (.int 2))))))
def runD (h m : Nat) : Out CV := endB ((mSeq signD (mSeq halfD (mRet (eB (callF 2 F_law_times) (eConsA (eTup (eConsA (eVar 2) (eConsA (eC (.int 1)) eNilA))) (eConsA (eB (callF 2 F_law_times) (eConsA (eVar 3) (eConsA (eB (callF 2 F_law_over) (eConsA (eC (qCV (bT (2 * h)))) (eConsA (eTup (eConsA (eOp pyMul (eC (.int 2)) (eVar 0)) (eConsA (eC (.int 1)) eNilA))) eNilA))) eNilA))) eNilA)))))) [some (.int h), some (.int m), none, none] [])
theorem ckD0 : ∀ m : Nat, m < 18 → isQ (F_law_due [.int (0 : Nat), .int ((m + 3 : Nat) : Int)] []) (eT 0 (m + 3)) = true := by decide +kernel
theorem ckD : ∀ h : Nat, h < 20 → ∀ m : Nat, m < 21 → (isQ (runD (h + 1) m) (eT (h + 1) m) || Nat.beq h 0 && Nat.beq m 0) = true := by decide +kernel
theorem mSeq_congr {a b b' : MS} {τ : Sl} {h : Mem} (H : ∀ τ' h', a τ h = .mk (.nx τ') h' → b τ' h' = b' τ' h') : mSeq a b τ h = mSeq a b' τ h := by
  rw [rd_mSeq, rd_mSeq]
  rcases q : a τ h with ⟨f, h'⟩ | _
  · cases f with
    | nx τ' => exact H τ' h' q
    | _ => rfl
  · rfl
theorem mAsg_inv {i : Nat} {e : Sl → M CV} {τ τ' : Sl} {h h' : Mem} (q : mAsg (gSet i) e τ h = .mk (.nx τ') h') : ∃ v, τ' = τ.set i (some v) := by
  rw [rd_mAsg] at q
  cases c : e τ h with
  | ok v h1 =>
    rw [c] at q
    simp only [rd_gSet] at q
    cases q
    exact ⟨v, rfl⟩
  | exc x h1 => rw [c] at q; cases q
  | bad => rw [c] at q; cases q
theorem due1 {h m : Nat} (h0 : 0 < h) (hh : h ≤ 20) (hm : m ≤ 20) (hx : 3 ≤ 2 * h + m) : F_law_due [.int h, .int m] [] = .ok (qCV (eT h m)) [] := by
  have r : runD h m = .ok (qCV (eT h m)) [] := by
    obtain ⟨k, rfl⟩ : ∃ k, h = k + 1 := ⟨h - 1, by omega⟩
    have c := ckD k (by omega) m (by omega)
    refine isQ_eq ?_
    rw [Bool.or_eq_true] at c
    rcases c with c | c
    · exact c
    · rw [Bool.and_eq_true, Nat.beq_eq, Nat.beq_eq] at c
      omega
  unfold F_law_due
  rw [runB_eq, if_pos (show [CV.int (h : Int), CV.int (m : Int)].length = 2 from rfl), ← r]
  unfold runD
  congr 1
  refine mSeq_congr fun τ1 h1 e1 => ?_
  obtain ⟨v, rfl⟩ := mAsg_inv e1
  rw [mSeq_nx ((mIf_f (eq0F h0 rfl h1)).trans rd_mNil)]
  refine mSeq_congr fun τ2 h2 e2 => ?_
  obtain ⟨w, rfl⟩ := mAsg_inv e2
  have q : ∀ hp, eOp pyIx (eB (callF 1 F_law_bernoulli) (eConsA (eOp pyMul (eC (.int 2)) (eVar 0)) eNilA)) (eOp pyMul (eC (.int 2)) (eVar 0)) (((startC 4 [.int h, .int m]).set 2 (some v)).set 3 (some w)) hp = .ok (qCV (bT (2 * h))) hp := fun hp => lawIx hh rfl hp
  simp only [rd_mRet, rd_eB, rd_eConsA, rd_eC, q]
theorem dueF {h m : Nat} (hh : h ≤ 20) (hm : m ≤ 20) (hx : 3 ≤ 2 * h + m) {hp : Mem} : callF 2 F_law_due [.int h, .int m] hp = .ok (qCV (eT h m)) hp := by
  by_cases h0 : h = 0
  · subst h0
    obtain ⟨k, rfl⟩ : ∃ k, m = k + 3 := ⟨m - 3, by omega⟩
    exact callF_q (isQ_eq (ckD0 k (by omega))) rfl rfl
  · exact callF_q (due1 (by omega) hh hm hx) rfl rfl
theorem ckT : ∀ h : Nat, h < 21 → ∀ m : Nat, m < 21 → (isQ (callF 2 F_law_times [.tup [.int (2 - ((2 * h : Nat) : Int) - (m : Int)), .int 1], qCV (eT h m)] []) (eT h (m + 1)) || Nat.blt (2 * h + m) 3) = true := by decide +kernel
theorem timesF {h m : Nat} (hh : h ≤ 20) (hm : m ≤ 20) (hx : 3 ≤ 2 * h + m) {hp : Mem} : callF 2 F_law_times [.tup [.int (2 - ((2 * h : Nat) : Int) - (m : Int)), .int 1], qCV (eT h m)] hp = .ok (qCV (eT h (m + 1))) hp := by
  have c := ckT h (by omega) m (by omega)
  rw [Bool.or_eq_true] at c
  rcases c with c | c
  · exact callF_m (isQ_eq c) rfl
  · unfold Nat.blt at c
    have := Nat.ble_eq.mp c
    omega

/-- the dice at l: three ints -/
def Dice (h : Mem) (l : Nat) (a b c : Int) : Prop := h[l]? = some (.lst [.int a, .int b, .int c])
theorem fit_of {i : Int} (k : Nat) (h : i.natAbs ≤ 2 ^ k) (hk : k ≤ 400000) : fit i = true := by
  unfold fit big
  exact Nat.ble_eq.mpr (Nat.le_trans h (Nat.pow_le_pow_right (by decide) hk))
theorem roll1 {h : Mem} {l : Nat} {a b c t : Int} (d : Dice h l a b c) (ha : 0 < a) (ht : 0 < t) (ht2 : t.natAbs ≤ 2 ^ 100) :
    F_law_roll [.ref l, .int t] h = .ok (.int (a.fmod t)) (h.set l (.lst [.int (a.fdiv t), .int b, .int c])) := by
  unfold Dice at d
  have e1 : fitD t = true := Nat.ble_eq.mpr (Nat.le_trans ht2 (Nat.pow_le_pow_right (by decide) (by decide)))
  have e2 : t ≠ 0 := by omega
  unfold F_law_roll
  rw [runB_eq]
  unfold b_law_roll startC
  simp [rd_mSeq, rd_mIf, rd_bOf, rd_bNot, rd_bOr, rd_bAnd, rd_eIf, rd_eAnd, rd_eNot, rd_eOp, rd_eUn, rd_eVar, rd_eC, rd_ret, rd_stuck, rd_isB, rd_mAsg, rd_eB, rd_eConsA, rd_eNilA, rd_gSet, rd_mRet, rd_mRetN, rd_mNil, rd_mExpr, rd_mAug, rd_eCall, rd_iArgs, rd_mFor, rd_memAt, rd_eNew, rd_bnd, pyIx, seqOf, rd_pyAtN, rd_pyAt0, rd_pyAt1, rd_pyAt2, rd_pyAt3, rd_pyAt4, rd_pyAtM, pyCmp, pyInt, pyMod, pyFdiv, pyAdd, pySub, pyMul, pyNeg, VE.pyLen, gSub, L2.ixN, frV_eq, sset_eq, sapp_eq, frN_eq, frLs_eq, endB, turn, d, ha, e1, e2]
def rollTwo (b c : Int) : Int := (((b + 99990067 * c).fmod 2305843009213693381 * (b + 99990067 * c).fmod 2305843009213693381 + 89 * c).fmod 2305843009213693343) * 8675309 + (b + 99990067 * c).fmod 2305843009213693381
theorem fmod_fit {x m : Int} (hm : 0 < m) (h : m.natAbs ≤ 2 ^ 400000) : fit (x.fmod m) = true := by
  have h1 := Int.fmod_nonneg_of_pos x hm
  have h2 := Int.fmod_lt_of_pos x hm
  unfold fit big
  exact Nat.ble_eq.mpr (by omega)
theorem roll2 {h : Mem} {l : Nat} {a b c t : Int} (d : Dice h l a b c) (ha : ¬ 0 < a) (ht : 0 < t) (hc : (c + 1).natAbs ≤ 2 ^ 100) :
    F_law_roll [.ref l, .int t] h = .ok (.int (((rollTwo b (c + 1)).fdiv 65551).fmod t)) (h.set l (.lst [.int a, .int b, .int (c + 1)])) := by
  unfold Dice at d
  have hl := (List.getElem?_eq_some_iff.mp d).1
  have e2 : t ≠ 0 := by omega
  have f1 : fit (c + 1) = true := fit_of 100 hc (by decide)
  have f2 : fit 99990067 = true := by decide +kernel
  have f3 : fit 89 = true := by decide +kernel
  have f4 : fit 8675309 = true := by decide +kernel
  have f5 : fitD 65551 = true := by decide +kernel
  have f6 : ∀ x : Int, fit (x.fmod 2305843009213693381) = true := fun x => fmod_fit (by decide) (by decide +kernel)
  have f7 : ∀ x : Int, fit (x.fmod 2305843009213693343) = true := fun x => fmod_fit (by decide) (by decide +kernel)
  unfold F_law_roll
  rw [runB_eq]
  unfold b_law_roll startC
  have ds : ∀ x : CO, (h.set l x)[l]? = some x := fun x => by simp [hl]
  clear hl
  simp [rd_mSeq, rd_mIf, rd_bOf, rd_bNot, rd_bOr, rd_bAnd, rd_eIf, rd_eAnd, rd_eNot, rd_eOp, rd_eUn, rd_eVar, rd_eC, rd_ret, rd_stuck, rd_isB, rd_mAsg, rd_eB, rd_eConsA, rd_eNilA, rd_gSet, rd_mRet, rd_mRetN, rd_mNil, rd_mExpr, rd_mAug, rd_eCall, rd_iArgs, rd_mFor, rd_memAt, rd_eNew, rd_bnd, pyIx, seqOf, rd_pyAtN, rd_pyAt0, rd_pyAt1, rd_pyAt2, rd_pyAt3, rd_pyAt4, rd_pyAtM, pyCmp, pyInt, pyMod, pyFdiv, pyAdd, pySub, pyMul, pyNeg, VE.pyLen, gSub, L2.ixN, frV_eq, sset_eq, sapp_eq, frN_eq, frLs_eq, endB, turn, d, ha, e2, ds, f1, f2, f3, f4, f5, f6, f7, rollTwo]
def DiceN (h : Mem) (l n : Nat) : Prop := ∃ a b c : Int, Dice h l a b c ∧ c.natAbs ≤ n
theorem set_dice {h : Mem} {l : Nat} {a b c a' b' c' : Int} (d : Dice h l a b c) : Dice (h.set l (.lst [.int a', .int b', .int c'])) l a' b' c' := by
  unfold Dice at *
  obtain ⟨hl, _⟩ := List.getElem?_eq_some_iff.mp d
  simp [hl]
theorem roll_ok {h : Mem} {l n : Nat} {t : Int} (d : DiceN h l n) (ht : 0 < t) (ht2 : t.natAbs ≤ 2 ^ 100) (hn : n < 2 ^ 100) :
    ∃ r h', 0 ≤ r ∧ r < t ∧ F_law_roll [.ref l, .int t] h = .ok (.int r) h' ∧ DiceN h' l (n + 1) := by
  obtain ⟨a, b, c, d, hc⟩ := d
  by_cases ha : 0 < a
  · exact ⟨_, _, Int.fmod_nonneg_of_pos _ ht, Int.fmod_lt_of_pos _ ht, roll1 d ha ht ht2, _, _, _, set_dice d, by omega⟩
  · exact ⟨_, _, Int.fmod_nonneg_of_pos _ ht, Int.fmod_lt_of_pos _ ht, roll2 d ha ht (by omega), _, _, _, set_dice d, by omega⟩
theorem pow_fit {c : Int} {k : Nat} (hc : c.natAbs ≤ 2 ^ 20) (hk : k ≤ 10000) : fit (c ^ k) = true := by
  refine fit_of (20 * k) ?_ (by omega)
  rw [Int.natAbs_pow, Nat.pow_mul]
  exact Nat.pow_le_pow_left hc k
theorem rng1_nat {n : Nat} (h : n < 2 ^ 60) {m : Mem} : rng1 [.int n] m = .ok ((List.range n).map fun (i : Nat) => CV.int (0 + (i : Int))) m := by
  unfold rng1
  simp only
  rw [if_pos (by omega)]
  rfl
theorem upto0_at {n i : Nat} {x : CV} (h : ((List.range n).map fun (i : Nat) => CV.int (0 + (i : Int)))[i]? = some x) : i < n ∧ x = .int i := by
  rw [List.getElem?_map] at h
  by_cases hi : i < n
  · rw [List.getElem?_range hi] at h
    simp only [Option.map_some, Option.some.injEq, Int.zero_add] at h
    exact ⟨hi, h.symm⟩
  · rw [List.getElem?_eq_none (by simpa using hi)] at h; cases h
theorem pyMul_int {a b : Int} {h : Mem} (fa : fit a = true) (fb : fit b = true) : pyMul (.int a) (.int b) h = .ok (.int (a * b)) h := by
  unfold pyMul
  simp only [fa, fb, Bool.and_true, if_true]
theorem nfit {n k : Nat} (h : n ≤ 2 ^ k) (hk : k ≤ 400000) : fit ((n : Nat) : Int) = true := fit_of k (by rw [Int.natAbs_natCast]; exact h) hk
theorem eIf_t {c : Sl → M Bool} {a b : Sl → M CV} {τ : Sl} {v : CV} {h h1 h2 : Mem} (q : c τ h = .ok true h1) (q2 : a τ h1 = .ok v h2) : eIf c a b τ h = .ok v h2 := by rw [rd_eIf, q]; exact q2
theorem eIf_f {c : Sl → M Bool} {a b : Sl → M CV} {τ : Sl} {v : CV} {h h1 h2 : Mem} (q : c τ h = .ok false h1) (q2 : b τ h1 = .ok v h2) : eIf c a b τ h = .ok v h2 := by rw [rd_eIf, q]; exact q2
theorem pow10 {k : Nat} {h : Mem} (hk : k ≤ 1000) : pyPow (.int 10) (.int k) h = .ok (.int (10 ^ k)) h := by
  unfold pyPow
  simp only [rd_ret]
  rw [if_pos ⟨by omega, by omega, by decide⟩]
  rfl
theorem fmodf {x m : Int} (hm : 0 < m) (h : m.natAbs ≤ 2 ^ 1000) : fit (x.fmod m) = true := fmod_fit hm (Nat.le_trans h (Nat.pow_le_pow_right (by decide) (by decide)))
theorem cell_ok {ns : List Int} {s : Nat} {h : Mem} {x y : Option CV} : ∃ v : Int, eIf (bOf (eOp pyLt (eVar 1) (eB VE.pyLen (eConsA (eVar 0) eNilA)))) (eB VE.pyInt (eConsA (eOp pyIx (eVar 0) (eVar 1)) eNilA)) (eOp pyAdd (eOp pyMul (eC (.int 89)) (eVar 1)) (eC (.int 53))) [some (.frz (ns.map CV.int)), some (.int s), x, y] h = .ok (.int v) h ∨ 2 ^ 20 < s := by
  by_cases hs : 2 ^ 20 < s
  · exact ⟨0, .inr hs⟩
  have q : bOf (eOp pyLt (eVar 1) (eB VE.pyLen (eConsA (eVar 0) eNilA))) [some (.frz (ns.map CV.int)), some (.int s), x, y] h = .ok (decide ((s : Int) < ((ns.map CV.int).length : Nat))) h := bOf_ok (eOp_ok (eVar_ok rfl) (eB_ok (eCons_ok (eVar_ok rfl) eNil_ok) rfl) rfl)
  by_cases hl : s < (ns.map CV.int).length
  · rw [decide_eq_true (by omega)] at q
    have hl' : s < ns.length := by simpa using hl
    refine ⟨ns[s], .inl (eIf_t q (eB_ok (eCons_ok (eOp_ok (eVar_ok rfl) (eVar_ok rfl) (show pyIx (.frz (ns.map CV.int)) (.int s) h = .ok (.int ns[s]) h by
      simp only [pyIx, seqOf, rd_pyAtN]; simp [hl'])) eNil_ok) rfl))⟩
  · rw [decide_eq_false (by omega)] at q
    exact ⟨_, .inl (eIf_f q (eOp_ok (eOp_ok eC_ok (eVar_ok rfl) (pyMul_int (by decide +kernel) (nfit (k := 20) (by omega) (by decide)))) eC_ok rfl))⟩
theorem dice_ok {ns : List Int} {s : Nat} {h : Mem} (hs : s ≤ 2 ^ 20) : ∃ h', F_law_dice [.frz (ns.map CV.int), .int s] h = .ok (.ref h.length) h' ∧ DiceN h' h.length 0 := by
  obtain ⟨v, e | e⟩ := cell_ok (ns := ns) (s := s) (h := h) (x := none) (y := none)
  · have ab : ∀ τ : Sl, τ[2]? = some (some (.int v)) → eB pyAbs (eConsA (eVar 2) eNilA) τ h = .ok (.int (if v < 0 then -v else v)) h := fun τ q => eB_ok (eCons_ok (eVar_ok q) eNil_ok) rfl
    have fM : fit ((10 : Int) ^ 56) = true := pow_fit (by decide) (by decide)
    have fN : fit ((10 : Int) ^ 60) = true := pow_fit (by decide) (by decide)
    have nz : ¬ ((10 : Int) ^ 56 * (10 : Int) ^ 60 = 0) := by decide +kernel
    have e2 : ∃ a : Int, eOp pyMod (eB pyMax (eConsA (eC (.int 0)) (eConsA (eOp pySub (eB pyAbs (eConsA (eVar 2) eNilA)) (eOp pyPow (eC (.int 10)) (eC (.int 16)))) eNilA))) (eOp pyMul (eOp pyPow (eC (.int 10)) (eC (.int 56))) (eOp pyPow (eC (.int 10)) (eC (.int 60)))) [some (.frz (ns.map CV.int)), some (.int s), some (.int v), none] h = .ok (.int a) h := by
      have md0 : ∀ w : Int, pyMod (.int w) (.int ((10 : Int) ^ 56 * (10 : Int) ^ 60)) h = .ok (.int (w.fmod ((10 : Int) ^ 56 * (10 : Int) ^ 60))) h := fun w => by
        unfold pyMod
        simp only [ne_eq, nz, not_false_eq_true, if_true, rd_ret]
      exact ⟨_, eOp_ok (eB_ok (eCons_ok eC_ok (eCons_ok (eOp_ok (ab _ rfl) (eOp_ok eC_ok eC_ok (pow10 (k := 16) (by omega))) rfl) eNil_ok)) rfl) (eOp_ok (eOp_ok eC_ok eC_ok (pow10 (k := 56) (by omega))) (eOp_ok eC_ok eC_ok (pow10 (k := 60) (by omega))) (pyMul_int fM fN)) (md0 _)⟩
    obtain ⟨a, e2⟩ := e2
    have e3 : ∃ b : Int, eOp pyAdd (eOp pyAdd (eOp pyAdd (eOp pyMul (eOp pyMod (eB pyAbs (eConsA (eVar 2) eNilA)) (eC (.int 1152921504606846869))) (eC (.int 61))) (eOp pyMul (eC (.int 1009)) (eVar 1))) (eOp pyMul (eC (.int 43)) (eB VE.pyInt (eConsA (eOp pyLt (eVar 2) (eC (.int 0))) eNilA)))) (eC (.int 17)) [some (.frz (ns.map CV.int)), some (.int s), some (.int v), some (.int a)] h = .ok (.int b) h := by
      have md : pyMod (.int (if v < 0 then -v else v)) (.int 1152921504606846869) h = .ok (.int ((if v < 0 then -v else v).fmod 1152921504606846869)) h := by
        unfold pyMod
        simp only [ne_eq, show ¬ ((1152921504606846869 : Int) = 0) by decide, not_false_eq_true, if_true, rd_ret]
      have fb : fit (if decide (v < 0) = true then (1 : Int) else 0) = true := by split <;> decide +kernel
      exact ⟨_, eOp_ok (eOp_ok (eOp_ok (eOp_ok (eOp_ok (ab _ rfl) eC_ok md) eC_ok (pyMul_int (fmodf (by decide) (by decide +kernel)) (by decide +kernel))) (eOp_ok eC_ok (eVar_ok rfl) (pyMul_int (by decide +kernel) (nfit hs (by decide)))) rfl)
        (eOp_ok eC_ok (eB_ok (eCons_ok (eOp_ok (eVar_ok rfl) eC_ok rfl) eNil_ok) rfl) (pyMul_int (by decide +kernel) fb)) rfl) eC_ok rfl⟩
    obtain ⟨b, e3⟩ := e3
    have e4 : eNew (eConsA (eVar 3) (eConsA (eOp pyAdd (eOp pyAdd (eOp pyAdd (eOp pyMul (eOp pyMod (eB pyAbs (eConsA (eVar 2) eNilA)) (eC (.int 1152921504606846869))) (eC (.int 61))) (eOp pyMul (eC (.int 1009)) (eVar 1))) (eOp pyMul (eC (.int 43)) (eB VE.pyInt (eConsA (eOp pyLt (eVar 2) (eC (.int 0))) eNilA)))) (eC (.int 17))) (eConsA (eC (.int 0)) eNilA))) [some (.frz (ns.map CV.int)), some (.int s), some (.int v), some (.int a)] h = .ok (.ref h.length) (h ++ [.lst [.int a, .int b, .int 0]]) := by
      rw [rd_eNew, eCons_ok (eVar_ok rfl) (eCons_ok e3 (eCons_ok eC_ok eNil_ok))]
      rfl
    refine ⟨_, run_rt rfl ((mSeq_nx (mAsg_ok e)).trans ((mSeq_nx (mAsg_ok e2)).trans (mRet_ok e4))), a, b, 0, ?_, by decide⟩
    unfold Dice
    simp
  · omega
theorem eLc_ok {it : Sl → M (List CV)} {g : CV → Sl → M Sl} {te : Sl → M CV} {vs : List Nat} {τ : Sl} {xs ys : List CV} {h : Mem} (e1 : it τ h = .ok xs h) (hl : xs.length ≤ 1000000) (e2 : lcL g bYes te (wipeC τ vs) xs h = .ok ys h) : eLc it g bYes te vs τ h = .ok (.lst ys) h := by
  unfold eLc
  rw [rd_bnd, e1]
  simp only [if_pos hl, e2]
theorem head_ok {ns : List Int} (hl : ns.length ≤ 63) {h : Mem} : ∃ m : Nat, m ≤ 3 ∧ iArgs rng1 (eConsA (eB pyMax (eConsA (eC (.int 1)) (eConsA (eB pyMin (eConsA (eC (.int 3)) (eConsA (eB VE.pyLen (eConsA (eVar 0) eNilA)) eNilA))) eNilA))) eNilA) (startC 6 [.frz (ns.map CV.int)]) h = .ok ((List.range m).map fun (i : Nat) => CV.int (0 + (i : Int))) h := by
  have q : ∃ m : Nat, m ≤ 3 ∧ eB pyMax (eConsA (eC (.int 1)) (eConsA (eB pyMin (eConsA (eC (.int 3)) (eConsA (eB VE.pyLen (eConsA (eVar 0) eNilA)) eNilA))) eNilA)) (startC 6 [.frz (ns.map CV.int)]) h = .ok (.int m) h := by
    have q1 : eB VE.pyLen (eConsA (eVar 0) eNilA) (startC 6 [.frz (ns.map CV.int)]) h = .ok (.int ((ns.map CV.int).length : Nat)) h := eB_ok (eCons_ok (eVar_ok rfl) eNil_ok) rfl
    have q2 := eB_ok (F := pyMin) (eCons_ok (eC_ok (v := .int 3)) (eCons_ok q1 eNil_ok)) rfl
    have q3 := eB_ok (F := pyMax) (eCons_ok (eC_ok (v := .int 1)) (eCons_ok q2 eNil_ok)) rfl
    refine ⟨(if (if (((ns.map CV.int).length : Nat) : Int) < 3 then (((ns.map CV.int).length : Nat) : Int) else 3) > 1 then (if (((ns.map CV.int).length : Nat) : Int) < 3 then (((ns.map CV.int).length : Nat) : Int) else 3) else 1).toNat, ?_, q3.trans ?_⟩
    · split <;> (try split) <;> omega
    · rw [Int.toNat_of_nonneg (by split <;> (try split) <;> omega)]
  obtain ⟨m, hm, q⟩ := q
  exact ⟨m, hm, iArgs_ok (eCons_ok q eNil_ok) (rng1_nat (by omega))⟩

theorem bAnd_f {a b : Sl → M Bool} {τ : Sl} {h h1 : Mem} (q : a τ h = .ok false h1) : bAnd a b τ h = .ok false h1 := by rw [rd_bAnd, q]
theorem bAnd_t {a b : Sl → M Bool} {τ : Sl} {h h1 h2 : Mem} {k : Bool} (q : a τ h = .ok true h1) (q2 : b τ h1 = .ok k h2) : bAnd a b τ h = .ok k h2 := by rw [rd_bAnd, q]; exact q2
theorem bOr_f {a b : Sl → M Bool} {τ : Sl} {h h1 h2 : Mem} {k : Bool} (q : a τ h = .ok false h1) (q2 : b τ h1 = .ok k h2) : bOr a b τ h = .ok k h2 := by rw [rd_bOr, q]; exact q2
def restR : MS := (mSeq (mAsg (gSet 4) (eB (callF 2 F_euler_number) (eConsA (eVar 1) (eConsA (eVar 3) eNilA))))
    (mSeq (mIf (bOf (eOp (pyEq true) (eVar 4) (eB (callF 2 F_law_due) (eConsA (eVar 1) (eConsA (eVar 3) eNilA))))) (mRet (eC (.bl false))) mNil)
    (mSeq (mAsg (gSet 5) (eB (callF 2 F_law_times) (eConsA (eTup (eConsA (eOp pySub (eOp pySub (eC (.int 2)) (eOp pyMul (eC (.int 2)) (eVar 1))) (eVar 3)) (eConsA (eC (.int 1)) eNilA))) (eConsA (eVar 4) eNilA))))
    (mSeq (mIf (bAnd (bOf (eOp pyLt (eVar 3) (eC (.int 20)))) (bOf (eOp (pyEq true) (eB (callF 2 F_euler_number) (eConsA (eVar 1) (eConsA (eOp pyAdd (eVar 3) (eC (.int 1))) eNilA))) (eVar 5)))) (mRet (eC (.bl false))) mNil)
    (mSeq (mAsg (gSet 6) (eIf (bOf (eOp (pyEq false) (eVar 1) (eC (.int 0)))) (eOp (pyEq false) (eOp pyMod (eB pyInt (eConsA (eOp pyAdd (eVar 3) (eVar 1)) eNilA)) (eC (.int 2))) (eC (.int 1))) (eOp (pyEq false) (eOp pyMod (eB pyInt (eConsA (eOp pyAdd (eOp pyAdd (eVar 3) (eVar 1)) (eC (.int 1))) eNilA)) (eC (.int 2))) (eC (.int 0)))))
    (mRet (eAnd (eOp (pyEq false) (eOp pyGt (eOp pyIx (eVar 4) (eC (.int 0))) (eC (.int 0))) (eVar 6)) (eOr (eOp pyGt (eVar 1) (eC (.int 0))) (eOp (pyEq false) (eOp pyIx (eVar 4) (eC (.int 1))) (eC (.int 1)))))))))))
def rest2 : MS := (mSeq (mAsg (gSet 6) (eIf (bOf (eOp (pyEq false) (eVar 1) (eC (.int 0)))) (eOp (pyEq false) (eOp pyMod (eB pyInt (eConsA (eOp pyAdd (eVar 3) (eVar 1)) eNilA)) (eC (.int 2))) (eC (.int 1))) (eOp (pyEq false) (eOp pyMod (eB pyInt (eConsA (eOp pyAdd (eOp pyAdd (eVar 3) (eVar 1)) (eC (.int 1))) eNilA)) (eC (.int 2))) (eC (.int 0)))))
    (mRet (eAnd (eOp (pyEq false) (eOp pyGt (eOp pyIx (eVar 4) (eC (.int 0))) (eC (.int 0))) (eVar 6)) (eOr (eOp pyGt (eVar 1) (eC (.int 0))) (eOp (pyEq false) (eOp pyIx (eVar 4) (eC (.int 1))) (eC (.int 1)))))))
def pairs : List (Nat × Nat) := ((List.range 441).map fun k => (k / 21, k % 21)).filter fun p => Nat.ble 3 (2 * p.1 + p.2)
theorem ckR : ∀ (l : Nat) (x y : Option CV) (hp : Mem), pairs.map (fun p => rest2 [some (.ref l), some (.int (p.1 : Nat)), x, some (.int (p.2 : Nat)), some (qCV (eT p.1 p.2)), y, none] hp) = pairs.map (fun _ => .mk (.rt (.bl true)) hp) := fun l x y hp => by kernel_rfl
theorem ckG : ∀ h : Nat, h < 6 → isQ (callF 1 F_law_glued [.int ((h + 1 : Nat) : Int)] []) (eT (h + 1) 1) = true := by decide +kernel
theorem restR_ok {h m l : Nat} (hh : h ≤ 20) (hm : m ≤ 20) (hx : 3 ≤ 2 * h + m) {x : Option CV} {hp : Mem} : restR [some (.ref l), some (.int h), x, some (.int m), none, none, none] hp = .mk (.rt (.bl true)) hp := by
  have k2 : rest2 [some (.ref l), some (.int h), x, some (.int m), some (qCV (eT h m)), some (qCV (eT h (m + 1))), none] hp = .mk (.rt (.bl true)) hp := by
    refine List.map_inj_left.mp (ckR l x (some (qCV (eT h (m + 1)))) hp) (h, m) ?_
    unfold pairs
    rw [List.mem_filter]
    refine ⟨List.mem_map.mpr ⟨21 * h + m, List.mem_range.mpr (by omega), ?_⟩, Nat.ble_eq.mpr hx⟩
    rw [Prod.mk.injEq]
    omega
  have c : bAnd (bOf (eOp pyLt (eVar 3) (eC (.int 20)))) (bOf (eOp (pyEq true) (eB (callF 2 F_euler_number) (eConsA (eVar 1) (eConsA (eOp pyAdd (eVar 3) (eC (.int 1))) eNilA))) (eVar 5))) [some (.ref l), some (.int h), x, some (.int m), some (qCV (eT h m)), some (qCV (eT h (m + 1))), none] hp = .ok false hp := by
    have c1 : bOf (eOp pyLt (eVar 3) (eC (.int 20))) [some (.ref l), some (.int h), x, some (.int m), some (qCV (eT h m)), some (qCV (eT h (m + 1))), none] hp = .ok (decide ((m : Int) < 20)) hp := bOf_ok (eOp_ok (eVar_ok rfl) eC_ok rfl)
    by_cases z : m < 20
    · rw [decide_eq_true (by omega)] at c1
      exact bAnd_t c1 (bOf_ok (eOp_ok (eB_ok (eCons_ok (eVar_ok rfl) (eCons_ok (eOp_ok (eVar_ok rfl) eC_ok (show pyAdd (.int (m : Int)) (.int 1) hp = .ok (.int ((m + 1 : Nat) : Int)) hp from rfl)) eNil_ok)) (eulerF hh (by omega) (by omega))) (eVar_ok rfl) pyEq_q))
    · rw [decide_eq_false (by omega)] at c1
      exact bAnd_f c1
  exact (mSeq_nx (mAsg_ok (eB_ok (eCons_ok (eVar_ok rfl) (eCons_ok (eVar_ok rfl) eNil_ok)) (eulerF hh hm hx)))).trans
    ((mSeq_nx ((mIf_f (bOf_ok (eOp_ok (eVar_ok rfl) (eB_ok (eCons_ok (eVar_ok rfl) (eCons_ok (eVar_ok rfl) eNil_ok)) (dueF hh hm hx)) pyEq_q))).trans rd_mNil)).trans
    ((mSeq_nx (mAsg_ok (eB_ok (eCons_ok (eTup2_ok (eOp_ok (eOp_ok eC_ok (eOp_ok eC_ok (eVar_ok rfl) (two_mul (by omega))) rfl) (eVar_ok rfl) rfl) eC_ok) (eCons_ok (eVar_ok rfl) eNil_ok)) (timesF hh hm hx)))).trans
    ((mSeq_nx ((mIf_f c).trans rd_mNil)).trans k2)))
def ls (a : Nat) : Nat := if a = 0 then 3 else if a = 1 then 1 else 0
theorem leastF {τ : Sl} {a : Nat} (e : τ[1]? = some (some (.int a))) (m : Mem) : eIf (bOf (eOp (pyEq false) (eVar 1) (eC (.int 0)))) (eC (.int 3)) (eB pyInt (eConsA (eOp (pyEq false) (eVar 1) (eC (.int 1))) eNilA)) τ m = .ok (.int (ls a : Nat)) m := by
  have c1 : bOf (eOp (pyEq false) (eVar 1) (eC (.int 0))) τ m = .ok (false ^^ decide ((a : Int) = 0)) m := bOf_ok (eOp_ok (eVar_ok e) eC_ok pyEq_int)
  unfold ls
  by_cases z : a = 0
  · rw [decide_eq_true (by omega)] at c1
    rw [if_pos z]
    exact eIf_t c1 eC_ok
  · rw [decide_eq_false (by omega)] at c1
    rw [if_neg z]
    by_cases z1 : a = 1
    · rw [if_pos z1]
      exact eIf_f c1 (eB_ok (eCons_ok (eOp_ok (eVar_ok e) eC_ok (pyEq_int.trans (by rw [decide_eq_true (by omega)]))) eNil_ok) rfl)
    · rw [if_neg z1]
      exact eIf_f c1 (eB_ok (eCons_ok (eOp_ok (eVar_ok e) eC_ok (pyEq_int.trans (by rw [decide_eq_false (by omega)]))) eNil_ok) rfl)
theorem right_ok {h : Mem} {l n : Nat} (d : DiceN h l n) (hn : n ≤ 1000) : ∃ h', F_law_right [.ref l] h = .ok (.bl true) h' ∧ DiceN h' l (n + 2) := by
  have big : ∀ k : Nat, k ≤ 1010 → k < 2 ^ 100 := fun k hk => Nat.lt_of_le_of_lt hk (by decide)
  obtain ⟨r, h1, r0, r1, e1, d1⟩ := roll_ok (t := 21) d (by omega) (by decide) (big n (by omega))
  obtain ⟨a, rfl⟩ := Int.eq_ofNat_of_zero_le r0
  have hl : ls a ≤ 3 ∧ (a = 0 → ls a = 3) ∧ (a = 1 → ls a = 1) := by unfold ls; split <;> (try split) <;> omega
  obtain ⟨r, h2, r0, r1', e2, d2⟩ := roll_ok (t := (21 : Int) - (ls a : Nat)) d1 (by omega) (Nat.le_trans (show ((21 : Int) - (ls a : Nat)).natAbs ≤ 100 by omega) (by decide)) (big (n + 1) (by omega))
  obtain ⟨b, rfl⟩ := Int.eq_ofNat_of_zero_le r0
  refine ⟨h2, run_rt rfl ((mSeq_nx (mAsg_ok (eCall_ok (eCons_ok (eVar_ok rfl) (eCons_ok eC_ok eNil_ok)) rfl e1))).trans ((mSeq_nx (mAsg_ok (leastF rfl h1))).trans
    ((mSeq_nx (mAsg_ok (eOp_ok (eVar_ok rfl) (eCall_ok (eCons_ok (eVar_ok rfl) (eCons_ok (eOp_ok eC_ok (eVar_ok rfl) rfl) eNil_ok)) rfl e2) (show pyAdd (.int (ls a : Nat)) (.int (b : Nat)) h2 = .ok (.int ((ls a + b : Nat) : Int)) h2 from rfl)))).trans (restR_ok (by omega) (by omega) (by omega))))), d2⟩
theorem turns_ok {a b c d : Option CV} {t : Option CV} {h : Mem} {l : Nat} (hd : DiceN h l 0) : ∃ t' h', mFor (iArgs rng1 (eConsA (eC (.int 6)) eNilA)) (gSet 3) l_law_0 [a, b, some (.ref l), t, c, d] h = .mk (.nx [a, b, some (.ref l), t', c, d]) h' ∧ DiceN h' l 12 := by
  obtain ⟨τ', h', e1, x, e2, e3⟩ := forL_inv (g := gSet 3) (b := l_law_0) (fun j τ h => ∃ x, τ = [a, b, some (.ref l), x, c, d] ∧ DiceN h l (2 * j)) ((List.range 6).map fun (i : Nat) => CV.int (0 + (i : Int))) 0
    [a, b, some (.ref l), t, c, d] h ⟨t, rfl, hd⟩ (fun i x τ h hx hi => by
      obtain ⟨y, rfl, hd⟩ := hi
      obtain ⟨hlt, rfl⟩ := upto0_at hx
      obtain ⟨h2, e, d2⟩ := right_ok hd (by omega)
      refine ⟨_, _, _, _, rd_gSet _ _, (mIf_f (b := mNil) (bNot_ok (bOf_ok (eCall_ok (eCons_ok (eVar_ok rfl) eNil_ok) rfl e)))).trans rd_mNil, some (.int i), rfl, ?_⟩
      rw [show 2 * (0 + i + 1) = 2 * (0 + i) + 2 by omega]
      exact d2)
  subst e2
  exact ⟨x, h', (mFor_nx (iArgs_ok (eCons_ok eC_ok eNil_ok) (rng1_nat (n := 6) (by omega)))).trans e1, e3⟩
theorem oneF {c : Nat} (hc : c < 6) {hp : Mem} : callF 1 F_one_rim_sum [.int ((c + 1 : Nat) : Int)] hp = .ok (qCV (eT (c + 1) 1)) hp := callF_q (isQ_eq (ckF c hc)) rfl rfl
theorem gluedF {c : Nat} (hc : c < 6) {hp : Mem} : callF 1 F_law_glued [.int ((c + 1 : Nat) : Int)] hp = .ok (qCV (eT (c + 1) 1)) hp := callF_m (isQ_eq (ckG c hc)) rfl
theorem turn_ok {ns : List Int} {s : Nat} {x y z w : Option CV} {h : Mem} (hs : s ≤ 2 ^ 20) : ∃ x' y' z' h', l_law_1 [some (.frz (ns.map CV.int)), some (.int s), x, y, z, w] h = .mk (.nx [some (.frz (ns.map CV.int)), some (.int s), x', y', z', w]) h' := by
  obtain ⟨h1, e1, d1⟩ := dice_ok (ns := ns) (h := h) hs
  obtain ⟨t', h2, e2, d2⟩ := turns_ok (a := some (.frz (ns.map CV.int))) (b := some (.int s)) (c := z) (d := w) (t := y) d1
  obtain ⟨r, h3, r0, r1, e3, d3⟩ := roll_ok (t := 6) d2 (by omega) (by decide) (Nat.lt_of_le_of_lt (show 12 ≤ 100 by omega) (by decide))
  obtain ⟨c, rfl⟩ := Int.eq_ofNat_of_zero_le r0
  have hc : c < 6 := by omega
  have q : ∀ m, pyAdd (.int 1) (.int (c : Nat)) m = .ok (.int ((c + 1 : Nat) : Int)) m := fun m => by
    show Out.ok (CV.int (1 + ((c : Nat) : Int))) m = _
    rw [show (1 : Int) + ((c : Nat) : Int) = ((c + 1 : Nat) : Int) by omega]
  exact ⟨_, _, _, h3, (mSeq_nx (mAsg_ok (eCall_ok (eCons_ok (eVar_ok rfl) (eCons_ok (eVar_ok rfl) eNil_ok)) rfl e1))).trans ((mSeq_nx e2).trans
    ((mSeq_nx (mAsg_ok (eOp_ok eC_ok (eCall_ok (eCons_ok (eVar_ok rfl) (eCons_ok eC_ok eNil_ok)) rfl e3) (q h3)))).trans
    ((mIf_f (bOr_f (bOf_ok (eOp_ok (eB_ok (eCons_ok (eVar_ok rfl) eNil_ok) (oneF hc)) (eB_ok (eCons_ok (eVar_ok rfl) (eCons_ok eC_ok eNil_ok)) (eulerF (m := 1) (by omega) (by omega) (by omega))) pyEq_q))
      (bOf_ok (eOp_ok (eB_ok (eCons_ok (eVar_ok rfl) eNil_ok) (gluedF hc)) (eB_ok (eCons_ok (eVar_ok rfl) (eCons_ok eC_ok eNil_ok)) (eulerF (m := 1) (by omega) (by omega) (by omega))) pyEq_q)))).trans rd_mNil)))⟩
def tailA : MS := (mSeq (mAsg (gSet 5) (eLst (eConsA (eB (callF 2 F_euler_number) (eConsA (eC (.int 0)) (eConsA (eC (.int 3)) eNilA))) (eConsA (eB (callF 2 F_euler_number) (eConsA (eC (.int 0)) (eConsA (eC (.int 6)) eNilA))) (eConsA (eB (callF 2 F_euler_number) (eConsA (eC (.int 1)) (eConsA (eC (.int 1)) eNilA))) (eConsA (eB (callF 2 F_euler_number) (eConsA (eC (.int 1)) (eConsA (eC (.int 2)) eNilA))) (eConsA (eB (callF 2 F_euler_number) (eConsA (eC (.int 2)) (eConsA (eC (.int 1)) eNilA))) (eConsA (eB (callF 2 F_euler_number) (eConsA (eC (.int 2)) (eConsA (eC (.int 0)) eNilA))) eNilA)))))))) (mIf (bOr (bOf (eOp (pyEq true) (eVar 5) (eLst (eConsA (eTup (eConsA (eC (.int 1)) (eConsA (eC (.int 1)) eNilA))) (eConsA (eTup (eConsA (eUn pyNeg (eC (.int 6))) (eConsA (eC (.int 1)) eNilA))) (eConsA (eTup (eConsA (eUn pyNeg (eC (.int 1))) (eConsA (eC (.int 12)) eNilA))) (eConsA (eTup (eConsA (eC (.int 1)) (eConsA (eC (.int 12)) eNilA))) (eConsA (eTup (eConsA (eC (.int 1)) (eConsA (eC (.int 120)) eNilA))) (eConsA (eTup (eConsA (eUn pyNeg (eC (.int 1))) (eConsA (eC (.int 240)) eNilA))) eNilA))))))))) (bOr (bOf (eOp (pyEq true) (eB (callF 2 F_euler_number) (eConsA (eC (.int 3)) (eConsA (eC (.int 2)) eNilA))) (eTup (eConsA (eC (.int 5)) (eConsA (eC (.int 252)) eNilA))))) (bOf (eOp (pyEq true) (eB (callF 2 F_euler_number) (eConsA (eC (.int 2)) (eConsA (eC (.int 3)) eNilA))) (eTup (eConsA (eC (.int 1)) (eConsA (eC (.int 10)) eNilA))))))) (mRet (eC (.bl false))) mNil))
def tailB : MS := (mRet (eOp (pyEq false) (eLc (iArgs rng2 (eConsA (eC (.int 1)) (eConsA (eC (.int 7)) eNilA))) (gSet 4) bYes l_law_2 [4]) (eLst (eConsA (eTup (eConsA (eUn pyNeg (eC (.int 1))) (eConsA (eC (.int 12)) eNilA))) (eConsA (eTup (eConsA (eC (.int 1)) (eConsA (eC (.int 120)) eNilA))) (eConsA (eTup (eConsA (eUn pyNeg (eC (.int 1))) (eConsA (eC (.int 252)) eNilA))) (eConsA (eTup (eConsA (eC (.int 1)) (eConsA (eC (.int 240)) eNilA))) (eConsA (eTup (eConsA (eUn pyNeg (eC (.int 1))) (eConsA (eC (.int 132)) eNilA))) (eConsA (eTup (eConsA (eC (.int 691)) (eConsA (eC (.int 32760)) eNilA))) eNilA)))))))))
theorem tailA_ok (a b c d e : Option CV) (h : Mem) : ∃ v, tailA [a, b, c, d, e, none] h = .mk (.nx [a, b, c, d, e, some v]) h := ⟨.lst [qCV (1, 1), qCV (-6, 1), qCV (-1, 12), qCV (1, 12), qCV (1, 120), qCV (-1, 240)], by kernel_rfl⟩
def six : List CV := [.tup [.int (-1), .int 12], .tup [.int 1, .int 120], .tup [.int (-1), .int 252], .tup [.int 1, .int 240], .tup [.int (-1), .int 132], .tup [.int 691, .int 32760]]
theorem six_eq : ((List.range 6).map fun i => qCV (eT (0 + i + 1) 1)) = six := by kernel_rfl
theorem six_lst (τ : Sl) (h : Mem) : (eLst (eConsA (eTup (eConsA (eUn pyNeg (eC (.int 1))) (eConsA (eC (.int 12)) eNilA))) (eConsA (eTup (eConsA (eC (.int 1)) (eConsA (eC (.int 120)) eNilA))) (eConsA (eTup (eConsA (eUn pyNeg (eC (.int 1))) (eConsA (eC (.int 252)) eNilA))) (eConsA (eTup (eConsA (eC (.int 1)) (eConsA (eC (.int 240)) eNilA))) (eConsA (eTup (eConsA (eUn pyNeg (eC (.int 1))) (eConsA (eC (.int 132)) eNilA))) (eConsA (eTup (eConsA (eC (.int 691)) (eConsA (eC (.int 32760)) eNilA))) eNilA))))))) τ h = .ok (.lst six) h := by kernel_rfl
theorem six_same (h : Mem) : pyEq false (.lst six) (.lst six) h = .ok (.bl true) h := by kernel_rfl
theorem tailB_ok (a b c d e f : Option CV) (h : Mem) : tailB [a, b, c, d, e, f] h = .mk (.rt (.bl true)) h := by
  have lc : lcL (gSet 4) bYes l_law_2 (wipeC [a, b, c, d, e, f] [4]) ((List.range 6).map fun (i : Nat) => CV.int (1 + (i : Int))) h = .ok ((List.range ((List.range 6).map fun (i : Nat) => CV.int (1 + (i : Int))).length).map fun i => qCV (eT (0 + i + 1) 1)) h := by
    refine lc_ok (fun i => qCV (eT (i + 1) 1)) _ 0 fun i x hx => ?_
    rw [List.getElem?_map] at hx
    by_cases hi : i < 6
    · rw [List.getElem?_range hi] at hx
      cases hx
      refine ⟨_, rd_gSet _ _, eB_ok (eCons_ok (eVar_ok (v := .int ((i + 1 : Nat) : Int)) ?_) eNil_ok) (by rw [Nat.zero_add]; exact oneF hi)⟩
      rw [show ((i + 1 : Nat) : Int) = 1 + (i : Int) by omega]; rfl
    · rw [List.getElem?_eq_none (by simpa using hi)] at hx; cases hx
  rw [List.length_map, List.length_range, six_eq] at lc
  exact mRet_ok (eOp_ok (eLc_ok (iArgs_ok (eCons_ok eC_ok (eCons_ok eC_ok eNil_ok)) (show rng2 [.int 1, .int 7] h = .ok ((List.range 6).map fun (i : Nat) => CV.int (1 + (i : Int))) h from rfl)) (by rw [List.length_map, List.length_range]; omega) lc) (six_lst _ _) (six_same h))
theorem law_true (ns : List Int) (hl : ns.length ≤ 63) : ∃ h, F_law [.frz (ns.map CV.int)] [] = .ok (.bl true) h := by
  obtain ⟨m, hm, q⟩ := head_ok hl (h := [])
  obtain ⟨τ', h', e1, x, y, z, w, e2⟩ := forL_inv (g := gSet 1) (b := l_law_1) (fun j τ h => ∃ x y z w, τ = [some (.frz (ns.map CV.int)), x, y, z, w, none]) ((List.range m).map fun (i : Nat) => CV.int (0 + (i : Int))) 0
    (startC 6 [.frz (ns.map CV.int)]) [] ⟨none, none, none, none, rfl⟩ (fun i x τ h hx hi => by
      obtain ⟨a, b, c, d, rfl⟩ := hi
      obtain ⟨hlt, rfl⟩ := upto0_at hx
      obtain ⟨x', y', z', h2, e⟩ := turn_ok (ns := ns) (s := i) (x := b) (y := c) (z := d) (w := none) (h := h) (by omega)
      exact ⟨_, _, _, _, rd_gSet _ _, e, some (.int i), x', y', z', rfl⟩)
  subst e2
  obtain ⟨v, e3⟩ := tailA_ok (some (.frz (ns.map CV.int))) x y z w h'
  have e4 : mSeq (mAsg (gSet 5) (eLst (eConsA (eB (callF 2 F_euler_number) (eConsA (eC (.int 0)) (eConsA (eC (.int 3)) eNilA))) (eConsA (eB (callF 2 F_euler_number) (eConsA (eC (.int 0)) (eConsA (eC (.int 6)) eNilA))) (eConsA (eB (callF 2 F_euler_number) (eConsA (eC (.int 1)) (eConsA (eC (.int 1)) eNilA))) (eConsA (eB (callF 2 F_euler_number) (eConsA (eC (.int 1)) (eConsA (eC (.int 2)) eNilA))) (eConsA (eB (callF 2 F_euler_number) (eConsA (eC (.int 2)) (eConsA (eC (.int 1)) eNilA))) (eConsA (eB (callF 2 F_euler_number) (eConsA (eC (.int 2)) (eConsA (eC (.int 0)) eNilA))) eNilA)))))))) (mSeq (mIf (bOr (bOf (eOp (pyEq true) (eVar 5) (eLst (eConsA (eTup (eConsA (eC (.int 1)) (eConsA (eC (.int 1)) eNilA))) (eConsA (eTup (eConsA (eUn pyNeg (eC (.int 6))) (eConsA (eC (.int 1)) eNilA))) (eConsA (eTup (eConsA (eUn pyNeg (eC (.int 1))) (eConsA (eC (.int 12)) eNilA))) (eConsA (eTup (eConsA (eC (.int 1)) (eConsA (eC (.int 12)) eNilA))) (eConsA (eTup (eConsA (eC (.int 1)) (eConsA (eC (.int 120)) eNilA))) (eConsA (eTup (eConsA (eUn pyNeg (eC (.int 1))) (eConsA (eC (.int 240)) eNilA))) eNilA))))))))) (bOr (bOf (eOp (pyEq true) (eB (callF 2 F_euler_number) (eConsA (eC (.int 3)) (eConsA (eC (.int 2)) eNilA))) (eTup (eConsA (eC (.int 5)) (eConsA (eC (.int 252)) eNilA))))) (bOf (eOp (pyEq true) (eB (callF 2 F_euler_number) (eConsA (eC (.int 2)) (eConsA (eC (.int 3)) eNilA))) (eTup (eConsA (eC (.int 1)) (eConsA (eC (.int 10)) eNilA))))))) (mRet (eC (.bl false))) mNil) tailB) [some (.frz (ns.map CV.int)), x, y, z, w, none] h' = .mk (.rt (.bl true)) h' := by
    unfold tailA at e3
    rw [rd_mSeq] at e3 ⊢
    rcases c : mAsg (gSet 5) _ [some (.frz (ns.map CV.int)), x, y, z, w, none] h' with ⟨f, h2⟩ | _
    · rw [c] at e3
      cases f with
      | nx τ2 => exact (mSeq_nx e3).trans (tailB_ok _ _ _ _ _ _ _)
      | _ => cases e3
    · rw [c] at e3; cases e3
  exact ⟨h', run_rt rfl ((mSeq_nx ((mFor_nx q).trans e1)).trans e4)⟩
end Lw
end
namespace Lw
open PySem PySem.Spec PyProof.Rows L2 VE
theorem end_law {P : Program} {w : World} {K : PySem.W.Frag} {mg : Str → Option Value} {fa ca : Nat → Addr} {fd : Nat → FuncData} (T : Txt K mg fa ca fd) {f : Addr} (hf : mg "law" = some (.ref f)) :
    ∃ fd : FuncData, (∀ (s : Shared) (u : Value), BindsTo s fd ⟨[u], []⟩ [("script", u)]) ∧ ∀ base : Heap, K.In base → base.Ns mainGlobals mg → FnOk P w K mg base (L2.CX P w) 9 f fd ["script"] (spLaw K) := by
  have e := hf.symm.trans T.d_law
  cases e
  obtain ⟨oc, od, kV, doc, pm, an, cdv, ct, osl, efd, lk, hcd⟩ := T.f_law.ex
  refine ⟨fd 38, fun s u => ?_, fun base _ _ => (ok_law T).imp fun vs H Q E h => spLaw_of (G := GG K fa ca) rfl law_true vs H Q E h⟩
  rw [efd]
  exact .of_eq rfl
end Lw
open PySem PySem.W PyProof.Rows
set_option maxRecDepth 100000 in
set_option maxHeartbeats 0 in
theorem PySem.Challenge.cw_bandrims_k62_whole_euler_numbers_holds : PySem.Challenge.rw_bandrims_k62_whole_euler_numbers.Holds := by
  w_on; o_law; k_head; (case hw => w_witness2)
  k_fill
  refine VE.walk_law (k := 9) (l := PySem.Challenge.rw_bandrims_k62_whole_euler_numbers) ⟨rfl, by decide, by decide⟩ rfl rfl (fun w h Y => PySem.W.kIn_of Y) ?F
  case F =>
    intro w mg fa h KX G hmg
    obtain ⟨f0, fd0, d0, F0⟩ : ∃ (f : Addr) (fd : FuncData), mg "is_whole" = some (.ref f) ∧ L2.Fun _ "is_whole" "is_whole" Lw.s_is_whole f fd := by
      refine' VE.def_mk KX G ?a ?l ?c ?k; (case a => k_is); (case l => k_is); (case c => k_is); (case k => k_is)
    obtain ⟨f1, fd1, d1, F1⟩ : ∃ (f : Addr) (fd : FuncData), mg "is_integer" = some (.ref f) ∧ L2.Fun _ "is_integer" "is_integer" Lw.s_is_integer f fd := by
      refine' VE.def_mk KX G ?a ?l ?c ?k; (case a => k_is); (case l => k_is); (case c => k_is); (case k => k_is)
    obtain ⟨f2, fd2, d2, F2⟩ : ∃ (f : Addr) (fd : FuncData), mg "is_within" = some (.ref f) ∧ L2.Fun _ "is_within" "is_within" Lw.s_is_within f fd := by
      refine' VE.def_mk KX G ?a ?l ?c ?k; (case a => k_is); (case l => k_is); (case c => k_is); (case k => k_is)
    obtain ⟨f3, fd3, d3, F3⟩ : ∃ (f : Addr) (fd : FuncData), mg "require_within" = some (.ref f) ∧ L2.Fun _ "require_within" "require_within" Lw.s_require_within f fd := by
      refine' VE.def_mk KX G ?a ?l ?c ?k; (case a => k_is); (case l => k_is); (case c => k_is); (case k => k_is)
    obtain ⟨f4, fd4, d4, F4⟩ : ∃ (f : Addr) (fd : FuncData), mg "fraction_in" = some (.ref f) ∧ L2.Fun _ "fraction_in" "fraction_in" Lw.s_fraction_in f fd := by
      refine' VE.def_mk KX G ?a ?l ?c ?k; (case a => k_is); (case l => k_is); (case c => k_is); (case k => k_is)
    obtain ⟨f5, fd5, d5, F5⟩ : ∃ (f : Addr) (fd : FuncData), mg "sum_in" = some (.ref f) ∧ L2.Fun _ "sum_in" "sum_in" Lw.s_sum_in f fd := by
      refine' VE.def_mk KX G ?a ?l ?c ?k; (case a => k_is); (case l => k_is); (case c => k_is); (case k => k_is)
    obtain ⟨f6, fd6, d6, F6⟩ : ∃ (f : Addr) (fd : FuncData), mg "product_in" = some (.ref f) ∧ L2.Fun _ "product_in" "product_in" Lw.s_product_in f fd := by
      refine' VE.def_mk KX G ?a ?l ?c ?k; (case a => k_is); (case l => k_is); (case c => k_is); (case k => k_is)
    obtain ⟨f7, fd7, d7, F7⟩ : ∃ (f : Addr) (fd : FuncData), mg "quotient_in" = some (.ref f) ∧ L2.Fun _ "quotient_in" "quotient_in" Lw.s_quotient_in f fd := by
      refine' VE.def_mk KX G ?a ?l ?c ?k; (case a => k_is); (case l => k_is); (case c => k_is); (case k => k_is)
    obtain ⟨f8, fd8, d8, F8⟩ : ∃ (f : Addr) (fd : FuncData), mg "total_in" = some (.ref f) ∧ L2.Fun _ "total_in" "total_in" Lw.s_total_in f fd := by
      refine' VE.def_mk KX G ?a ?l ?c ?k; (case a => k_is); (case l => k_is); (case c => k_is); (case k => k_is)
    obtain ⟨f9, fd9, d9, F9⟩ : ∃ (f : Addr) (fd : FuncData), mg "power_in" = some (.ref f) ∧ L2.Fun _ "power_in" "power_in" Lw.s_power_in f fd := by
      refine' VE.def_mk KX G ?a ?l ?c ?k; (case a => k_is); (case l => k_is); (case c => k_is); (case k => k_is)
    obtain ⟨f10, fd10, d10, F10⟩ : ∃ (f : Addr) (fd : FuncData), mg "product_from" = some (.ref f) ∧ L2.Fun _ "product_from" "product_from" Lw.s_product_from f fd := by
      refine' VE.def_mk KX G ?a ?l ?c ?k; (case a => k_is); (case l => k_is); (case c => k_is); (case k => k_is)
    obtain ⟨f11, fd11, d11, F11⟩ : ∃ (f : Addr) (fd : FuncData), mg "bernoulli_row" = some (.ref f) ∧ L2.Fun _ "bernoulli_row" "bernoulli_row" Lw.s_bernoulli_row f fd := by
      refine' VE.def_mk KX G ?a ?l ?c ?k; (case a => k_is); (case l => k_is); (case c => k_is); (case k => k_is)
    obtain ⟨f12, fd12, d12, F12⟩ : ∃ (f : Addr) (fd : FuncData), mg "bernoulli" = some (.ref f) ∧ L2.Fun _ "bernoulli" "bernoulli" Lw.s_bernoulli f fd := by
      refine' VE.def_mk KX G ?a ?l ?c ?k; (case a => k_is); (case l => k_is); (case c => k_is); (case k => k_is)
    obtain ⟨f14, fd14, d14, F14⟩ : ∃ (f : Addr) (fd : FuncData), mg "number_at" = some (.ref f) ∧ L2.Fun _ "number_at" "number_at" Lw.s_number_at f fd := by
      refine' VE.def_mk KX G ?a ?l ?c ?k; (case a => k_is); (case l => k_is); (case c => k_is); (case k => k_is)
    obtain ⟨f13, fd13, d13, F13⟩ : ∃ (f : Addr) (fd : FuncData), mg "rows_to" = some (.ref f) ∧ L2.Fun _ "rows_to" "rows_to" Lw.s_rows_to f fd := by
      refine' VE.def_mk KX G ?a ?l ?c ?k; (case a => k_is); (case l => k_is); (case c => k_is); (case k => k_is)
    obtain ⟨f15, fd15, d15, F15⟩ : ∃ (f : Addr) (fd : FuncData), mg "column_to" = some (.ref f) ∧ L2.Fun _ "column_to" "column_to" Lw.s_column_to f fd := by
      refine' VE.def_mk KX G ?a ?l ?c ?k; (case a => k_is); (case l => k_is); (case c => k_is); (case k => k_is)
    obtain ⟨f16, fd16, d16, F16⟩ : ∃ (f : Addr) (fd : FuncData), mg "full_factor" = some (.ref f) ∧ L2.Fun _ "full_factor" "full_factor" Lw.s_full_factor f fd := by
      refine' VE.def_mk KX G ?a ?l ?c ?k; (case a => k_is); (case l => k_is); (case c => k_is); (case k => k_is)
    obtain ⟨f17, fd17, d17, F17⟩ : ∃ (f : Addr) (fd : FuncData), mg "full_in" = some (.ref f) ∧ L2.Fun _ "full_in" "full_in" Lw.s_full_in f fd := by
      refine' VE.def_mk KX G ?a ?l ?c ?k; (case a => k_is); (case l => k_is); (case c => k_is); (case k => k_is)
    obtain ⟨f18, fd18, d18, F18⟩ : ∃ (f : Addr) (fd : FuncData), mg "require_handles" = some (.ref f) ∧ L2.Fun _ "require_handles" "require_handles" Lw.s_require_handles f fd := by
      refine' VE.def_mk KX G ?a ?l ?c ?k; (case a => k_is); (case l => k_is); (case c => k_is); (case k => k_is)
    obtain ⟨f19, fd19, d19, F19⟩ : ∃ (f : Addr) (fd : FuncData), mg "full_gluings" = some (.ref f) ∧ L2.Fun _ "full_gluings" "full_gluings" Lw.s_full_gluings f fd := by
      refine' VE.def_mk KX G ?a ?l ?c ?k; (case a => k_is); (case l => k_is); (case c => k_is); (case k => k_is)
    obtain ⟨f21, fd21, d21, F21⟩ : ∃ (f : Addr) (fd : FuncData), mg "signed" = some (.ref f) ∧ L2.Fun _ "signed" "signed" Lw.s_signed f fd := by
      refine' VE.def_mk KX G ?a ?l ?c ?k; (case a => k_is); (case l => k_is); (case c => k_is); (case k => k_is)
    obtain ⟨f20, fd20, d20, F20⟩ : ∃ (f : Addr) (fd : FuncData), mg "euler_in" = some (.ref f) ∧ L2.Fun _ "euler_in" "euler_in" Lw.s_euler_in f fd := by
      refine' VE.def_mk KX G ?a ?l ?c ?k; (case a => k_is); (case l => k_is); (case c => k_is); (case k => k_is)
    obtain ⟨f22, fd22, d22, F22⟩ : ∃ (f : Addr) (fd : FuncData), mg "euler_number" = some (.ref f) ∧ L2.Fun _ "euler_number" "euler_number" Lw.s_euler_number f fd := by
      refine' VE.def_mk KX G ?a ?l ?c ?k; (case a => k_is); (case l => k_is); (case c => k_is); (case k => k_is)
    obtain ⟨f23, fd23, d23, F23⟩ : ∃ (f : Addr) (fd : FuncData), mg "one_rim_sum" = some (.ref f) ∧ L2.Fun _ "one_rim_sum" "one_rim_sum" Lw.s_one_rim_sum f fd := by
      refine' VE.def_mk KX G ?a ?l ?c ?k; (case a => k_is); (case l => k_is); (case c => k_is); (case k => k_is)
    obtain ⟨f24, fd24, d24, F24⟩ : ∃ (f : Addr) (fd : FuncData), mg "_law_dice" = some (.ref f) ∧ L2.Fun _ "_law_dice" "_law_dice" Lw.s_law_dice f fd := by
      refine' VE.def_mk KX G ?a ?l ?c ?k; (case a => k_is); (case l => k_is); (case c => k_is); (case k => k_is)
    obtain ⟨f25, fd25, d25, F25⟩ : ∃ (f : Addr) (fd : FuncData), mg "_law_roll" = some (.ref f) ∧ L2.Fun _ "_law_roll" "_law_roll" Lw.s_law_roll f fd := by
      refine' VE.def_mk KX G ?a ?l ?c ?k; (case a => k_is); (case l => k_is); (case c => k_is); (case k => k_is)
    obtain ⟨f26, fd26, d26, F26⟩ : ∃ (f : Addr) (fd : FuncData), mg "_law_gcd" = some (.ref f) ∧ L2.Fun _ "_law_gcd" "_law_gcd" Lw.s_law_gcd f fd := by
      refine' VE.def_mk KX G ?a ?l ?c ?k; (case a => k_is); (case l => k_is); (case c => k_is); (case k => k_is)
    obtain ⟨f27, fd27, d27, F27⟩ : ∃ (f : Addr) (fd : FuncData), mg "_law_fraction" = some (.ref f) ∧ L2.Fun _ "_law_fraction" "_law_fraction" Lw.s_law_fraction f fd := by
      refine' VE.def_mk KX G ?a ?l ?c ?k; (case a => k_is); (case l => k_is); (case c => k_is); (case k => k_is)
    obtain ⟨f28, fd28, d28, F28⟩ : ∃ (f : Addr) (fd : FuncData), mg "_law_plus" = some (.ref f) ∧ L2.Fun _ "_law_plus" "_law_plus" Lw.s_law_plus f fd := by
      refine' VE.def_mk KX G ?a ?l ?c ?k; (case a => k_is); (case l => k_is); (case c => k_is); (case k => k_is)
    obtain ⟨f29, fd29, d29, F29⟩ : ∃ (f : Addr) (fd : FuncData), mg "_law_times" = some (.ref f) ∧ L2.Fun _ "_law_times" "_law_times" Lw.s_law_times f fd := by
      refine' VE.def_mk KX G ?a ?l ?c ?k; (case a => k_is); (case l => k_is); (case c => k_is); (case k => k_is)
    obtain ⟨f30, fd30, d30, F30⟩ : ∃ (f : Addr) (fd : FuncData), mg "_law_over" = some (.ref f) ∧ L2.Fun _ "_law_over" "_law_over" Lw.s_law_over f fd := by
      refine' VE.def_mk KX G ?a ?l ?c ?k; (case a => k_is); (case l => k_is); (case c => k_is); (case k => k_is)
    obtain ⟨f31, fd31, d31, F31⟩ : ∃ (f : Addr) (fd : FuncData), mg "_law_sum" = some (.ref f) ∧ L2.Fun _ "_law_sum" "_law_sum" Lw.s_law_sum f fd := by
      refine' VE.def_mk KX G ?a ?l ?c ?k; (case a => k_is); (case l => k_is); (case c => k_is); (case k => k_is)
    obtain ⟨f32, fd32, d32, F32⟩ : ∃ (f : Addr) (fd : FuncData), mg "_law_factorial" = some (.ref f) ∧ L2.Fun _ "_law_factorial" "_law_factorial" Lw.s_law_factorial f fd := by
      refine' VE.def_mk KX G ?a ?l ?c ?k; (case a => k_is); (case l => k_is); (case c => k_is); (case k => k_is)
    obtain ⟨f33, fd33, d33, F33⟩ : ∃ (f : Addr) (fd : FuncData), mg "_law_binomial" = some (.ref f) ∧ L2.Fun _ "_law_binomial" "_law_binomial" Lw.s_law_binomial f fd := by
      refine' VE.def_mk KX G ?a ?l ?c ?k; (case a => k_is); (case l => k_is); (case c => k_is); (case k => k_is)
    obtain ⟨f34, fd34, d34, F34⟩ : ∃ (f : Addr) (fd : FuncData), mg "_law_bernoulli" = some (.ref f) ∧ L2.Fun _ "_law_bernoulli" "_law_bernoulli" Lw.s_law_bernoulli f fd := by
      refine' VE.def_mk KX G ?a ?l ?c ?k; (case a => k_is); (case l => k_is); (case c => k_is); (case k => k_is)
    obtain ⟨f35, fd35, d35, F35⟩ : ∃ (f : Addr) (fd : FuncData), mg "_law_due" = some (.ref f) ∧ L2.Fun _ "_law_due" "_law_due" Lw.s_law_due f fd := by
      refine' VE.def_mk KX G ?a ?l ?c ?k; (case a => k_is); (case l => k_is); (case c => k_is); (case k => k_is)
    obtain ⟨f36, fd36, d36, F36⟩ : ∃ (f : Addr) (fd : FuncData), mg "_law_right" = some (.ref f) ∧ L2.Fun _ "_law_right" "_law_right" Lw.s_law_right f fd := by
      refine' VE.def_mk KX G ?a ?l ?c ?k; (case a => k_is); (case l => k_is); (case c => k_is); (case k => k_is)
    obtain ⟨f37, fd37, d37, F37⟩ : ∃ (f : Addr) (fd : FuncData), mg "_law_glued" = some (.ref f) ∧ L2.Fun _ "_law_glued" "_law_glued" Lw.s_law_glued f fd := by
      refine' VE.def_mk KX G ?a ?l ?c ?k; (case a => k_is); (case l => k_is); (case c => k_is); (case k => k_is)
    obtain ⟨f38, fd38, d38, F38⟩ : ∃ (f : Addr) (fd : FuncData), mg "law" = some (.ref f) ∧ L2.Fun _ "law" "law" Lw.s_law f fd := by
      refine' VE.def_mk KX G ?a ?l ?c ?k; (case a => k_is); (case l => k_is); (case c => k_is); (case k => k_is)
    refine Lw.end_law (fa := fun i => ([f0, f1, f2, f3, f4, f5, f6, f7, f8, f9, f10, f11, f12, f13, f14, f15, f16, f17, f18, f19, f20, f21, f22, f23, f24, f25, f26, f27, f28, f29, f30, f31, f32, f33, f34, f35, f36, f37, f38] : List Addr).getD i 0) (ca := fun _ => 0) (fd := fun i => ([fd0, fd1, fd2, fd3, fd4, fd5, fd6, fd7, fd8, fd9, fd10, fd11, fd12, fd13, fd14, fd15, fd16, fd17, fd18, fd19, fd20, fd21, fd22, fd23, fd24, fd25, fd26, fd27, fd28, fd29, fd30, fd31, fd32, fd33, fd34, fd35, fd36, fd37, fd38] : List FuncData).getD i fd0) {
      d_is_whole := d0
      f_is_whole := F0
      d_is_integer := d1
      f_is_integer := F1
      d_is_within := d2
      f_is_within := F2
      d_require_within := d3
      f_require_within := F3
      d_fraction_in := d4
      f_fraction_in := F4
      d_sum_in := d5
      f_sum_in := F5
      d_product_in := d6
      f_product_in := F6
      d_quotient_in := d7
      f_quotient_in := F7
      d_total_in := d8
      f_total_in := F8
      d_power_in := d9
      f_power_in := F9
      d_product_from := d10
      f_product_from := F10
      d_bernoulli_row := d11
      f_bernoulli_row := F11
      d_bernoulli := d12
      f_bernoulli := F12
      d_number_at := d14
      f_number_at := F14
      d_rows_to := d13
      f_rows_to := F13
      d_column_to := d15
      f_column_to := F15
      d_full_factor := d16
      f_full_factor := F16
      d_full_in := d17
      f_full_in := F17
      d_require_handles := d18
      f_require_handles := F18
      d_full_gluings := d19
      f_full_gluings := F19
      d_signed := d21
      f_signed := F21
      d_euler_in := d20
      f_euler_in := F20
      d_euler_number := d22
      f_euler_number := F22
      d_one_rim_sum := d23
      f_one_rim_sum := F23
      d_law_dice := d24
      f_law_dice := F24
      d_law_roll := d25
      f_law_roll := F25
      d_law_gcd := d26
      f_law_gcd := F26
      d_law_fraction := d27
      f_law_fraction := F27
      d_law_plus := d28
      f_law_plus := F28
      d_law_times := d29
      f_law_times := F29
      d_law_over := d30
      f_law_over := F30
      d_law_sum := d31
      f_law_sum := F31
      d_law_factorial := d32
      f_law_factorial := F32
      d_law_binomial := d33
      f_law_binomial := F33
      d_law_bernoulli := d34
      f_law_bernoulli := F34
      d_law_due := d35
      f_law_due := F35
      d_law_right := d36
      f_law_right := F36
      d_law_glued := d37
      f_law_glued := F37
      d_law := d38
      f_law := F38
      z_abs := PySem.W.mg_none_of KX G (by k_is)
      z_bool := PySem.W.mg_none_of KX G (by k_is)
      z_enumerate := PySem.W.mg_none_of KX G (by k_is)
      z_int := PySem.W.mg_none_of KX G (by k_is)
      z_isinstance := PySem.W.mg_none_of KX G (by k_is)
      z_len := PySem.W.mg_none_of KX G (by k_is)
      z_max := PySem.W.mg_none_of KX G (by k_is)
      z_min := PySem.W.mg_none_of KX G (by k_is)
      z_range := PySem.W.mg_none_of KX G (by k_is)
      i_comb := PySem.W.mg_of KX G (by k_is)
      i_gcd := PySem.W.mg_of KX G (by k_is)
      c_BOUND := by (refine' VE.int_mk KX G ?a; (case a => k_is))
      c_MAX_BERNOULLI := by (refine' VE.int_mk KX G ?a; (case a => k_is))
      c_MAX_EULER := by (refine' VE.int_mk KX G ?a; (case a => k_is))
      c_MOST_GLUED := by (refine' VE.int_mk KX G ?a; (case a => k_is))
      c_MOST_TIES := by (refine' VE.int_mk KX G ?a; (case a => k_is))
      c_ONE := by (refine' VE.gk_mk KX G ?a ?k; (case a => k_is); (case k => exact (by refine' VE.tup_mk ?l ?s ?r; (case l => k_is); (case s => decide); (case r => exact ⟨_, _, rfl, ⟨_, rfl⟩, ⟨_, _, rfl, ⟨_, rfl⟩, rfl⟩⟩))))
      c_ZERO_euler := by (refine' VE.gk_mk KX G ?a ?k; (case a => k_is); (case k => exact (by refine' VE.tup_mk ?l ?s ?r; (case l => k_is); (case s => decide); (case r => exact ⟨_, _, rfl, ⟨_, rfl⟩, ⟨_, _, rfl, ⟨_, rfl⟩, rfl⟩⟩))))
      c_ZERO_numbers := by (refine' VE.gk_mk KX G ?a ?k; (case a => k_is); (case k => exact (by refine' VE.tup_mk ?l ?s ?r; (case l => k_is); (case s => decide); (case r => exact ⟨_, _, rfl, ⟨_, rfl⟩, ⟨_, _, rfl, ⟨_, rfl⟩, rfl⟩⟩))))
      } hmg
